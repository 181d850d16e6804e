import PyProof.Rows.All
import Wide.All
import OpenK.AllK
import Wide.FinOn
import HandS.ForMost
import HandS.Exc
import HandS.TryOnly
import HandS.ExcOwn
import HandS.Lambda
import HandS.EndTab
import HandS.Deep
import HandS.AnyAll
import KE.DataCmp
import KE.DataMinMax
import KE.SortData
import HandS.TupAny
import HandS.TupMul
import HandS.CallSlots
import HandS.WordsExc
import KE.DataFind
import HandS.Style
import KE.SortKeyHeap
import HandS.IsInst
import HandS.Conv
import HandS.Comp
import HandS.Zip
import HandS.Rev
import HandS.RevRange
import HandS.HeadHook4
import HandS.HeadWalk
import HandS.Head0
import HandS.Head1
import HandS.Head2
import HandS.HeadEnd
import HandS.TryMany
import PyProof.StrOps
import KE.KExcSuper
import HandS.ExcInit
import PySem.Challenge.RW_tailorshop_k13_work_in_a_line
set_option Elab.async false
set_option linter.all false
set_option autoImplicit false
set_option maxRecDepth 100000
set_option maxHeartbeats 4000000
section
/-! Dn1: plain data, what stands frozen, what a slot owns; the steps between. -/
namespace Dn
open PySem L2

abbrev D := PyData
/-- the program's refusals -/
inductive Ex where
  | size | fit | paper | large | deed
  deriving DecidableEq
inductive Slot where
  /-- nothing known; frozen; owned; hidden while it is walked; an argument that the caller owns and the def changes -/
  | un | fz (d : D) | ow (d : D) | hid | io (d : D)
abbrev Env := List Slot
/-- a result: frozen data, a new object that nobody holds, what slot i holds -/
inductive Res where
  | fz (d : D) | ow (d : D) | bw (i : Nat)
inductive Out (α : Type) where
  | ok (a : α) (r : Env) | exn (e : Ex) (r : Env) | bad
def Out.bind {α β : Type} (o : Out α) (f : α → Env → Out β) : Out β := match o with
  | .ok a r => f a r
  | .exn e r => .exn e r
  | .bad => .bad
def slotC (r : Env) (i : Nat) : Option D := match r[i]? with
  | some (.fz d) => some d
  | some (.ow d) => some d
  | some (.io d) => some d
  | _ => none
/-- the content of a result -/
def cont (r : Env) : Res → Option D
  | .fz d => some d
  | .ow d => some d
  | .bw i => slotC r i
/-- frozen, to be kept in other data -/
def settle (r : Env) : Res → Option (D × Env)
  | .fz d => some (d, r)
  | .ow d => some (d, r)
  | .bw i => match r[i]? with
    | some (.fz d) => some (d, r)
    | some (.ow d) => some (d, r.set i (.fz d))
    | _ => none

/-! ### heaps -/
/-- what may be frozen -/
def plainO : HO → Bool
  | .lst _ => true
  | .tup _ => true
  | .dK _ => true
  | .dT _ => true
  | _ => false
def NoTbl (o : HO) : Prop := ∀ ps, o ≠ .tbl ps
/-- what a slot may own -/
def canOwn : HO → Bool
  | .lst _ => true
  | .dK _ => true
  | .dT _ => true
  | _ => false
/-- nothing there that a slot may own -/
def NewT (H : Hp) (a : Addr) : Prop := ∀ o, H a = some o → canOwn o = false
theorem NewT.no {H : Hp} {a : Addr} (h : H a = none) : NewT H a := fun o e => by rw [h] at e; cases e
theorem plain_notbl {o : HO} (h : plainO o = true) : NoTbl o := fun ps e => by rw [e] at h; cases h
def Sub (P P' : Hp) : Prop := ∀ a o, P a = some o → P' a = some o
theorem Sub.refl (P : Hp) : Sub P P := fun _ _ h => h
theorem Sub.trans {P Q R : Hp} (h : Sub P Q) (k : Sub Q R) : Sub P R := fun a o e => k a o (h a o e)
theorem Sub.upd {P : Hp} {a : Addr} {o : HO} (h : P a = none) : Sub P (upd P a o) := fun b u e => by
  rw [upd_ne (ne_of_none e h)]; exact e
def isDict : HO → Bool
  | .dK _ => true
  | .dT _ => true
  | _ => false
/-- P is part of H, and holds plain things alone (a dict may be locked while it is walked) -/
def Part (P H : Hp) : Prop := ∀ a o, P a = some o → plainO o = true ∧ (H a = some o ∨ (isDict o = true ∧ ∃ ob, H a = some (.frz ob o)))

mutual
/-- v stands for d in P -/
inductive Rp (P : Hp) : V → D → Prop
  | non : Rp P .non .none
  | bl (b : Bool) : Rp P (.bl b) (.bool b)
  | int (i : Int) : Rp P (.int i) (.int i)
  | str (x : Str) : Rp P (.str x) (.str x)
  | lst {a : Addr} {xs : List V} {ds : List D} : P a = some (.lst xs) → RpAll P xs ds → Rp P (.ref a) (.list ds)
  | tup {a : Addr} {xs : List V} {ds : List D} : P a = some (.tup xs) → RpAll P xs ds → Rp P (.ref a) (.tuple ds)
inductive RpAll (P : Hp) : List V → List D → Prop
  | nil : RpAll P [] []
  | cons {v : V} {vs : List V} {d : D} {ds : List D} : Rp P v d → RpAll P vs ds → RpAll P (v :: vs) (d :: ds)
end
section
variable {K : PySem.W.Frag} {P P' H H' : Hp} {v : V} {d : D} {vs : List V} {ds : List D} {a : Addr} {xs : List V}
theorem Part.lst (h : Part P H) (q : P a = some (.lst xs)) : H a = some (.lst xs) := by
  rcases (h _ _ q).2 with z | ⟨z, _⟩
  · exact z
  · cases z
theorem Part.tup (h : Part P H) (q : P a = some (.tup xs)) : H a = some (.tup xs) := by
  rcases (h _ _ q).2 with z | ⟨z, _⟩
  · exact z
  · cases z
theorem Part.rd (h : Part P H) {o : HO} (q : P a = some o) : Rd H a o := by
  rcases (h _ _ q).2 with z | ⟨_, ob, z⟩
  · exact .inl z
  · exact .inr ⟨ob, z⟩
mutual
theorem dp_sub (h : Sub P P') : ∀ (d : D) (v : V), Rp P v d → Rp P' v d
  | .none, _, q => by cases q; exact .non
  | .bool _, _, q => by cases q; exact .bl _
  | .int _, _, q => by cases q; exact .int _
  | .str _, _, q => by cases q; exact .str _
  | .list ds, _, q => by cases q with | lst a b => exact .lst (h _ _ a) (dpa_sub h ds _ b)
  | .tuple ds, _, q => by cases q with | tup a b => exact .tup (h _ _ a) (dpa_sub h ds _ b)
  | .dict _, _, q => by cases q
theorem dpa_sub (h : Sub P P') : ∀ (ds : List D) (vs : List V), RpAll P vs ds → RpAll P' vs ds
  | [], _, q => by cases q; exact .nil
  | d :: ds, _, q => by cases q with | cons a b => exact .cons (dp_sub h d _ a) (dpa_sub h ds _ b)
end
mutual
theorem dp_part (h : Part P H) : ∀ (d : D) (v : V), Rp P v d → Dp K H v d
  | .none, _, q => by cases q; exact .non
  | .bool _, _, q => by cases q; exact .bl _
  | .int _, _, q => by cases q; exact .int _
  | .str _, _, q => by cases q; exact .str _
  | .list ds, _, q => by cases q with | lst a b => exact .lst (SqL.of (h.lst a)) (dpa_part h ds _ b)
  | .tuple ds, _, q => by cases q with | tup a b => exact .tup (SqT.of (h.tup a)) (dpa_part h ds _ b)
  | .dict _, _, q => by cases q
theorem dpa_part (h : Part P H) : ∀ (ds : List D) (vs : List V), RpAll P vs ds → DpAll K H vs ds
  | [], _, q => by cases q; exact .nil
  | d :: ds, _, q => by cases q with | cons a b => exact .cons (dp_part h d _ a) (dpa_part h ds _ b)
end
theorem RpAll.len : ∀ {vs : List V} {ds : List D}, RpAll P vs ds → vs.length = ds.length
  | _, _, .nil => rfl
  | _, _, .cons _ t => by rw [List.length_cons, List.length_cons, RpAll.len t]
theorem RpAll.get : ∀ {vs : List V} {ds : List D} {i : Nat} {d : D}, RpAll P vs ds → ds[i]? = some d → ∃ v, vs[i]? = some v ∧ Rp P v d
  | _, _, _, _, .nil, e => by simp at e
  | _, _, 0, _, .cons r _, e => by simp at e; subst e; exact ⟨_, rfl, r⟩
  | _, _, i + 1, _, .cons _ t, e => by
    obtain ⟨v, h1, h2⟩ := RpAll.get t (by simpa using e)
    exact ⟨v, by simpa using h1, h2⟩
theorem RpAll.getv : ∀ {vs : List V} {ds : List D} {i : Nat} {v : V}, RpAll P vs ds → vs[i]? = some v → ∃ d, ds[i]? = some d ∧ Rp P v d
  | _, _, _, _, .nil, e => by simp at e
  | _, _, 0, _, .cons r _, e => by simp at e; subst e; exact ⟨_, rfl, r⟩
  | _, _, i + 1, _, .cons _ t, e => by
    obtain ⟨v, h1, h2⟩ := RpAll.getv t (by simpa using e)
    exact ⟨v, by simpa using h1, h2⟩
theorem RpAll.app : ∀ {vs ws : List V} {ds es : List D}, RpAll P vs ds → RpAll P ws es → RpAll P (vs ++ ws) (ds ++ es)
  | _, _, _, _, .nil, s => s
  | _, _, _, _, .cons r t, s => .cons r (RpAll.app t s)
theorem RpAll.take : ∀ {vs : List V} {ds : List D} (n : Nat), RpAll P vs ds → RpAll P (vs.take n) (ds.take n)
  | _, _, 0, _ => .nil
  | _, _, _ + 1, .nil => .nil
  | _, _, n + 1, .cons r t => .cons r (RpAll.take n t)
theorem RpAll.drop : ∀ {vs : List V} {ds : List D} (n : Nat), RpAll P vs ds → RpAll P (vs.drop n) (ds.drop n)
  | _, _, 0, r => r
  | _, _, _ + 1, .nil => .nil
  | _, _, n + 1, .cons _ t => RpAll.drop n t
theorem RpAll.set {v : V} {d : D} (r : Rp P v d) : ∀ {vs : List V} {ds : List D} (i : Nat), RpAll P vs ds → RpAll P (vs.set i v) (ds.set i d)
  | _, _, _, .nil => .nil
  | _, _, 0, .cons _ t => .cons r t
  | _, _, i + 1, .cons q t => .cons q (RpAll.set r i t)
theorem RpAll.rev : ∀ {vs : List V} {ds : List D}, RpAll P vs ds → RpAll P vs.reverse ds.reverse
  | _, _, .nil => .nil
  | _, _, .cons r t => by rw [List.reverse_cons, List.reverse_cons]; exact RpAll.app (RpAll.rev t) (.cons r .nil)
end

/-! ### dicts -/
def keyD : Key → D
  | .inl i => .int i
  | .inr x => .str x
/-- the pairs of a dict, at the places of G (G: how an object is read) -/
inductive KvAll (P : Hp) {κ : Type} (f : κ → D) : List (κ × V) → List (D × D) → Prop where
  | nil : KvAll P f [] []
  | cons {k : κ} {v : V} {ws : List (κ × V)} {d : D} {kvs : List (D × D)} : Rp P v d → KvAll P f ws kvs → KvAll P f ((k, v) :: ws) ((f k, d) :: kvs)
def keyT (k : List Key) : D := .tuple (k.map keyD)
/-- a dict's pairs behind a mark: keys are ints and strs | tuples of such -/
def dK0 : D × D := (.none, .bool false)
def dT0 : D × D := (.none, .bool true)
def DictBy (P : Hp) (G : HO → Prop) (kvs : List (D × D)) : Prop :=
  (∃ (ws : List (Key × V)) (r : List (D × D)), kvs = dK0 :: r ∧ G (.dK ws) ∧ KvAll P keyD ws r) ∨ (∃ (ws : List (List Key × V)) (r : List (D × D)), kvs = dT0 :: r ∧ G (.dT ws) ∧ KvAll P keyT ws r)
theorem KvAll.sub {P P' : Hp} {κ : Type} {f : κ → D} (h : Sub P P') {ws : List (κ × V)} {kvs : List (D × D)} (q : KvAll P f ws kvs) : KvAll P' f ws kvs := by
  induction q with
  | nil => exact .nil
  | cons r _ ih => exact .cons (dp_sub h _ _ r) ih
theorem DictBy.sub {P P' : Hp} {G G' : HO → Prop} (h : Sub P P') (g : ∀ o, G o → G' o) {kvs : List (D × D)} (q : DictBy P G kvs) : DictBy P' G' kvs := by
  rcases q with ⟨ws, r, e, a, b⟩ | ⟨ws, r, e, a, b⟩
  · exact .inl ⟨ws, r, e, g _ a, b.sub h⟩
  · exact .inr ⟨ws, r, e, g _ a, b.sub h⟩

/-- v stands for d in the frozen part -/
def RepT (P : Hp) (v : V) : D → Prop
  | .dict kvs => ∃ a, v = .ref a ∧ DictBy P (fun o => P a = some o) kvs
  | d => Rp P v d
/-- at a an object of its own stands for d -/
def Holds (P H : Hp) (a : Addr) : D → Prop
  | .list ds => ∃ vs, H a = some (.lst vs) ∧ RpAll P vs ds
  | .dict kvs => DictBy P (fun o => H a = some o) kvs
  | _ => False
/-- the content: v may be read as d -/
def Ct (P H : Hp) (v : V) : D → Prop
  | .list ds => ∃ a vs, v = .ref a ∧ H a = some (.lst vs) ∧ RpAll P vs ds
  | .dict kvs => ∃ a, v = .ref a ∧ DictBy P (fun o => Rd H a o) kvs
  | d => Rp P v d
section
variable {K : PySem.W.Frag} {P P' H H' : Hp} {v : V} {d : D} {a : Addr}
theorem RepT.sub (h : Sub P P') (q : RepT P v d) : RepT P' v d := by
  cases d with
  | dict kvs => obtain ⟨a, e, q⟩ := q; exact ⟨a, e, q.sub h fun o z => h _ _ z⟩
  | _ => exact dp_sub h _ _ q
theorem RepT.of (q : Rp P v d) : RepT P v d := by
  cases d with
  | dict kvs => cases q
  | _ => exact q
theorem RepT.ct (p : Part P H) (q : RepT P v d) : Ct P H v d := by
  cases d with
  | list ds => cases q with | lst x y => exact ⟨_, _, rfl, p.lst x, y⟩
  | dict kvs => obtain ⟨a, e, q⟩ := q; exact ⟨a, e, q.sub (Sub.refl P) fun o z => p.rd z⟩
  | _ => exact q
theorem Holds.ct (q : Holds P H a d) : Ct P H (.ref a) d := by
  cases d with
  | list ds => obtain ⟨vs, h, r⟩ := q; exact ⟨a, vs, rfl, h, r⟩
  | dict kvs => exact ⟨a, rfl, DictBy.sub (G := fun o => H a = some o) (Sub.refl P) (fun o z => Rd.of z) q⟩
  | _ => exact q.elim
theorem Holds.obj (q : Holds P H a d) : ∃ o, H a = some o ∧ plainO o = true := by
  cases d with
  | list ds => obtain ⟨vs, h, r⟩ := q; exact ⟨_, h, rfl⟩
  | dict kvs =>
    rcases q with ⟨ws, _, _, h, _⟩ | ⟨ws, _, _, h, _⟩
    · exact ⟨_, h, rfl⟩
    · exact ⟨_, h, rfl⟩
  | _ => exact q.elim
theorem Holds.own (q : Holds P H a d) : ∃ o, H a = some o ∧ canOwn o = true := by
  cases d with
  | list ds => obtain ⟨vs, h, r⟩ := q; exact ⟨_, h, rfl⟩
  | dict kvs =>
    rcases q with ⟨ws, _, _, h, _⟩ | ⟨ws, _, _, h, _⟩
    · exact ⟨_, h, rfl⟩
    · exact ⟨_, h, rfl⟩
  | _ => exact q.elim
theorem Holds.sub (h : Sub P P') (e : H' a = H a) (q : Holds P H a d) : Holds P' H' a d := by
  cases d with
  | list ds => obtain ⟨vs, x, r⟩ := q; exact ⟨vs, e.trans x, dpa_sub h _ _ r⟩
  | dict kvs => exact DictBy.sub (G := fun o => H a = some o) h (fun o z => e.trans z) q
  | _ => exact q.elim
/-- frozen -/
theorem Holds.freeze {o : HO} (hn : P a = none) (e : H a = some o) (q : Holds P H a d) : RepT (upd P a o) (.ref a) d := by
  have s : Sub P (upd P a o) := Sub.upd hn
  cases d with
  | list ds =>
    obtain ⟨vs, x, r⟩ := q
    rw [e] at x; cases x
    exact .lst upd_same (dpa_sub s _ _ r)
  | dict kvs => exact ⟨a, rfl, DictBy.sub (G := fun o => H a = some o) s (fun o' z => by rw [e] at z; cases z; exact upd_same) q⟩
  | _ => exact q.elim
theorem Ct.dp (p : Part P H) (q : Ct P H v d) (nd : ∀ kvs, d ≠ .dict kvs) : Dp K H v d := by
  cases d with
  | list ds => obtain ⟨a, vs, rfl, x, y⟩ := q; exact .lst (SqL.of x) (dpa_part p _ _ y)
  | dict kvs => exact (nd _ rfl).elim
  | _ => exact dp_part p _ _ q
end

/-! ### where a body stands -/
structure Cfg where
  /-- tables of lambdas, of generator expressions -/
  T : List (Addr × Str)
  TG : List Addr
  /-- arguments that the def changes -/
  M : List Addr
  H0 : Hp
  P0 : Hp
  cls : Ex → Value
  /-- what stands hidden in a slot (a list that is walked) -/
  hid : Nat → V := fun _ => .non
/-- what the whole text shares -/
structure Tx where
  T : List (Addr × Str)
  TG : List Addr
  cls : Ex → Value
def Cfg.Of (C : Cfg) (Γ : Tx) : Prop := C.T = Γ.T ∧ C.TG = Γ.TG ∧ C.cls = Γ.cls
/-- the tables stand -/
def TabsOk (C : Cfg) (H : Hp) : Prop := LamX.Tabs C.T H ∧ ∀ p ∈ C.TG, GxR.TabG H p
def Owns (σ : St) (r : Env) (i : Nat) (a : Addr) : Prop := σ[i]? = some (some (.ref a)) ∧ ∃ d, r[i]? = some (.ow d) ∨ r[i]? = some (.io d)
def SlotOk (C : Cfg) (P H : Hp) (i : Nat) (ov : Option (Option V)) : Slot → Prop
  | .un => True
  | .hid => ov = some (some (C.hid i))
  | .fz d => ∃ v, ov = some (some v) ∧ RepT P v d
  | .ow d => ∃ a, ov = some (some (.ref a)) ∧ P a = none ∧ C.H0 a = none ∧ Holds P H a d
  | .io d => ∃ a, ov = some (some (.ref a)) ∧ P a = none ∧ C.hid i = .ref a ∧ a ∈ C.M ∧ Holds P H a d
structure Sit (C : Cfg) (P H : Hp) (σ : St) (r : Env) : Prop where
  tabs : TabsOk C H
  part : Part P H
  keep : ∀ a o, C.H0 a = some o → NoTbl o → a ∉ C.M → H a = some o
  old : ∀ a, H a = none → C.H0 a = none
  slot : ∀ (i : Nat) (s : Slot), r[i]? = some s → SlotOk C P H i σ[i]? s
  len : σ.length = r.length
  own : ∀ (i j : Nat) (a : Addr), Owns σ r i a → Owns σ r j a → i = j
  newP : ∀ a, P a ≠ none → C.P0 a ≠ none ∨ a ∈ C.M ∨ NewT C.H0 a
/-- from one state to the next, in the midst of an expression -/
structure Tr (C : Cfg) (σ : St) (P H : Hp) (r : Env) (P' H' : Hp) (r' : Env) : Prop where
  sit : Sit C P' H' σ r'
  sub : Sub P P'
  keep : ∀ a o, H a = some o → NoTbl o → (∀ i, ¬ Owns σ r i a) → H' a = some o
  froz : ∀ a, P' a ≠ none → P a ≠ none ∨ NewT H a ∨ ∃ i, Owns σ r i a
  owns : ∀ i a, Owns σ r' i a → Owns σ r i a
  some : ∀ a o, H a = some o → ∃ o', H' a = some o'
def ResOk (C : Cfg) (P H : Hp) (σ : St) (r : Env) (v : V) : Res → Prop
  | .fz d => RepT P v d
  | .ow d => ∃ a, v = .ref a ∧ P a = none ∧ C.H0 a = none ∧ Holds P H a d ∧ ∀ i, ¬ Owns σ r i a
  | .bw i => σ[i]? = some (some v)
/-- new since H -/
def Fresh (H : Hp) (v : V) : Res → Prop
  | .ow _ => ∀ a, v = .ref a → H a = none
  | _ => True
section
variable {C : Cfg} {P H P' H' P2 H2 : Hp} {σ : St} {r r' r2 : Env} {v : V} {x : Res} {d : D}
theorem Tr.refl (S : Sit C P H σ r) : Tr C σ P H r P H r :=
  ⟨S, Sub.refl P, fun _ _ e _ _ => e, fun _ h => .inl h, fun _ _ h => h, fun _ o e => ⟨o, e⟩⟩
theorem Tr.trans (a : Tr C σ P H r P' H' r') (b : Tr C σ P' H' r' P2 H2 r2) : Tr C σ P H r P2 H2 r2 where
  sit := b.sit
  sub := a.sub.trans b.sub
  keep := fun c o e n h => b.keep c o (a.keep c o e n h) n fun i z => h i (a.owns i c z)
  froz := fun c h => by
    rcases b.froz c h with z | z | ⟨i, z⟩
    · exact a.froz c z
    · by_cases own : ∃ i, Owns σ r i c
      · exact .inr (.inr own)
      · refine .inr (.inl fun o e => ?_)
        cases ho : canOwn o with
        | false => rfl
        | true =>
          have := z o (a.keep c o e (fun ps q => by rw [q] at ho; cases ho) fun i y => own ⟨i, y⟩)
          rw [ho] at this; exact this
    · exact .inr (.inr ⟨i, a.owns i c z⟩)
  owns := fun i c z => a.owns i c (b.owns i c z)
  some := fun c o e => let ⟨o', e'⟩ := a.some c o e; b.some c o' e'
theorem ResOk.mono (t : Tr C σ P H r P' H' r') (h : ResOk C P H σ r v x) : ResOk C P' H' σ r' v x := by
  cases x with
  | fz d => exact RepT.sub t.sub h
  | ow d =>
    obtain ⟨a, e, n, n0, q, no⟩ := h
    obtain ⟨o, ho, po⟩ := q.obj
    have ha : H' a = some o := t.keep a o ho (plain_notbl po) no
    refine ⟨a, e, ?_, n0, q.sub t.sub (ha.trans ho.symm), fun i z => no i (t.owns i a z)⟩
    cases q' : P' a with
    | none => rfl
    | some u =>
      rcases t.froz a (by rw [q']; simp) with z | z | ⟨i, z⟩
      · exact (z n).elim
      · obtain ⟨o2, ho2, c2⟩ := q.own
        have := z o2 ho2
        rw [c2] at this; cases this
      · exact (no i z).elim
  | bw i => exact h
/-- the content may be read -/
theorem ResOk.ct (S : Sit C P H σ r) (h : ResOk C P H σ r v x) (e : cont r x = some d) : Ct P H v d := by
  cases x with
  | fz d' => cases e; exact RepT.ct S.part h
  | ow d' => cases e; obtain ⟨a, rfl, _, _, q, _⟩ := h; exact q.ct
  | bw i =>
    have h : σ[i]? = some (some v) := h
    dsimp only [cont, slotC] at e
    cases q : r[i]? with
    | none => rw [q] at e; cases e
    | some s =>
      rw [q] at e
      have k := S.slot i s q
      cases s with
      | un => cases e
      | hid => cases e
      | fz d' =>
        cases e
        obtain ⟨v', e', k⟩ := k
        rw [h] at e'; cases e'
        exact RepT.ct S.part k
      | ow d' =>
        cases e
        obtain ⟨a, e', _, _, k⟩ := k
        rw [h] at e'; cases e'
        exact k.ct
      | io d' =>
        cases e
        obtain ⟨a, e', _, _, _, k⟩ := k
        rw [h] at e'; cases e'
        exact k.ct
theorem owns_set_fz {i j : Nat} {a : Addr} {d' : D} (h : Owns σ (r.set i (.fz d')) j a) : Owns σ r j a ∧ j ≠ i := by
  obtain ⟨h1, d2, h2⟩ := h
  by_cases e : j = i
  · subst e
    rcases Nat.lt_or_ge j r.length with l | l
    · rw [List.getElem?_set_self l] at h2; rcases h2 with h2 | h2 <;> cases h2
    · rw [List.getElem?_eq_none (by rw [List.length_set]; exact l)] at h2; rcases h2 with h2 | h2 <;> cases h2
  · rw [List.getElem?_set_ne (Ne.symm e)] at h2
    exact ⟨⟨h1, d2, h2⟩, e⟩
/-- a result is frozen: the whole step from (P, H, r), in which it was made -/
theorem Tr.settle (t : Tr C σ P H r P' H' r') (h : ResOk C P' H' σ r' v x) (hf : Fresh H v x) (e : Dn.settle r' x = Option.some (d, r2)) : ∃ P2, Tr C σ P H r P2 H' r2 ∧ Sub P' P2 ∧ RepT P2 v d := by
  -- the object at a, which nobody but slot j (if there is one) owns, becomes frozen
  have key : ∀ (a : Addr) (r3 : Env), v = V.ref a → P' a = Option.none → C.H0 a = Option.none → Holds P' H' a d → (P a ≠ Option.none ∨ NewT H a ∨ ∃ i, Owns σ r i a) →
      (∀ (i : Nat) (a' : Addr), Owns σ r3 i a' → Owns σ r' i a' ∧ a' ≠ a) → (∀ (i : Nat) (s : Slot), r3[i]? = Option.some s → r'[i]? = Option.some s ∨ (s = Slot.fz d ∧ σ[i]? = Option.some (Option.some (V.ref a)))) → r3.length = r'.length →
      ∃ P2, Tr C σ P H r P2 H' r3 ∧ Sub P' P2 ∧ RepT P2 v d := by
    intro a r3 ev hn hn0 q hz hr hs hl
    obtain ⟨o, ho, po⟩ := q.obj
    have sb : Sub P' (upd P' a o) := Sub.upd hn
    have rep : RepT (upd P' a o) v d := by rw [ev]; exact q.freeze hn ho
    have S := t.sit
    refine ⟨upd P' a o, ⟨⟨S.tabs, fun b u e => ?_, S.keep, S.old, fun i s es => ?_, S.len.trans hl.symm, fun i j b x y => S.own i j b (hr i b x).1 (hr j b y).1, fun b hb => ?_⟩, t.sub.trans sb, t.keep, fun b hb => ?_, fun i b x => t.owns i b (hr i b x).1, t.some⟩, sb, rep⟩
    · by_cases hb : b = a
      · subst hb; rw [upd_same] at e; cases e; exact ⟨po, .inl ho⟩
      · rw [upd_ne hb] at e; exact S.part b u e
    · rcases hs i s es with z | ⟨z, z2⟩
      · have k := S.slot i s z
        cases s with
        | un => trivial
        | hid => exact k
        | fz d' => obtain ⟨v', e', k⟩ := k; exact ⟨v', e', RepT.sub sb k⟩
        | ow d' =>
          obtain ⟨b, e', nb, n0, k⟩ := k
          have nba : b ≠ a := (hr i b ⟨e', d', .inl es⟩).2
          exact ⟨b, e', by rw [upd_ne nba]; exact nb, n0, k.sub sb rfl⟩
        | io d' =>
          obtain ⟨b, e', nb, n0, n1, k⟩ := k
          have nba : b ≠ a := (hr i b ⟨e', d', .inr es⟩).2
          exact ⟨b, e', by rw [upd_ne nba]; exact nb, n0, n1, k.sub sb rfl⟩
      · rw [z]
        exact ⟨.ref a, z2, by rw [← ev]; exact rep⟩
    · by_cases hba : b = a
      · subst hba; exact .inr (.inr (NewT.no hn0))
      · rw [upd_ne hba] at hb; exact S.newP b hb
    · by_cases hba : b = a
      · subst hba; exact hz
      · rw [upd_ne hba] at hb; exact t.froz b hb
  cases x with
  | fz d' => cases e; exact ⟨P', t, Sub.refl _, h⟩
  | ow d' =>
    cases e
    obtain ⟨a, ea, hn, hn0, q, no⟩ := h
    exact key a r' ea hn hn0 q (.inr (.inl (NewT.no (hf a ea)))) (fun i a' z => ⟨z, fun y => no i (y ▸ z)⟩) (fun i s es => .inl es) rfl
  | bw i =>
    have h : σ[i]? = Option.some (Option.some v) := h
    dsimp only [Dn.settle] at e
    cases q : r'[i]? with
    | none => rw [q] at e; cases e
    | some s =>
      rw [q] at e
      have k := t.sit.slot i s q
      have hi : i < r'.length := (List.getElem?_eq_some_iff.mp q).1
      cases s with
      | un => cases e
      | hid => cases e
      | fz d' =>
        cases e
        obtain ⟨v', e', k⟩ := k
        rw [h] at e'; cases e'
        exact ⟨P', t, Sub.refl _, k⟩
      | io d' => cases e
      | ow d' =>
        cases e
        obtain ⟨a, e', hn, hn0, k⟩ := k
        rw [h] at e'; cases e'
        have O : Owns σ r' i a := ⟨h, _, .inl q⟩
        refine key a _ rfl hn hn0 k (.inr (.inr ⟨i, t.owns i a O⟩)) (fun j a' z => ?_) (fun j s es => ?_) (List.length_set ..)
        · obtain ⟨z1, z2⟩ := owns_set_fz z
          exact ⟨z1, fun y => z2 (t.sit.own j i a (y ▸ z1) O)⟩
        · by_cases hj : j = i
          · subst hj
            rw [List.getElem?_set_self hi] at es
            cases es
            exact .inr ⟨rfl, h⟩
          · rw [List.getElem?_set_ne (Ne.symm hj)] at es
            exact .inl es
theorem Fresh.back (t : Tr C σ P H r P' H' r') (h : Fresh H' v x) : Fresh H v x := by
  cases x with
  | ow d =>
    intro a e
    cases q : H a with
    | none => rfl
    | some o =>
      obtain ⟨o', z⟩ := t.some a o q
      rw [h a e] at z; cases z
  | _ => trivial
/-- the abstract heap grows by a new object (frozen at once, or not) -/
theorem TabsOk.upd {a : Addr} {o : HO} (h : TabsOk C H) (n : H a = none) : TabsOk C (upd H a o) :=
  ⟨h.1.ext fun b u e => by rw [upd_ne (ne_of_none e n)]; exact e, fun p hp => by
    obtain ⟨ps, e, t⟩ := h.2 p hp
    exact ⟨ps, by rw [upd_ne (ne_of_none e n)]; exact e, t⟩⟩
theorem Part.upd {a : Addr} {o : HO} (h : Part P H) (n : H a = none) : Part P (upd H a o) := fun b u e => by
  obtain ⟨p, z⟩ := h b u e
  have nb : b ≠ a := fun q => by
    rcases z with z | ⟨_, ob, z⟩
    · rw [q, n] at z; cases z
    · rw [q, n] at z; cases z
  refine ⟨p, ?_⟩
  rw [upd_ne nb]
  exact z
theorem Part.non (h : Part P H) {a : Addr} (n : H a = Option.none) : P a = Option.none := by
  cases q : P a with
  | none => rfl
  | some o =>
    rcases (h a o q).2 with z | ⟨_, ob, z⟩
    · rw [n] at z; cases z
    · rw [n] at z; cases z
theorem Sit.slotN (S : Sit C P H σ r) {a : Addr} (n : H a = Option.none) (i : Nat) : ¬ Owns σ r i a := fun ⟨h1, d, h2⟩ => by
  rcases h2 with h2 | h2
  · obtain ⟨b, e, _, _, q⟩ := S.slot i _ h2
    rw [h1] at e; cases e
    obtain ⟨o, z, _⟩ := q.obj
    rw [n] at z; cases z
  · obtain ⟨b, e, _, _, _, q⟩ := S.slot i _ h2
    rw [h1] at e; cases e
    obtain ⟨o, z, _⟩ := q.obj
    rw [n] at z; cases z
theorem Tr.new {a : Addr} {o : HO} (S : Sit C P H σ r) (n : H a = Option.none) : Tr C σ P H r P (L2.upd H a o) r where
  sit := ⟨S.tabs.upd n, S.part.upd n, fun b u e nt nm => by
      have z := S.keep b u e nt nm
      rw [upd_ne (ne_of_none z n)]; exact z, fun b z => S.old b (by
      by_cases q : b = a
      · rw [q, upd_same] at z; cases z
      · rw [upd_ne q] at z; exact z), fun i s es => by
      have k := S.slot i s es
      cases s with
      | un => trivial
      | hid => exact k
      | fz d => exact k
      | ow d =>
        obtain ⟨b, e, nb, n0, q⟩ := k
        obtain ⟨u, z, _⟩ := q.obj
        exact ⟨b, e, nb, n0, q.sub (Sub.refl P) (upd_ne (ne_of_none z n))⟩
      | io d =>
        obtain ⟨b, e, nb, n0, n1, q⟩ := k
        obtain ⟨u, z, _⟩ := q.obj
        exact ⟨b, e, nb, n0, n1, q.sub (Sub.refl P) (upd_ne (ne_of_none z n))⟩, S.len, S.own, S.newP⟩
  sub := Sub.refl P
  keep := fun b u e _ _ => by rw [upd_ne (ne_of_none e n)]; exact e
  froz := fun _ h => .inl h
  owns := fun _ _ h => h
  some := fun b u e => ⟨u, by rw [upd_ne (ne_of_none e n)]; exact e⟩
end
end Dn

end
section
/-! Dn2: what an expression gives, as a function of the slots. -/
namespace Dn
open PySem L2

/-- what is wanted behind, step by step -/
def Cont (C : Cfg) (W : WX) (σ : St) (P H : Hp) (r : Env) {α : Type} (o : Out α) (k : α → Env → Hp → Hp → Prop) : Prop := match o with
  | .ok a r' => ∀ P' H', Tr C σ P H r P' H' r' → k a r' P' H'
  | .exn e r' => ∀ P' H', Tr C σ P H r P' H' r' → ∀ dd, W (C.cls e) dd σ H'
  | .bad => False
section
variable {Γ : Tx} {C : Cfg} {W : WX} {σ : St} {P H P1 H1 : Hp} {r r1 : Env} {α β : Type} {o : Out α} {g : α → Env → Out β} {k : β → Env → Hp → Hp → Prop} {k1 : α → Env → Hp → Hp → Prop}
theorem Cont.from (h : Cont C W σ P H r o k1) (t : Tr C σ P H r P1 H1 r1) : Cont C W σ P1 H1 r1 o k1 := by
  cases o with
  | ok a r' => exact fun P' H' t' => h P' H' (t.trans t')
  | exn e r' => exact fun P' H' t' => h P' H' (t.trans t')
  | bad => exact h
theorem Cont.bind (h : Cont C W σ P H r (o.bind g) k) (hk : ∀ a r1 P1 H1, Tr C σ P H r P1 H1 r1 → Cont C W σ P1 H1 r1 (g a r1) k → k1 a r1 P1 H1) : Cont C W σ P H r o k1 := by
  cases o with
  | ok a r' => exact fun P' H' t => hk a r' P' H' t (Cont.from h t)
  | exn e r' => exact h
  | bad => exact h
end
/-- an expression gives what f says -/
structure QE (Γ : Tx) (W : WX) (X : Cx) (e : Expr) (f : Env → Out Res) : Prop where
  ex : ∃ t, PE X e t ∧ ∀ (C : Cfg), C.Of Γ → ∀ (σ : St) (H P : Hp) (r : Env) (Q : VK), Sit C P H σ r → Cont C W σ P H r (f r) (fun x r' P' H' => ∀ v, ResOk C P' H' σ r' v x → Fresh H v x → Q v H') → t σ H Q
structure QT (Γ : Tx) (W : WX) (X : Cx) (e : Expr) (f : Env → Out Bool) : Prop where
  ex : ∃ t, PT X e t ∧ ∀ (C : Cfg), C.Of Γ → ∀ (σ : St) (H P : Hp) (r : Env) (Q : Bool → Hp → Prop), Sit C P H σ r → Cont C W σ P H r (f r) (fun b r' P' H' => Q b H') → t σ H Q
structure QW (Γ : Tx) (W : WX) (X : Cx) (e : Expr) (f : Env → Out Bool) : Prop where
  ex : ∃ t, PW X e t ∧ ∀ (C : Cfg), C.Of Γ → ∀ (σ : St) (H P : Hp) (r : Env) (Q : Bool → Hp → Prop), Sit C P H σ r → Cont C W σ P H r (f r) (fun b r' P' H' => Q b H') → t σ H Q
/-- arguments: each frozen, or what a slot holds -/
inductive RAll (C : Cfg) (P H : Hp) (σ : St) (r : Env) : List V → List Res → Prop where
  | nil : RAll C P H σ r [] []
  | cons {v : V} {x : Res} {vs : List V} {xs : List Res} : ResOk C P H σ r v x → (∀ d, x ≠ .ow d) → RAll C P H σ r vs xs → RAll C P H σ r (v :: vs) (x :: xs)
structure QA (Γ : Tx) (W : WX) (X : Cx) (es : List Expr) (f : Env → Out (List Res)) : Prop where
  ex : ∃ t, PA X es t ∧ ∀ (C : Cfg), C.Of Γ → ∀ (σ : St) (H P : Hp) (r : Env) (Q : List V → Hp → Prop), Sit C P H σ r → Cont C W σ P H r (f r) (fun xs r' P' H' => ∀ vs, RAll C P' H' σ r' vs xs → Q vs H') → t σ H Q

/-! ### what an operation gives -/
inductive ORes where
  | val (d : D) | newL (ds : List D) | newT (ds : List D) | newD (kvs : List (D × D))
def ORes.res : ORes → Res
  | .val d => .fz d
  | .newL ds => .ow (.list ds)
  | .newT ds => .fz (.tuple ds)
  | .newD kvs => .ow (.dict kvs)
def OCont (P H : Hp) (Q : VK) : ORes → Prop
  | .val d => ∀ v, RepT P v d → Q v H
  | .newL ds => ∀ p vs, H p = none → RpAll P vs ds → Q (.ref p) (upd H p (.lst vs))
  | .newT ds => ∀ p vs, H p = none → RpAll P vs ds → Q (.ref p) (upd H p (.tup vs))
  | .newD kvs => ∀ p o, H p = none → plainO o = true → DictBy P (fun u => u = o) kvs → Q (.ref p) (upd H p o)
def lift (o : Option ORes) (r : Env) : Out Res := match o with
  | some o => .ok o.res r
  | none => .bad
section
variable {Γ : Tx} {C : Cfg} {W : WX} {X : Cx} {σ : St} {P H P1 H1 : Hp} {r r1 : Env} {Q : VK}
theorem Part.updF {a : Addr} {o : HO} (h : Part P H) (n : H a = none) (po : plainO o = true) : Part (L2.upd P a o) (L2.upd H a o) := fun b u e => by
  by_cases q : b = a
  · subst q; rw [upd_same] at e; cases e; exact ⟨po, .inl upd_same⟩
  · rw [upd_ne q] at e; exact h.upd n b u e
theorem Tr.newF {a : Addr} {o : HO} (S : Sit C P H σ r) (n : H a = none) (po : plainO o = true) : Tr C σ P H r (L2.upd P a o) (L2.upd H a o) r := by
  have t := Tr.new (o := o) S n
  have pn : P a = none := S.part.non n
  have sb : Sub P (L2.upd P a o) := Sub.upd pn
  refine ⟨⟨t.sit.tabs, S.part.updF n po, t.sit.keep, t.sit.old, fun i s es => ?_, S.len, S.own, fun b hb => ?_⟩, sb, t.keep, fun b hb => ?_, t.owns, t.some⟩
  · have k := t.sit.slot i s es
    cases s with
    | un => trivial
    | hid => exact k
    | fz d => obtain ⟨v, e, q⟩ := k; exact ⟨v, e, RepT.sub sb q⟩
    | ow d =>
      obtain ⟨b, e, nb, n0, q⟩ := k
      have nba : b ≠ a := fun z => S.slotN n i ⟨z ▸ e, d, .inl es⟩
      exact ⟨b, e, by rw [upd_ne nba]; exact nb, n0, q.sub sb rfl⟩
    | io d =>
      obtain ⟨b, e, nb, n0, n1, q⟩ := k
      have nba : b ≠ a := fun z => S.slotN n i ⟨z ▸ e, d, .inr es⟩
      exact ⟨b, e, by rw [upd_ne nba]; exact nb, n0, n1, q.sub sb rfl⟩
  · by_cases q : b = a
    · exact .inr (.inr (NewT.no (S.old b (q ▸ n))))
    · rw [upd_ne q] at hb; exact S.newP b hb
  · by_cases q : b = a
    · exact .inr (.inl (NewT.no (q ▸ n)))
    · rw [upd_ne q] at hb; exact .inl hb
/-- an operation's end -/
theorem ofin {o : ORes} (S : Sit C P H σ r) (k : ∀ P' H', Tr C σ P H r P' H' r → ∀ v, ResOk C P' H' σ r v o.res → Fresh H v o.res → Q v H') : OCont P H Q o := by
  cases o with
  | val d => exact fun v h => k P H (Tr.refl S) v h trivial
  | newL ds =>
    intro p vs n h
    have t := Tr.new (o := .lst vs) S n
    exact k _ _ t _ ⟨p, rfl, S.part.non n, S.old p n, ⟨vs, upd_same, h⟩, fun i z => S.slotN n i z⟩ fun a e => by cases e; exact n
  | newT ds =>
    intro p vs n h
    have t := Tr.newF (o := .tup vs) S n rfl
    exact k _ _ t _ (show RepT _ _ (.tuple ds) from .tup upd_same (dpa_sub t.sub _ _ h)) trivial
  | newD kvs =>
    intro p o n po h
    have t := Tr.new (o := o) S n
    refine k _ _ t _ ⟨p, rfl, S.part.non n, S.old p n, (show Holds P _ p (.dict kvs) from DictBy.sub (G := fun u => u = o) (G' := fun u => upd H p o p = some u) (Sub.refl P) (fun u z => by rw [z]; exact upd_same) h), fun i z => S.slotN n i z⟩ fun a e => by cases e; exact n
theorem lfin {o : Option ORes} {Hs : Hp} (S : Sit C P H σ r) (h : Cont C W σ P H r (lift o r) (fun x r' P' H' => ∀ v, ResOk C P' H' σ r' v x → Fresh Hs v x → Q v H'))
    (b : ∀ {v x}, Fresh H v x → Fresh Hs v x) : ∃ z, o = some z ∧ OCont P H Q z := by
  cases o with
  | none => exact h.elim
  | some z => exact ⟨z, rfl, ofin S fun P' H' t v q f => h P' H' t v q (b f)⟩

/-! ### names, constants -/
def eV (i : Nat) (r : Env) : Out Res := match r[i]? with
  | some (.fz _) => .ok (.bw i) r
  | some (.ow _) => .ok (.bw i) r
  | some (.io _) => .ok (.bw i) r
  | _ => .bad
theorem qe_var {i : Nat} {x : Str} {pos : Pos} (hN : X.N[i]? = some x := by rfl) (hv : Vis X.env.scope x := by first | exact Or.inl rfl | exact Or.inr (Or.inl rfl) | exact Or.inr (Or.inr rfl)) (hd : (x == ("__debug__" : Str)) = false := by decide)
    (hcd : (x == ("__classdict__" : Str)) = false := by decide) : QE Γ W X (.Name x pos) (eV i) := by
  refine ⟨_, pe_var hN hv hd hcd, fun C hC σ H P r Q S h => ?_⟩
  unfold eV at h
  cases q : r[i]? with
  | none => rw [q] at h; exact h.elim
  | some s =>
    rw [q] at h
    have k := S.slot i s q
    cases s with
    | un => exact h.elim
    | hid => exact h.elim
    | fz d => obtain ⟨v, e, _⟩ := k; exact ⟨v, e, h P H (Tr.refl S) v e trivial⟩
    | ow d => obtain ⟨a, e, _⟩ := k; exact ⟨.ref a, e, h P H (Tr.refl S) _ e trivial⟩
    | io d => obtain ⟨a, e, _⟩ := k; exact ⟨.ref a, e, h P H (Tr.refl S) _ e trivial⟩
theorem qv (i : Nat) {x : Str} {pos : Pos} (hN : X.N[i]? = some x := by rfl) (hv : Vis X.env.scope x := by first | exact Or.inl rfl | exact Or.inr (Or.inl rfl) | exact Or.inr (Or.inr rfl)) (hd : (x == ("__debug__" : Str)) = false := by decide)
    (hcd : (x == ("__classdict__" : Str)) = false := by decide) : QE Γ W X (.Name x pos) (eV i) := qe_var hN hv hd hcd
def eC (d : D) (r : Env) : Out Res := .ok (.fz d) r
theorem qe_const {e : Expr} {v : V} {d : D} (h : PE X e (tC v)) (k : ∀ P, RepT P v d) : QE Γ W X e (eC d) := by
  refine ⟨_, h, fun C hC σ H P r Q S hq => ?_⟩
  exact hq P H (Tr.refl S) v (k _) trivial
theorem qe_int {i : Int} {j : Nat} {pos : Pos} : QE Γ W X (.Constant (.int i) j pos) (eC (.int i)) := qe_const pe_int fun _ => .int i
theorem qe_bl {b : Bool} {j : Nat} {pos : Pos} : QE Γ W X (.Constant (.bool b) j pos) (eC (.bool b)) := qe_const pe_bl fun _ => .bl b
theorem qe_non {j : Nat} {pos : Pos} : QE Γ W X (.Constant .none j pos) (eC .none) := qe_const pe_non fun _ => .non
theorem qe_str {x : Str} {j : Nat} {pos : Pos} : QE Γ W X (.Constant (.str x) j pos) (eC (.str x)) := qe_const pe_str fun _ => .str x
/-! ### two-place operations -/
def Op2 (t : R2) (g : D → D → Option ORes) : Prop := ∀ (P H : Hp) (x y : V) (d e : D) (o : ORes) (Q : VK), Part P H → Ct P H x d → Ct P H y e → g d e = some o → OCont P H Q o → t x y H Q
def both (a b : Option D) (g : D → D → Option ORes) : Option ORes := match a with
  | some d => (match b with
    | some e => g d e
    | none => none)
  | none => none
def sole (a : Option D) (g : D → Option ORes) : Option ORes := match a with
  | some d => g d
  | none => none
@[simp] theorem both_some (d e : D) (g : D → D → Option ORes) : both (some d) (some e) g = g d e := rfl
@[simp] theorem sole_some (d : D) (g : D → Option ORes) : sole (some d) g = g d := rfl
def op2 (g : D → D → Option ORes) (a b : Res) (r : Env) : Out Res := lift (both (cont r a) (cont r b) g) r
def eOp2 (g : D → D → Option ORes) (fa fb : Env → Out Res) (r : Env) : Out Res := (fa r).bind fun a r1 => (fb r1).bind fun b r2 => op2 g a b r2
theorem op2_some {g : D → D → Option ORes} {a b : Res} {r : Env} {z : ORes} (h : both (cont r a) (cont r b) g = some z) : ∃ d e, cont r a = some d ∧ cont r b = some e ∧ g d e = some z := by
  cases ha : cont r a with
  | none => rw [ha] at h; cases h
  | some d =>
    cases hb : cont r b with
    | none => rw [ha, hb] at h; cases h
    | some e => rw [ha, hb] at h; exact ⟨d, e, rfl, rfl, h⟩
variable {a b c : Expr} {fa fb fc : Env → Out Res} {pos : Pos}
/-- the part that all two-place operations share -/
theorem two {t : R2} {g : D → D → Option ORes} (hg : Op2 t g) {ta tb : TE} (ka : ∀ (σ : St) (H P : Hp) (r : Env) (Q : VK), Sit C P H σ r → Cont C W σ P H r (fa r) (fun x r' P' H' => ∀ v, ResOk C P' H' σ r' v x → Fresh H v x → Q v H') → ta σ H Q)
    (kb : ∀ (σ : St) (H P : Hp) (r : Env) (Q : VK), Sit C P H σ r → Cont C W σ P H r (fb r) (fun x r' P' H' => ∀ v, ResOk C P' H' σ r' v x → Fresh H v x → Q v H') → tb σ H Q) :
    ∀ (σ : St) (H P : Hp) (r : Env) (Q : VK), Sit C P H σ r → Cont C W σ P H r (eOp2 g fa fb r) (fun x r' P' H' => ∀ v, ResOk C P' H' σ r' v x → Fresh H v x → Q v H') → tOp t ta tb σ H Q := by
  intro σ H P r Q S h
  refine ka σ H P r _ S (h.bind fun ra r1 P1 H1 t1 h1 x hx fx => ?_)
  refine kb σ H1 P1 r1 _ t1.sit (h1.bind fun rb r2 P2 H2 t2 h2 y hy fy => ?_)
  obtain ⟨z, ez, oc⟩ := lfin t2.sit h2 fun f => f.back (t1.trans t2)
  obtain ⟨d, e, e1, e2, e3⟩ := op2_some ez
  have hx2 := hx.mono t2
  have c1 := hx2.ct t2.sit e1
  have c2 := hy.ct t2.sit e2
  exact hg P2 H2 x y d e z Q t2.sit.part c1 c2 e3 oc
theorem qe_op2 {op : Operator} {t : R2} {g : D → D → Option ORes} (ho : OpR X (binaryOp op) t) (hg : Op2 t g) (qa : QE Γ W X a fa) (qb : QE Γ W X b fb) : QE Γ W X (.BinOp a op b pos) (eOp2 g fa fb) := by
  obtain ⟨ta, ha, ka⟩ := qa.ex
  obtain ⟨tb, hb, kb⟩ := qb.ex
  exact ⟨_, pe_op ho ha hb, fun C hC => two hg (ka C hC) (kb C hC)⟩
theorem qe_cmp {op : CmpOp} {t : R2} {g : D → D → Option ORes} (ho : OpR X (compareOp op) t) (hg : Op2 t g) (qa : QE Γ W X a fa) (qb : QE Γ W X b fb) (hm : behindInMarks op b = false := by first | exact nomark _ | rfl) : QE Γ W X (.Compare a [op] [b] pos) (eOp2 g fa fb) := by
  obtain ⟨ta, ha, ka⟩ := qa.ex
  obtain ⟨tb, hb, kb⟩ := qb.ex
  exact ⟨_, pe_cmpR ho ha hb hm, fun C hC => two hg (ka C hC) (kb C hC)⟩
/-- a value that is a bool, as a test -/
def tst (x : Res) (r : Env) : Out Bool := match cont r x with
  | some (.bool b) => .ok b r
  | _ => .bad
def eTest (fa : Env → Out Res) (r : Env) : Out Bool := (fa r).bind fun x r1 => tst x r1
theorem qt_val (qa : QE Γ W X a fa) (he : ∀ whole, isTrue a X.env whole = (do let v ← whole; standAt a.pos; holding [v] (truthy v)) := by intro _; rfl) : QT Γ W X a (eTest fa) := by
  obtain ⟨ta, ha, ka⟩ := qa.ex
  refine ⟨_, pt_val ha he, fun C hC σ H P r Q S h => ?_⟩
  refine ka C hC σ H P r _ S (h.bind fun x r1 P1 H1 t1 h1 v hv fv => ?_)
  unfold tst at h1
  cases q : cont r1 x with
  | none => rw [q] at h1; exact h1.elim
  | some d =>
    rw [q] at h1
    have c1 := hv.ct t1.sit q
    cases d with
    | bool b => cases c1; exact ⟨b, rfl, h1 P1 H1 (Tr.refl t1.sit)⟩
    | _ => exact h1.elim
/-- a comparison as a test -/
theorem qt_cmp {op : CmpOp} {t : R2} {g : D → D → Option ORes} (ho : OpR X (compareOp op) t) (hg : Op2 t g) (qa : QE Γ W X a fa) (qb : QE Γ W X b fb) (hm : behindInMarks op b = false := by first | exact nomark _ | rfl) : QT Γ W X (.Compare a [op] [b] pos) (eTest (eOp2 g fa fb)) := by
  obtain ⟨ta, ha, ka⟩ := qa.ex
  obtain ⟨tb, hb, kb⟩ := qb.ex
  refine ⟨_, pt_cmpR ho ha hb hm, fun C hC σ H P r Q S h => ?_⟩
  refine two hg (ka C hC) (kb C hC) σ H P r _ S (h.bind fun x r1 P1 H1 t1 h1 v hv fv => ?_)
  unfold tst at h1
  cases q : cont r1 x with
  | none => rw [q] at h1; exact h1.elim
  | some d =>
    rw [q] at h1
    have c1 := hv.ct t1.sit q
    cases d with
    | bool b => cases c1; exact ⟨b, rfl, h1 P1 H1 (Tr.refl t1.sit)⟩
    | _ => exact h1.elim
end
end Dn

end
section
/-! Dn3: operators by plain data. -/
namespace Dn
open PySem L2

/-! ### reading contents -/
section
variable {K : PySem.W.Frag} {P H : Hp} {x y : V} {d : D} {Q : VK}
theorem ct_int {i : Int} (h : Ct P H x (.int i)) : x = .int i := by cases (show Rp P x (.int i) from h); rfl
theorem ct_bool {b : Bool} (h : Ct P H x (.bool b)) : x = .bl b := by cases (show Rp P x (.bool b) from h); rfl
theorem ct_str {z : Str} (h : Ct P H x (.str z)) : x = .str z := by cases (show Rp P x (.str z) from h); rfl
theorem ct_none (h : Ct P H x .none) : x = .non := by cases (show Rp P x .none from h); rfl
theorem ct_tup {ds : List D} (p : Part P H) (h : Ct P H x (.tuple ds)) : ∃ a vs, x = .ref a ∧ P a = some (.tup vs) ∧ H a = some (.tup vs) ∧ RpAll P vs ds := by
  cases (show Rp P x (.tuple ds) from h) with
  | tup a b => exact ⟨_, _, rfl, a, p.tup a, b⟩
theorem ct_lst {ds : List D} (h : Ct P H x (.list ds)) : ∃ a vs, x = .ref a ∧ H a = some (.lst vs) ∧ RpAll P vs ds := h
theorem rt_int {i : Int} (h : RepT P x (.int i)) : x = .int i := ct_int (H := P) h
theorem rt_bool {b : Bool} (h : RepT P x (.bool b)) : x = .bl b := ct_bool (H := P) h
theorem rt_str {z : Str} (h : RepT P x (.str z)) : x = .str z := ct_str (H := P) h
theorem rt_none (h : RepT P x .none) : x = .non := ct_none (H := P) h
theorem oc_int {i : Int} (q : Q (.int i) H) : OCont P H Q (.val (.int i)) := fun v h => by rw [rt_int h]; exact q
theorem oc_bool {b : Bool} (q : Q (.bl b) H) : OCont P H Q (.val (.bool b)) := fun v h => by rw [rt_bool h]; exact q
theorem oc_str {z : Str} (q : Q (.str z) H) : OCont P H Q (.val (.str z)) := fun v h => by rw [rt_str h]; exact q
theorem oc_none (q : Q .non H) : OCont P H Q (.val .none) := fun v h => by rw [rt_none h]; exact q
/-- how a wish on an operation's result is met -/
theorem oc_use_int {i : Int} (h : OCont P H Q (.val (.int i))) : Q (.int i) H := h _ (.int i)
theorem oc_use_bool {b : Bool} (h : OCont P H Q (.val (.bool b))) : Q (.bl b) H := h _ (.bl b)
theorem oc_use_str {z : Str} (h : OCont P H Q (.val (.str z))) : Q (.str z) H := h _ (.str z)
theorem oc_use_none (h : OCont P H Q (.val .none)) : Q .non H := h _ .non
end
theorem or_l {t u : R2} {g : D → D → Option ORes} {d e : D} {P H : Hp} {x y : V} {Q : VK} (h : t x y H Q) : (fun x y H Q => t x y H Q ∨ u x y H Q) x y H Q := .inl h

/-! ### ints -/
def ig (f : Int → Int → Option D) : D → D → Option ORes
  | .int i, .int j => (f i j).map .val
  | _, _ => none
theorem ig_inv {f : Int → Int → Option D} {d e : D} {o : ORes} (h : ig f d e = some o) : ∃ i j z, d = .int i ∧ e = .int j ∧ f i j = some z ∧ o = .val z := by
  cases d <;> cases e <;> try (simp [ig] at h; done)
  rename_i i j
  simp only [ig, Option.map_eq_some_iff] at h
  obtain ⟨z, hz, rfl⟩ := h
  exact ⟨i, j, z, rfl, rfl, hz, rfl⟩
theorem o2_I0 {g : Int → Int → Int} : Op2 (rI0 fun i j => .int (g i j)) (ig fun i j => some (.int (g i j))) := by
  intro P H x y d e o Q _ cx cy h q
  obtain ⟨i, j, z, rfl, rfl, hz, rfl⟩ := ig_inv h
  cases hz
  exact ⟨i, j, ct_int cx, ct_int cy, oc_use_int q⟩
theorem o2_B0 {g : Int → Int → Bool} : Op2 (rI0 fun i j => .bl (g i j)) (ig fun i j => some (.bool (g i j))) := by
  intro P H x y d e o Q _ cx cy h q
  obtain ⟨i, j, z, rfl, rfl, hz, rfl⟩ := ig_inv h
  cases hz
  exact ⟨i, j, ct_int cx, ct_int cy, oc_use_bool q⟩
theorem o2_I {c : Int → Int → Prop} [∀ i j, Decidable (c i j)] {g : Int → Int → Int} : Op2 (rI c fun i j => .int (g i j)) (ig fun i j => if c i j then some (.int (g i j)) else none) := by
  intro P H x y d e o Q _ cx cy h q
  obtain ⟨i, j, z, rfl, rfl, hz, rfl⟩ := ig_inv h
  by_cases hc : c i j
  · rw [if_pos hc] at hz
    cases hz
    exact ⟨i, j, ct_int cx, ct_int cy, hc, oc_use_int q⟩
  · rw [if_neg hc] at hz
    cases hz
/-- one of two operations -/
def oelse (g g' : D → D → Option ORes) : D → D → Option ORes := fun d e => match g d e with
  | some o => some o
  | none => g' d e
theorem o2_or {t t' : R2} {g g' : D → D → Option ORes} (h : Op2 t g) (h' : Op2 t' g') : Op2 (fun x y H Q => t x y H Q ∨ t' x y H Q) (oelse g g') := by
  intro P H x y d e o Q p cx cy k q
  unfold oelse at k
  cases z : g d e with
  | some o' => rw [z] at k; cases k; exact .inl (h P H x y d e o Q p cx cy z q)
  | none => rw [z] at k; exact .inr (h' P H x y d e o Q p cx cy k q)

/-! ### + -/
theorem len_line {n : Nat} (h : n ≤ 100000) : n ≤ sizeLine := Nat.le_trans h (by decide)
def gCatT : D → D → Option ORes
  | .tuple [], .tuple ys => if ys.length ≤ 100000 then some (.val (.tuple ys)) else none
  | .tuple (x :: xs), .tuple [] => if (x :: xs).length ≤ 100000 then some (.val (.tuple (x :: xs))) else none
  | .tuple (x :: xs), .tuple (y :: ys) => if (x :: xs).length + (y :: ys).length ≤ 100000 then some (.newT ((x :: xs) ++ (y :: ys))) else none
  | _, _ => none
section
variable {X : Cx}
theorem o2_catT : Op2 (rCatA X.K) gCatT := by
  intro P H x y d e o Q p cx cy h q
  have key : ∀ (as bs : List D), Ct P H x (.tuple as) → Ct P H y (.tuple bs) → as.length + bs.length ≤ 100000 →
      (as = [] → Q y H) → (as ≠ [] → bs = [] → Q x H) → (as ≠ [] → bs ≠ [] → ∀ r vs, H r = none → RpAll P vs (as ++ bs) → Q (.ref r) (upd H r (.tup vs))) → rCatA X.K x y H Q := by
    intro as bs cx cy hl q0 q1 q2
    obtain ⟨a, vs, rfl, _, ha, ra⟩ := ct_tup p cx
    obtain ⟨b, ws, rfl, _, hb, rb⟩ := ct_tup p cy
    have la := RpAll.len ra
    have lb := RpAll.len rb
    have na : vs = [] → as = [] := fun z => by rw [z] at la; exact List.eq_nil_of_length_eq_zero la.symm
    have nb : ws = [] → bs = [] := fun z => by rw [z] at lb; exact List.eq_nil_of_length_eq_zero lb.symm
    have na' : vs ≠ [] → as ≠ [] := fun z y => z (by rw [y] at la; exact List.eq_nil_of_length_eq_zero la)
    have nb' : ws ≠ [] → bs ≠ [] := fun z y => z (by rw [y] at lb; exact List.eq_nil_of_length_eq_zero lb)
    exact ⟨a, b, vs, ws, rfl, rfl, SqT.of ha, SqT.of hb, len_line (by omega), fun z => q0 (na z), fun z y => q1 (na' z) (nb y), fun z y r n => q2 (na' z) (nb' y) r _ n (RpAll.app ra rb)⟩
  cases d <;> cases e <;> try (simp [gCatT] at h; done)
  rename_i as bs
  cases as with
  | nil =>
    have lb : bs.length ≤ 100000 ∨ 100000 < bs.length := by omega
    simp only [gCatT] at h
    by_cases hb : bs.length ≤ 100000
    · rw [if_pos hb] at h
      cases h
      exact key [] bs cx cy (by simpa using hb) (fun _ => q y cy) (fun z => absurd rfl z) fun z => absurd rfl z
    · rw [if_neg hb] at h; cases h
  | cons a as =>
    cases bs with
    | nil =>
      simp only [gCatT] at h
      by_cases hb : (a :: as).length ≤ 100000
      · rw [if_pos hb] at h
        cases h
        exact key (a :: as) [] cx cy (by simpa using hb) (fun z => by cases z) (fun _ _ => q x cx) fun _ z => absurd rfl z
      · rw [if_neg hb] at h; cases h
    | cons b bs =>
      simp only [gCatT] at h
      by_cases hb : (a :: as).length + (b :: bs).length ≤ 100000
      · rw [if_pos hb] at h
        cases h
        exact key (a :: as) (b :: bs) cx cy hb (fun z => by cases z) (fun _ z => by cases z) fun _ _ => q
      · rw [if_neg hb] at h; cases h
def gCatL : D → D → Option ORes
  | .list xs, .list ys => if xs.length + ys.length ≤ 100000 then some (.newL (xs ++ ys)) else none
  | _, _ => none
theorem o2_catL : Op2 rCat gCatL := by
  intro P H x y d e o Q p cx cy h q
  cases d <;> cases e <;> try (simp [gCatL] at h; done)
  rename_i as bs
  simp only [gCatL] at h
  by_cases hb : as.length + bs.length ≤ 100000
  · rw [if_pos hb] at h
    cases h
    obtain ⟨a, vs, rfl, ha, ra⟩ := ct_lst cx
    obtain ⟨b, ws, rfl, hb', rb⟩ := ct_lst cy
    exact ⟨a, b, vs, ws, rfl, rfl, ha, hb', len_line (by rw [RpAll.len ra, RpAll.len rb]; exact hb), fun r n => q r _ n (RpAll.app ra rb)⟩
  · rw [if_neg hb] at h; cases h
def gCatS : D → D → Option ORes
  | .str x, .str y => if x.length + y.length ≤ 100000 then some (.val (.str (x ++ y))) else none
  | _, _ => none
theorem o2_catS : Op2 (fun x y H Q => ∃ i j, x = .str i ∧ y = .str j ∧ i.length + j.length ≤ sizeLine ∧ Q (.str (i ++ j)) H) gCatS := by
  intro P H x y d e o Q p cx cy h q
  cases d <;> cases e <;> try (simp [gCatS] at h; done)
  rename_i as bs
  simp only [gCatS] at h
  by_cases hb : as.length + bs.length ≤ 100000
  · rw [if_pos hb] at h
    cases h
    exact ⟨as, bs, ct_str cx, ct_str cy, len_line hb, oc_use_str q⟩
  · rw [if_neg hb] at h; cases h
def gAdd : D → D → Option ORes := oelse (ig fun i j => some (.int (i + j))) (oelse gCatT (oelse gCatL gCatS))
theorem o2_add : Op2 (fun x y H Q => (rI0 fun i j => .int (i + j)) x y H Q ∨ rCatA X.K x y H Q ∨ rCat x y H Q ∨ (∃ i j, x = .str i ∧ y = .str j ∧ i.length + j.length ≤ sizeLine ∧ Q (.str (i ++ j)) H)) gAdd :=
  o2_or o2_I0 (o2_or o2_catT (o2_or o2_catL o2_catS))
theorem op_addD : OpR X (binaryOp .Add) (fun x y H Q => (rI0 fun i j => .int (i + j)) x y H Q ∨ rCatA X.K x y H Q ∨ rCat x y H Q ∨ (∃ i j, x = .str i ∧ y = .str j ∧ i.length + j.length ≤ sizeLine ∧ Q (.str (i ++ j)) H)) :=
  OpR.or op_add (OpR.or op_catA (OpR.or op_cat op_add_str))
/-! ### the other arithmetic -/
def gSub : D → D → Option ORes := ig fun i j => some (.int (i - j))
instance decMul (i j : Int) : Decidable (CMul i j) := if h : i.natAbs < 1000000000 then .isTrue (.inl (by omega)) else (by unfold CMul; infer_instance)
instance decDivN (i j : Int) : Decidable (CDivN i j) := by unfold CDivN; infer_instance
instance decPow (i j : Int) : Decidable (CPow i j) := by unfold CPow; infer_instance
def gMulI : D → D → Option ORes := ig fun i j => if CMul i j then some (.int (i * j)) else none
def gFdiv : D → D → Option ORes := ig fun i j => if CDivN i j then some (.int (i.fdiv j)) else none
def gMod : D → D → Option ORes := ig fun i j => if j ≠ 0 then some (.int (i.fmod j)) else none
def gPow : D → D → Option ORes := ig fun i j => if CPow i j then some (.int (i ^ j.toNat)) else none
theorem o2_sub : Op2 (rI0 fun i j => .int (i - j)) gSub := o2_I0
theorem o2_fdiv : Op2 (rI CDivN fun i j => .int (i.fdiv j)) gFdiv := o2_I
theorem o2_mod : Op2 (rI (fun _ j => j ≠ 0) fun i j => .int (i.fmod j)) gMod := o2_I
theorem o2_pow : Op2 (rI CPow fun i j => .int (i ^ j.toNat)) gPow := o2_I
theorem rp_rep {P : Hp} {vs : List V} {ds : List D} (h : RpAll P vs ds) : ∀ n : Nat, RpAll P (List.replicate n vs).flatten (List.replicate n ds).flatten
  | 0 => .nil
  | n + 1 => by
    rw [List.replicate_succ, List.replicate_succ, List.flatten_cons, List.flatten_cons]
    exact RpAll.app h (rp_rep h n)
theorem rep_line {n k : Nat} (h1 : n < 100) (h2 : k < 1000) : n * k ≤ sizeLine := by
  have : n * k ≤ 100 * 1000 := Nat.mul_le_mul (by omega) (by omega)
  exact len_line (by omega)
def gRepLn : D → D → Option ORes
  | .list xs, .int k => if -1000 < k ∧ k < 1000 ∧ xs.length < 100 then some (.newL (List.replicate k.toNat xs).flatten) else none
  | _, _ => none
theorem o2_repL : Op2 rRep gRepLn := by
  intro P H x y d e o Q p cx cy h q
  cases d <;> cases e <;> try (simp [gRepLn] at h; done)
  rename_i as k
  simp only [gRepLn] at h
  by_cases hb : -1000 < k ∧ k < 1000 ∧ as.length < 100
  · rw [if_pos hb] at h
    cases h
    obtain ⟨a, vs, rfl, ha, ra⟩ := ct_lst cx
    have l := RpAll.len ra
    exact ⟨a, k, vs, rfl, ct_int cy, ha, by omega, by omega, rep_line (by omega) (by omega), fun r n => q r _ n (rp_rep ra _)⟩
  · rw [if_neg hb] at h; cases h
def gRepT : D → D → Option ORes
  | .tuple (x :: xs), .int k => if 2 ≤ k ∧ k < 1000 ∧ xs.length < 100 then some (.newT (List.replicate k.toNat (x :: xs)).flatten) else none
  | _, _ => none
theorem o2_repT : Op2 (rRepT X.K) gRepT := by
  intro P H x y d e o Q p cx cy h q
  cases d <;> cases e <;> try (simp [gRepT] at h; done)
  rename_i as k
  cases as with
  | nil => simp [gRepT] at h
  | cons b as =>
    simp only [gRepT] at h
    by_cases hb : 2 ≤ k ∧ k < 1000 ∧ as.length < 100
    · rw [if_pos hb] at h
      cases h
      obtain ⟨a, vs, rfl, _, ha, ra⟩ := ct_tup p cx
      have l := RpAll.len ra
      rw [List.length_cons] at l
      exact ⟨a, k, vs, rfl, ct_int cy, SqT.of ha, (fun z => by rw [z] at l; cases l), by omega, by omega, by omega, fun r n => q r _ n (rp_rep ra _)⟩
    · rw [if_neg hb] at h; cases h
def gMul : D → D → Option ORes := oelse gMulI (oelse gRepLn gRepT)
theorem o2_mul : Op2 (fun x y H Q => (rI CMul fun i j => .int (i * j)) x y H Q ∨ rRep x y H Q ∨ rRepT X.K x y H Q) gMul := o2_or o2_I (o2_or o2_repL o2_repT)
theorem op_mulD : OpR X (binaryOp .Mult) (fun x y H Q => (rI CMul fun i j => .int (i * j)) x y H Q ∨ rRep x y H Q ∨ rRepT X.K x y H Q) := OpR.or op_mul (OpR.or op_rep op_repT)
/-! ### order, equality, in -/
def rOrd (K : PySem.W.Frag) (g : D → D → Bool) : R2 := fun x y H Q => ∃ d e, Dp K H x d ∧ Dp K H y e ∧ PySem.W.alike d e = true ∧ d ≠ .none ∧ d.depth ≤ 64 ∧ Q (.bl (g d e)) H
theorem min_depth {d e : D} {u : Nat} (h : d.depth ≤ 64) (hu : u + 64 < cLine) : u + min d.depth e.depth < cLine := by
  have : min d.depth e.depth ≤ d.depth := Nat.min_le_left _ _
  omega
theorem op_ltO (hu : X.A.units + 64 < cLine) : OpR X (compareOp .Lt) (rOrd X.K fun d e => PySem.W.dataLt d e) := by
  intro pins s σ H x y v u Q I rx ry ⟨d, e, hd, he, ha, hn, hz, q⟩
  obtain ⟨as, r1⟩ := Dp.reads I d x v hd rx
  obtain ⟨bs, r2⟩ := Dp.reads I e y u he ry
  exact PySem.W.lt_data r1 r2 ha hn (min_depth hz hu) ⟨.bl _, H, I, rfl, q⟩
theorem op_gtO (hu : X.A.units + 64 < cLine) : OpR X (compareOp .Gt) (rOrd X.K fun d e => PySem.W.dataLt e d) := by
  intro pins s σ H x y v u Q I rx ry ⟨d, e, hd, he, ha, hn, hz, q⟩
  obtain ⟨as, r1⟩ := Dp.reads I d x v hd rx
  obtain ⟨bs, r2⟩ := Dp.reads I e y u he ry
  exact PySem.W.gt_data r1 r2 ha hn (min_depth hz hu) ⟨.bl _, H, I, rfl, q⟩
theorem op_leO (hu : X.A.units + 64 < cLine) : OpR X (compareOp .LtE) (rOrd X.K fun d e => !PySem.W.dataLt e d) := by
  intro pins s σ H x y v u Q I rx ry ⟨d, e, hd, he, ha, hn, hz, q⟩
  obtain ⟨as, r1⟩ := Dp.reads I d x v hd rx
  obtain ⟨bs, r2⟩ := Dp.reads I e y u he ry
  exact PySem.W.le_data r1 r2 ha hn (min_depth hz hu) ⟨.bl _, H, I, rfl, q⟩
theorem op_geO (hu : X.A.units + 64 < cLine) : OpR X (compareOp .GtE) (rOrd X.K fun d e => !PySem.W.dataLt d e) := by
  intro pins s σ H x y v u Q I rx ry ⟨d, e, hd, he, ha, hn, hz, q⟩
  obtain ⟨as, r1⟩ := Dp.reads I d x v hd rx
  obtain ⟨bs, r2⟩ := Dp.reads I e y u he ry
  exact PySem.W.ge_data r1 r2 ha hn (min_depth hz hu) ⟨.bl _, H, I, rfl, q⟩
def isNone : D → Bool
  | .none => true
  | _ => false
def isDic : D → Bool
  | .dict _ => true
  | _ => false
theorem alike_nd : ∀ {d e : D}, PySem.W.alike d e = true → (∀ k, d ≠ .dict k) ∧ ∀ k, e ≠ .dict k := by
  intro d e h
  cases d <;> cases e <;> first | (simp [PySem.W.alike] at h; done) | exact ⟨(fun _ z => by cases z), (fun _ z => by cases z)⟩
def gOrd (g : D → D → Bool) : D → D → Option ORes := fun d e => if PySem.W.alike d e = true ∧ isNone d = false ∧ d.depth ≤ 64 then some (.val (.bool (g d e))) else none
theorem o2_ord {g : D → D → Bool} : Op2 (rOrd X.K g) (gOrd g) := by
  intro P H x y d e o Q p cx cy h q
  unfold gOrd at h
  by_cases hb : PySem.W.alike d e = true ∧ isNone d = false ∧ d.depth ≤ 64
  · rw [if_pos hb] at h
    cases h
    obtain ⟨h1, h2, h3⟩ := hb
    obtain ⟨n1, n2⟩ := alike_nd h1
    exact ⟨d, e, cx.dp p n1, cy.dp p n2, h1, (fun z => by rw [z] at h2; cases h2), h3, oc_use_bool q⟩
  · rw [if_neg hb] at h; cases h
def gLt : D → D → Option ORes := oelse (ig fun i j => some (.bool (decide (i < j)))) (gOrd fun d e => PySem.W.dataLt d e)
def gLe : D → D → Option ORes := oelse (ig fun i j => some (.bool (decide (i ≤ j)))) (gOrd fun d e => !PySem.W.dataLt e d)
def gGt : D → D → Option ORes := oelse (ig fun i j => some (.bool (decide (j < i)))) (gOrd fun d e => PySem.W.dataLt e d)
def gGe : D → D → Option ORes := oelse (ig fun i j => some (.bool (decide (j ≤ i)))) (gOrd fun d e => !PySem.W.dataLt d e)
theorem o2_lt : Op2 (fun x y H Q => (rI0 fun i j => .bl (decide (i < j))) x y H Q ∨ rOrd X.K (fun d e => PySem.W.dataLt d e) x y H Q) gLt := o2_or o2_B0 o2_ord
theorem o2_le : Op2 (fun x y H Q => (rI0 fun i j => .bl (decide (i ≤ j))) x y H Q ∨ rOrd X.K (fun d e => !PySem.W.dataLt e d) x y H Q) gLe := o2_or o2_B0 o2_ord
theorem o2_gt : Op2 (fun x y H Q => (rI0 fun i j => .bl (decide (j < i))) x y H Q ∨ rOrd X.K (fun d e => PySem.W.dataLt e d) x y H Q) gGt := o2_or o2_B0 o2_ord
theorem o2_ge : Op2 (fun x y H Q => (rI0 fun i j => .bl (decide (j ≤ i))) x y H Q ∨ rOrd X.K (fun d e => !PySem.W.dataLt d e) x y H Q) gGe := o2_or o2_B0 o2_ord
theorem op_ltD (hu : X.A.units + 64 < cLine) : OpR X (compareOp .Lt) (fun x y H Q => (rI0 fun i j => .bl (decide (i < j))) x y H Q ∨ rOrd X.K (fun d e => PySem.W.dataLt d e) x y H Q) := OpR.or op_lt (op_ltO hu)
theorem op_leD (hu : X.A.units + 64 < cLine) : OpR X (compareOp .LtE) (fun x y H Q => (rI0 fun i j => .bl (decide (i ≤ j))) x y H Q ∨ rOrd X.K (fun d e => !PySem.W.dataLt e d) x y H Q) := OpR.or op_le (op_leO hu)
theorem op_gtD (hu : X.A.units + 64 < cLine) : OpR X (compareOp .Gt) (fun x y H Q => (rI0 fun i j => .bl (decide (j < i))) x y H Q ∨ rOrd X.K (fun d e => PySem.W.dataLt e d) x y H Q) := OpR.or op_gt (op_gtO hu)
theorem op_geD (hu : X.A.units + 64 < cLine) : OpR X (compareOp .GtE) (fun x y H Q => (rI0 fun i j => .bl (decide (j ≤ i))) x y H Q ∨ rOrd X.K (fun d e => !PySem.W.dataLt d e) x y H Q) := OpR.or op_ge (op_geO hu)
/-- ==, != -/
def gEqv (k : Bool) : D → D → Option ORes := fun d e => if SeqAt.shaped d = true ∧ SeqAt.shaped e = true then some (.val (.bool (PyData.eqv d e == k))) else none
theorem shaped_nd {d : D} (h : SeqAt.shaped d = true) : ∀ k, d ≠ .dict k := fun k e => by
  rw [e] at h
  simp [SeqAt.shaped, PyData.canLay0] at h
theorem o2_eqv : Op2 (rEqD X.K) (gEqv true) := by
  intro P H x y d e o Q p cx cy h q
  unfold gEqv at h
  by_cases hb : SeqAt.shaped d = true ∧ SeqAt.shaped e = true
  · rw [if_pos hb] at h
    cases h
    refine ⟨d, e, cx.dp p (shaped_nd hb.1), cy.dp p (shaped_nd hb.2), hb.1, hb.2, ?_⟩
    have := oc_use_bool q
    rwa [beq_true] at this
  · rw [if_neg hb] at h; cases h
theorem o2_nev : Op2 (rNeD X.K) (gEqv false) := by
  intro P H x y d e o Q p cx cy h q
  unfold gEqv at h
  by_cases hb : SeqAt.shaped d = true ∧ SeqAt.shaped e = true
  · rw [if_pos hb] at h
    cases h
    refine ⟨d, e, cx.dp p (shaped_nd hb.1), cy.dp p (shaped_nd hb.2), hb.1, hb.2, ?_⟩
    have := oc_use_bool q
    rwa [beq_false] at this
  · rw [if_neg hb] at h; cases h
def gEq : D → D → Option ORes := oelse (ig fun i j => some (.bool (decide (i = j)))) (gEqv true)
def gNe : D → D → Option ORes := oelse (ig fun i j => some (.bool (!decide (i = j)))) (gEqv false)
def rEqI : R2 := rI0 fun i j => .bl (decide (i = j))
def rNeI : R2 := rI0 fun i j => .bl (!decide (i = j))
theorem op_eqI : OpR X (compareOp .Eq) rEqI := opB0 fun i j t u s Q E h => PyProof.Rows.eq_int (by rw [Bool.beq_eq_decide_eq]; exact h)
theorem op_neI : OpR X (compareOp .NotEq) rNeI := opB0 fun i j t u s Q E h => PyProof.Rows.ne_int (by rw [bne, Bool.beq_eq_decide_eq]; exact h)
theorem o2_eq : Op2 (fun x y H Q => rEqI x y H Q ∨ rEqD X.K x y H Q) gEq := o2_or o2_B0 o2_eqv
theorem o2_ne : Op2 (fun x y H Q => rNeI x y H Q ∨ rNeD X.K x y H Q) gNe := o2_or o2_B0 o2_nev
theorem op_eqA (hu : X.A.units + 64 < cLine) : OpR X (compareOp .Eq) (fun x y H Q => rEqI x y H Q ∨ rEqD X.K x y H Q) := OpR.or op_eqI (op_eqD hu)
theorem op_neA (hu : X.A.units + 64 < cLine) : OpR X (compareOp .NotEq) (fun x y H Q => rNeI x y H Q ∨ rNeD X.K x y H Q) := OpR.or op_neI (op_neD hu)
/-- in, not in: lists and tuples of data -/
def rInS (K : PySem.W.Frag) (k : Bool) : R2 := fun x y H Q => ∃ d e ds, Dp K H x d ∧ Dp K H y e ∧ (e = .list ds ∨ e = .tuple ds) ∧ d.canLay0 = true ∧ PyData.canLayAll0 ds = true ∧ d.depth ≤ 64 ∧ Q (.bl ((ds.any fun z => PyData.eqv z d) == k)) H
theorem in_room {d : D} {ds : List D} {u : Nat} (h : d.depth ≤ 64) (hu : u + 65 < cLine) : u + 1 + min (PyData.depthAll ds) d.depth < cLine := by
  have : min (PyData.depthAll ds) d.depth ≤ d.depth := Nat.min_le_right _ _
  omega
theorem op_inS (hu : X.A.units + 65 < cLine) : OpR X (compareOp .In) (rInS X.K true) := by
  intro pins s σ H x y v u Q I rx ry ⟨d, e, ds, hd, he, k, l1, l2, hz, q⟩
  obtain ⟨as, r1⟩ := Dp.reads I d x v hd rx
  obtain ⟨bs, r2⟩ := Dp.reads I e y u he ry
  rw [beq_true] at q
  rcases k with rfl | rfl
  · exact SeqAt.in_list_reads r2 r1 l2 l1 (in_room hz hu) ⟨.bl _, H, I, rfl, q⟩
  · exact SeqAt.in_tuple_reads r2 r1 l2 l1 (in_room hz hu) ⟨.bl _, H, I, rfl, q⟩
theorem op_ninS (hu : X.A.units + 65 < cLine) : OpR X (compareOp .NotIn) (rInS X.K false) := by
  intro pins s σ H x y v u Q I rx ry ⟨d, e, ds, hd, he, k, l1, l2, hz, q⟩
  obtain ⟨as, r1⟩ := Dp.reads I d x v hd rx
  obtain ⟨bs, r2⟩ := Dp.reads I e y u he ry
  rw [beq_false] at q
  rcases k with rfl | rfl
  · exact SeqAt.notIn_list_reads r2 r1 l2 l1 (in_room hz hu) ⟨.bl _, H, I, rfl, q⟩
  · exact SeqAt.notIn_tuple_reads r2 r1 l2 l1 (in_room hz hu) ⟨.bl _, H, I, rfl, q⟩
def gInS (k : Bool) : D → D → Option ORes
  | d, .list ds => if d.canLay0 = true ∧ PyData.canLayAll0 ds = true ∧ d.depth ≤ 64 then some (.val (.bool ((ds.any fun z => PyData.eqv z d) == k))) else none
  | d, .tuple ds => if d.canLay0 = true ∧ PyData.canLayAll0 ds = true ∧ d.depth ≤ 64 then some (.val (.bool ((ds.any fun z => PyData.eqv z d) == k))) else none
  | _, _ => none
theorem lay_nd {d : D} (h : d.canLay0 = true) : ∀ k, d ≠ .dict k := fun k e => by
  rw [e] at h
  simp [PyData.canLay0] at h
theorem o2_inS {k : Bool} : Op2 (rInS X.K k) (gInS k) := by
  intro P H x y d e o Q p cx cy h q
  cases e <;> try (simp [gInS] at h; done)
  all_goals
    rename_i ds
    simp only [gInS] at h
    by_cases hb : d.canLay0 = true ∧ PyData.canLayAll0 ds = true ∧ d.depth ≤ 64
    · rw [if_pos hb] at h
      cases h
      first
        | exact ⟨d, .list ds, ds, cx.dp p (lay_nd hb.1), cy.dp p (fun _ z => by cases z), .inl rfl, hb.1, hb.2.1, hb.2.2, oc_use_bool q⟩
        | exact ⟨d, .tuple ds, ds, cx.dp p (lay_nd hb.1), cy.dp p (fun _ z => by cases z), .inr rfl, hb.1, hb.2.1, hb.2.2, oc_use_bool q⟩
    · rw [if_neg hb] at h; cases h
/-- is None, is not None -/
def gIsN (k : Bool) : D → D → Option ORes
  | d, .none => some (.val (.bool (isNone d == k)))
  | _, _ => none
theorem ct_isN {P H : Hp} {x : V} {d : D} (c : Ct P H x d) : decide (x = .non) = isNone d := by
  cases d with
  | none => rw [ct_none c]; rfl
  | list ds => obtain ⟨a, vs, rfl, _⟩ := ct_lst c; rfl
  | dict ds => obtain ⟨a, rfl, _⟩ := c; rfl
  | tuple ds => cases (show Rp P x (.tuple ds) from c); rfl
  | bool b => rw [ct_bool c]; rfl
  | int b => rw [ct_int c]; rfl
  | str b => rw [ct_str c]; rfl
theorem o2_isN : Op2 (fun x y H Q => y = .non ∧ Q (.bl (decide (x = .non))) H) (gIsN true) := by
  intro P H x y d e o Q p cx cy h q
  cases e <;> try (simp [gIsN] at h; done)
  cases h
  have z := oc_use_bool q
  rw [beq_true, ← ct_isN cx] at z
  exact ⟨ct_none cy, z⟩
theorem o2_notN : Op2 (fun x y H Q => y = .non ∧ Q (.bl (!decide (x = .non))) H) (gIsN false) := by
  intro P H x y d e o Q p cx cy h q
  cases e <;> try (simp [gIsN] at h; done)
  cases h
  have z := oc_use_bool q
  rw [beq_false, ← ct_isN cx] at z
  exact ⟨ct_none cy, z⟩
end
end Dn

end
section
/-! Dn4: tests, displays, subscripts, slices, calls of built-ins. -/
namespace Dn
open PySem L2
section
variable {Γ : Tx} {C : Cfg} {W : WX} {X : Cx} {a b c : Expr} {fa fb fc : Env → Out Res} {ga gb gc : Env → Out Bool} {pos : Pos} {rest : List Expr}

/-! ### and, or, not as tests -/
def tAndD (f g : Env → Out Bool) (r : Env) : Out Bool := (f r).bind fun k r1 => if k = true then g r1 else .ok false r1
def tOrD (f g : Env → Out Bool) (r : Env) : Out Bool := (f r).bind fun k r1 => if k = true then .ok true r1 else g r1
def tNotD (f : Env → Out Bool) (r : Env) : Out Bool := (f r).bind fun k r1 => .ok (!k) r1
theorem QW.qt (h : QW Γ W X a ga) : QT Γ W X a ga := by
  obtain ⟨t, p, k⟩ := h.ex
  exact ⟨t, p.pt, k⟩
theorem qw_and1 (h : QT Γ W X a ga) : QW Γ W X (.BoolOp .And [a] pos) ga := by
  obtain ⟨t, p, k⟩ := h.ex
  exact ⟨t, pw_and1 p, k⟩
theorem qw_or1 (h : QT Γ W X a ga) : QW Γ W X (.BoolOp .Or [a] pos) ga := by
  obtain ⟨t, p, k⟩ := h.ex
  exact ⟨t, pw_or1 p, k⟩
theorem qw_and (h : QT Γ W X a ga) (h' : QW Γ W X (.BoolOp .And (b :: rest) pos) gb) : QW Γ W X (.BoolOp .And (a :: b :: rest) pos) (tAndD ga gb) := by
  obtain ⟨t, p, k⟩ := h.ex
  obtain ⟨t', p', k'⟩ := h'.ex
  refine ⟨_, pw_and p p', fun C hC σ H P r Q S q => ?_⟩
  refine k C hC σ H P r _ S (q.bind fun v r1 P1 H1 t1 h1 => ?_)
  cases v with
  | true => exact k' C hC σ H1 P1 r1 Q t1.sit h1
  | false => exact h1 P1 H1 (Tr.refl t1.sit)
theorem qw_or (h : QT Γ W X a ga) (h' : QW Γ W X (.BoolOp .Or (b :: rest) pos) gb) : QW Γ W X (.BoolOp .Or (a :: b :: rest) pos) (tOrD ga gb) := by
  obtain ⟨t, p, k⟩ := h.ex
  obtain ⟨t', p', k'⟩ := h'.ex
  refine ⟨_, pw_or p p', fun C hC σ H P r Q S q => ?_⟩
  refine k C hC σ H P r _ S (q.bind fun v r1 P1 H1 t1 h1 => ?_)
  cases v with
  | true => exact h1 P1 H1 (Tr.refl t1.sit)
  | false => exact k' C hC σ H1 P1 r1 Q t1.sit h1
theorem qt_not (h : QT Γ W X a ga) : QT Γ W X (.UnaryOp .Not a pos) (tNotD ga) := by
  obtain ⟨t, p, k⟩ := h.ex
  refine ⟨_, pt_not p, fun C hC σ H P r Q S q => ?_⟩
  exact k C hC σ H P r _ S (q.bind fun v r1 P1 H1 t1 h1 => h1 P1 H1 (Tr.refl t1.sit))
/-! ### .. as values -/
def boolOf (x : Res) (r : Env) : Option Bool := match cont r x with
  | some (.bool k) => some k
  | _ => none
def eAnd (f g : Env → Out Res) (r : Env) : Out Res := (f r).bind fun x r1 => match boolOf x r1 with
  | some true => g r1
  | some false => .ok (.fz (.bool false)) r1
  | none => .bad
def eOr (f g : Env → Out Res) (r : Env) : Out Res := (f r).bind fun x r1 => match boolOf x r1 with
  | some true => .ok (.fz (.bool true)) r1
  | some false => g r1
  | none => .bad
def eNot (f : Env → Out Res) (r : Env) : Out Res := (f r).bind fun x r1 => match boolOf x r1 with
  | some k => .ok (.fz (.bool (!k))) r1
  | none => .bad
theorem boolOf_some {P H : Hp} {σ : St} {r : Env} {v : V} {x : Res} {k : Bool} (S : Sit C P H σ r) (h : ResOk C P H σ r v x) (e : boolOf x r = some k) : v = .bl k := by
  unfold boolOf at e
  cases q : cont r x with
  | none => rw [q] at e; cases e
  | some d =>
    rw [q] at e
    cases d with
    | bool b => cases e; exact ct_bool (h.ct S q)
    | _ => cases e
theorem qe_one {op : BoolOp} (h : QE Γ W X a fa) : QE Γ W X (.BoolOp op [a] pos) fa := by
  obtain ⟨t, p, k⟩ := h.ex
  exact ⟨t, pe_one p, k⟩
theorem qe_and (h : QE Γ W X a fa) (h' : QE Γ W X (.BoolOp .And (b :: rest) pos) fb) : QE Γ W X (.BoolOp .And (a :: b :: rest) pos) (eAnd fa fb) := by
  obtain ⟨t, p, k⟩ := h.ex
  obtain ⟨t', p', k'⟩ := h'.ex
  refine ⟨_, pe_and p p', fun C hC σ H P r Q S q => ?_⟩
  refine k C hC σ H P r _ S (q.bind fun x r1 P1 H1 t1 h1 v hv fv => ?_)
  cases e : boolOf x r1 with
  | none => rw [e] at h1; exact h1.elim
  | some z =>
    rw [e] at h1
    refine ⟨z, boolOf_some t1.sit hv e, ?_⟩
    cases z with
    | true => exact k' C hC σ H1 P1 r1 Q t1.sit (by
        revert h1
        show Cont C W σ P1 H1 r1 (fb r1) _ → Cont C W σ P1 H1 r1 (fb r1) _
        intro h1
        cases o : fb r1 with
        | ok y r2 => rw [o] at h1; exact fun P' H' t' v hv fv => h1 P' H' t' v hv (fv.back t1)
        | exn e r2 => rw [o] at h1; exact h1
        | bad => rw [o] at h1; exact h1)
    | false => exact h1 P1 H1 (Tr.refl t1.sit) _ (Rp.bl false) trivial
theorem qe_or (h : QE Γ W X a fa) (h' : QE Γ W X (.BoolOp .Or (b :: rest) pos) fb) : QE Γ W X (.BoolOp .Or (a :: b :: rest) pos) (eOr fa fb) := by
  obtain ⟨t, p, k⟩ := h.ex
  obtain ⟨t', p', k'⟩ := h'.ex
  refine ⟨_, pe_or p p', fun C hC σ H P r Q S q => ?_⟩
  refine k C hC σ H P r _ S (q.bind fun x r1 P1 H1 t1 h1 v hv fv => ?_)
  cases e : boolOf x r1 with
  | none => rw [e] at h1; exact h1.elim
  | some z =>
    rw [e] at h1
    refine ⟨z, boolOf_some t1.sit hv e, ?_⟩
    cases z with
    | false => exact k' C hC σ H1 P1 r1 Q t1.sit (by
        revert h1
        show Cont C W σ P1 H1 r1 (fb r1) _ → Cont C W σ P1 H1 r1 (fb r1) _
        intro h1
        cases o : fb r1 with
        | ok y r2 => rw [o] at h1; exact fun P' H' t' v hv fv => h1 P' H' t' v hv (fv.back t1)
        | exn e r2 => rw [o] at h1; exact h1
        | bad => rw [o] at h1; exact h1)
    | true => exact h1 P1 H1 (Tr.refl t1.sit) _ (Rp.bl true) trivial
theorem qe_not (h : QE Γ W X a fa) : QE Γ W X (.UnaryOp .Not a pos) (eNot fa) := by
  obtain ⟨t, p, k⟩ := h.ex
  refine ⟨_, pe_not p, fun C hC σ H P r Q S q => ?_⟩
  refine k C hC σ H P r _ S (q.bind fun x r1 P1 H1 t1 h1 v hv fv => ?_)
  cases e : boolOf x r1 with
  | none => rw [e] at h1; exact h1.elim
  | some z => rw [e] at h1; exact ⟨z, boolOf_some t1.sit hv e, h1 P1 H1 (Tr.refl t1.sit) _ (Rp.bl _) trivial⟩
/-- a bool-valued test from its value -/
def eIf (g : Env → Out Bool) (f f' : Env → Out Res) (r : Env) : Out Res := (g r).bind fun k r1 => if k = true then f r1 else f' r1
theorem cont_back {σ : St} {P H P1 H1 : Hp} {r r1 : Env} {o : Out Res} {Q : VK} (t1 : Tr C σ P H r P1 H1 r1) (h1 : Cont C W σ P1 H1 r1 o (fun x r' P' H' => ∀ v, ResOk C P' H' σ r' v x → Fresh H v x → Q v H')) :
    Cont C W σ P1 H1 r1 o (fun x r' P' H' => ∀ v, ResOk C P' H' σ r' v x → Fresh H1 v x → Q v H') := by
  cases o with
  | ok y r2 => exact fun P' H' t' v hv fv => h1 P' H' t' v hv (fv.back t1)
  | exn e r2 => exact h1
  | bad => exact h1
theorem qe_if (hc : QT Γ W X c gc) (h : QE Γ W X a fa) (h' : QE Γ W X b fb) : QE Γ W X (.IfExp c a b pos) (eIf gc fa fb) := by
  obtain ⟨t, p, k⟩ := h.ex
  obtain ⟨t', p', k'⟩ := h'.ex
  obtain ⟨tc, pc, kc⟩ := hc.ex
  refine ⟨_, pe_ifExp pc p p', fun C hC σ H P r Q S q => ?_⟩
  refine kc C hC σ H P r _ S (q.bind fun z r1 P1 H1 t1 h1 => ?_)
  cases z with
  | true => exact k C hC σ H1 P1 r1 Q t1.sit (cont_back t1 h1)
  | false => exact k' C hC σ H1 P1 r1 Q t1.sit (cont_back t1 h1)
/-! ### a < b < c -/
def eChain (g g' : D → D → Option ORes) (fa fb fc : Env → Out Res) (r : Env) : Out Res :=
  (fa r).bind fun x r1 => (fb r1).bind fun y r2 => (op2 g x y r2).bind fun z r3 => match boolOf z r3 with
    | some true => (fc r3).bind fun w r4 => op2 g' y w r4
    | some false => .ok (.fz (.bool false)) r3
    | none => .bad
theorem lift_sit {σ : St} {P H : Hp} {r r2 : Env} {o : Option ORes} {x : Res} {Q : Res → Env → Prop} (h : lift o r = .ok x r2) : r2 = r ∧ ∃ z, o = some z ∧ x = z.res := by
  cases o with
  | none => cases h
  | some z => cases h; exact ⟨rfl, z, rfl, rfl⟩
theorem chain_run {t t' : R2} {g g' : D → D → Option ORes} (hg : Op2 t g) (hg' : Op2 t' g') (h : QE Γ W X a fa) (h' : QE Γ W X b fb) (h'' : QE Γ W X c fc) :
    ∃ ta tb tc, PE X a ta ∧ PE X b tb ∧ PE X c tc ∧ ∀ (C : Cfg), C.Of Γ → ∀ (σ : St) (H P : Hp) (r : Env) (Q : VK), Sit C P H σ r → Cont C W σ P H r (eChain g g' fa fb fc r) (fun x r' P' H' => ∀ v, ResOk C P' H' σ r' v x → Fresh H v x → Q v H') → tChain t t' ta tb tc σ H Q := by
  obtain ⟨ta, pa, ka⟩ := h.ex
  obtain ⟨tb, pb, kb⟩ := h'.ex
  obtain ⟨tc, pc, kc⟩ := h''.ex
  refine ⟨ta, tb, tc, pa, pb, pc, fun C hC σ H P r Q S q => ?_⟩
  refine ka C hC σ H P r _ S (q.bind fun x r1 P1 H1 t1 h1 v hv fv => ?_)
  refine kb C hC σ H1 P1 r1 _ t1.sit (h1.bind fun y r2 P2 H2 t2 h2 w hw fw => ?_)
  -- the first comparison
  cases ez : op2 g x y r2 with
  | exn e r3 => unfold op2 lift at ez; split at ez <;> cases ez
  | bad => rw [ez] at h2; exact h2.elim
  | ok z r3 =>
    obtain ⟨rfl, o, eo, rfl⟩ := lift_sit (σ := σ) (P := P) (H := H) (Q := fun _ _ => True) (show lift _ r2 = .ok z r3 from ez)
    rw [ez] at h2
    obtain ⟨d, e, e1, e2, e3⟩ := op2_some eo
    have hv2 := hv.mono t2
    have c1 := hv2.ct t2.sit e1
    have c2 := hw.ct t2.sit e2
    refine hg P2 H2 v w d e o _ t2.sit.part c1 c2 e3 (ofin (C := C) (r := r3) t2.sit fun P3 H3 t3 u hu fu => ?_)
    have h3 := Cont.from h2 t3
    have hw3 := hw.mono t3
    show ∃ k, u = .bl k ∧ _
    have h4 : Cont C W σ P3 H3 r3 (match boolOf o.res r3 with
      | some true => (fc r3).bind fun w r4 => op2 g' y w r4
      | some false => .ok (.fz (.bool false)) r3
      | none => .bad) _ := h3
    cases eb : boolOf o.res r3 with
    | none => rw [eb] at h4; exact h4.elim
    | some k =>
      rw [eb] at h4
      refine ⟨k, boolOf_some t3.sit hu eb, ?_⟩
      cases k with
      | false => exact h4 P3 H3 (Tr.refl t3.sit) _ (Rp.bl false) trivial
      | true =>
        refine kc C hC σ H3 P3 r3 _ t3.sit (h4.bind fun w4 r4 P4 H4 t4 h5 v4 hv4 fv4 => ?_)
        obtain ⟨z', ez', oc'⟩ := lfin t4.sit h5 fun f => f.back (((t1.trans t2).trans t3).trans t4)
        obtain ⟨d', e', e1', e2', e3'⟩ := op2_some ez'
        exact hg' P4 H4 w v4 d' e' z' Q t4.sit.part ((hw3.mono t4).ct t4.sit e1') (hv4.ct t4.sit e2') e3' oc'
theorem qe_chain {op op' : CmpOp} {t t' : R2} {g g' : D → D → Option ORes} (ho : OpR X (compareOp op) t) (ho' : OpR X (compareOp op') t') (hg : Op2 t g) (hg' : Op2 t' g') (h : QE Γ W X a fa) (h' : QE Γ W X b fb) (h'' : QE Γ W X c fc)
    (hm : lastMarks [op, op'] [b, c] = false := by with_unfolding_all rfl) : QE Γ W X (.Compare a [op, op'] [b, c] pos) (eChain g g' fa fb fc) := by
  obtain ⟨ta, tb, tc, pa, pb, pc, k⟩ := chain_run hg hg' h h' h''
  exact ⟨_, pe_chain ho ho' pa pb pc hm, k⟩
theorem test_of {t : TE} (k : ∀ (σ : St) (H P : Hp) (r : Env) (Q : VK), Sit C P H σ r → Cont C W σ P H r (fa r) (fun x r' P' H' => ∀ v, ResOk C P' H' σ r' v x → Fresh H v x → Q v H') → t σ H Q) :
    ∀ (σ : St) (H P : Hp) (r : Env) (Q : Bool → Hp → Prop), Sit C P H σ r → Cont C W σ P H r (eTest fa r) (fun b r' P' H' => Q b H') → tTest t σ H Q := by
  intro σ H P r Q S h
  refine k σ H P r _ S (h.bind fun x r1 P1 H1 t1 h1 v hv fv => ?_)
  unfold tst at h1
  cases q : cont r1 x with
  | none => rw [q] at h1; exact h1.elim
  | some d =>
    rw [q] at h1
    have c1 := hv.ct t1.sit q
    cases d with
    | bool b => exact ⟨b, ct_bool c1, h1 P1 H1 (Tr.refl t1.sit)⟩
    | _ => exact h1.elim
theorem qt_chain {op op' : CmpOp} {t t' : R2} {g g' : D → D → Option ORes} (ho : OpR X (compareOp op) t) (ho' : OpR X (compareOp op') t') (hg : Op2 t g) (hg' : Op2 t' g') (h : QE Γ W X a fa) (h' : QE Γ W X b fb) (h'' : QE Γ W X c fc)
    (hm : lastMarks [op, op'] [b, c] = false := by with_unfolding_all rfl) : QT Γ W X (.Compare a [op, op'] [b, c] pos) (eTest (eChain g g' fa fb fc)) := by
  obtain ⟨ta, tb, tc, pa, pb, pc, k⟩ := chain_run hg hg' h h' h''
  exact ⟨_, pt_chain ho ho' pa pb pc hm, fun C hC => test_of (k C hC)⟩
/-! ### -a -/
def eNeg (f : Env → Out Res) (r : Env) : Out Res := (f r).bind fun x r1 => match cont r1 x with
  | some (.int i) => .ok (.fz (.int (-i))) r1
  | _ => .bad
theorem qe_neg (h : QE Γ W X a fa) : QE Γ W X (.UnaryOp .USub a pos) (eNeg fa) := by
  obtain ⟨t, p, k⟩ := h.ex
  refine ⟨_, pe_un un_neg p, fun C hC σ H P r Q S q => ?_⟩
  refine k C hC σ H P r _ S (q.bind fun x r1 P1 H1 t1 h1 v hv fv => ?_)
  cases e : cont r1 x with
  | none => rw [e] at h1; exact h1.elim
  | some d =>
    rw [e] at h1
    cases d with
    | int i => exact ⟨i, ct_int (hv.ct t1.sit e), h1 P1 H1 (Tr.refl t1.sit) _ (Rp.int _) trivial⟩
    | _ => exact h1.elim
/-! ### displays: each part is frozen as it comes -/
/-- a list of frozen parts (no dicts) -/
structure QF (Γ : Tx) (W : WX) (X : Cx) (es : List Expr) (f : Env → Out (List D)) : Prop where
  ex : ∃ t, PA X es t ∧ ∀ (C : Cfg), C.Of Γ → ∀ (σ : St) (H P : Hp) (r : Env) (Q : List V → Hp → Prop), Sit C P H σ r → Cont C W σ P H r (f r) (fun ds r' P' H' => ∀ vs, RpAll P' vs ds → Q vs H') → t σ H Q
def fNil (r : Env) : Out (List D) := .ok [] r
def stl (x : Res) (r : Env) : Out D := match settle r x with
  | some (d, r1) => if isDic d = true then .bad else .ok d r1
  | none => .bad
def fCons (f : Env → Out Res) (g : Env → Out (List D)) (r : Env) : Out (List D) := (f r).bind fun x r1 => (stl x r1).bind fun d r2 => (g r2).bind fun ds r3 => .ok (d :: ds) r3
theorem qf_nil : QF Γ W X [] fNil := ⟨_, pa_nil, fun C hC σ H P r Q S h => h P H (Tr.refl S) [] .nil⟩
theorem rp_of {P : Hp} {v : V} {d : D} (h : RepT P v d) (n : isDic d = false) : Rp P v d := by
  cases d with
  | dict k => cases n
  | _ => exact h
/-- behind an expression whose result is to be used together with the whole step -/
theorem Cont.expr {σ : St} {P H : Hp} {r : Env} {o : Out Res} {β : Type} {g : Res → Env → Out β} {k : β → Env → Hp → Hp → Prop} {Q : VK} (h : Cont C W σ P H r (o.bind g) k)
    (hk : ∀ x r1 P1 H1 v, Tr C σ P H r P1 H1 r1 → ResOk C P1 H1 σ r1 v x → Fresh H v x → Cont C W σ P H r (g x r1) k → Q v H1) : Cont C W σ P H r o (fun x r' P' H' => ∀ v, ResOk C P' H' σ r' v x → Fresh H v x → Q v H') := by
  cases o with
  | ok x r1 => exact fun P1 H1 t1 v hv fv => hk x r1 P1 H1 v t1 hv fv h
  | exn e r1 => exact h
  | bad => exact h
/-- a settled result -/
theorem Cont.stl {σ : St} {P H P1 H1 : Hp} {r r1 : Env} {v : V} {x : Res} {β : Type} {g : D → Env → Out β} {k : β → Env → Hp → Hp → Prop} (t1 : Tr C σ P H r P1 H1 r1) (hv : ResOk C P1 H1 σ r1 v x) (fv : Fresh H v x)
    (h : Cont C W σ P H r ((Dn.stl x r1).bind g) k) : ∃ d r2 P2, Tr C σ P H r P2 H1 r2 ∧ Sub P1 P2 ∧ Rp P2 v d ∧ Cont C W σ P2 H1 r2 (g d r2) k := by
  unfold Dn.stl at h
  cases e : settle r1 x with
  | none => rw [e] at h; exact h.elim
  | some q =>
    obtain ⟨d, r2⟩ := q
    rw [e] at h
    cases n : isDic d with
    | true => rw [show (match some (d, r2) with | some (d, r1) => if isDic d = true then Out.bad else Out.ok d r1 | none => Out.bad) = (Out.bad : Out D) from if_pos n] at h; exact h.elim
    | false =>
      rw [show (match some (d, r2) with | some (d, r1) => if isDic d = true then Out.bad else Out.ok d r1 | none => Out.bad) = Out.ok d r2 from if_neg (by rw [n]; decide)] at h
      obtain ⟨P2, t2, s2, rp⟩ := t1.settle hv fv e
      exact ⟨d, r2, P2, t2, s2, rp_of rp n, Cont.from h t2⟩
theorem qf_cons {es : List Expr} {g : Env → Out (List D)} (h : QE Γ W X a fa) (h' : QF Γ W X es g) (hs : starEach (a :: es) X.env = (false, eval a X.env) :: starEach es X.env := by rfl) : QF Γ W X (a :: es) (fCons fa g) := by
  obtain ⟨t, p, k⟩ := h.ex
  obtain ⟨t', p', k'⟩ := h'.ex
  refine ⟨_, pa_cons p p' hs, fun C hC σ H P r Q S q => ?_⟩
  refine k C hC σ H P r _ S (Cont.expr q fun x r1 P1 H1 v t1 hv fv q1 => ?_)
  obtain ⟨d, r2, P2, t2, s2, rp, q2⟩ := Cont.stl t1 hv fv q1
  exact k' C hC σ H1 P2 r2 _ t2.sit (q2.bind fun ds r3 P3 H3 t3 q3 vs hvs => q3 P3 H3 (Tr.refl t3.sit) (v :: vs) (.cons (dp_sub t3.sub _ _ rp) hvs))
def dTup (f : Env → Out (List D)) (r : Env) : Out Res := (f r).bind fun ds r1 => if ds.length ≤ 100000 then .ok (.fz (.tuple ds)) r1 else .bad
def dLst (f : Env → Out (List D)) (r : Env) : Out Res := (f r).bind fun ds r1 => if ds.length ≤ 100000 then .ok (.ow (.list ds)) r1 else .bad
theorem qe_tup {es : List Expr} {k : Nat} {g : Env → Out (List D)} (h : QF Γ W X es g) : QE Γ W X (.Tuple es k pos) (dTup g) := by
  obtain ⟨t, p, kt⟩ := h.ex
  refine ⟨_, pe_tup p, fun C hC σ H P r Q S q => ?_⟩
  refine kt C hC σ H P r _ S (q.bind fun ds r1 P1 H1 t1 h1 vs hvs => ?_)
  by_cases hl : ds.length ≤ 100000
  · rw [if_pos hl] at h1
    refine ⟨len_line (by rw [RpAll.len hvs]; exact hl), fun n hn => ?_⟩
    have t2 := Tr.newF (o := .tup vs) t1.sit hn rfl
    exact h1 _ _ t2 _ (show RepT _ _ (.tuple ds) from .tup upd_same (dpa_sub t2.sub _ _ hvs)) trivial
  · rw [if_neg hl] at h1; exact h1.elim
theorem qe_lst {es : List Expr} {g : Env → Out (List D)} (h : QF Γ W X es g) : QE Γ W X (.List es pos) (dLst g) := by
  obtain ⟨t, p, kt⟩ := h.ex
  refine ⟨_, pe_lst p, fun C hC σ H P r Q S q => ?_⟩
  refine kt C hC σ H P r _ S (q.bind fun ds r1 P1 H1 t1 h1 vs hvs => ?_)
  by_cases hl : ds.length ≤ 100000
  · rw [if_pos hl] at h1
    refine ⟨len_line (by rw [RpAll.len hvs]; exact hl), fun n hn => ?_⟩
    have t2 := Tr.new (o := .lst vs) t1.sit hn
    exact h1 _ _ t2 _ ⟨n, rfl, t1.sit.part.non hn, t1.sit.old n hn, ⟨vs, upd_same, hvs⟩, fun i z => t1.sit.slotN hn i z⟩ fun a' e => by
      cases e
      cases q : H n with
      | none => rfl
      | some o => obtain ⟨o', z⟩ := t1.some n o q; rw [hn] at z; cases z
  · rw [if_neg hl] at h1; exact h1.elim
/-! ### subscripts and slices -/
def gIx : D → D → Option ORes
  | .list ds, .int i => (atI ds i).map .val
  | .tuple ds, .int i => (atI ds i).map .val
  | .str x, .int i => if x.length ≤ 100000 then (atI x.cps.toList i).map fun c => .val (.str ⟨#[c]⟩) else none
  | _, _ => none
theorem at_get {P : Hp} {vs : List V} {ds : List D} {i : Int} {d : D} (h : RpAll P vs ds) (e : atI ds i = some d) : ∃ v, atI vs i = some v ∧ Rp P v d := by
  unfold atI at e ⊢
  rw [RpAll.len h]
  cases q : ixN ds.length i with
  | none => rw [q] at e; cases e
  | some j => rw [q] at e; exact RpAll.get h e
theorem o2_ix : Op2 (rIx X.K) gIx := by
  intro P H x y d e o Q p cx cy h q
  cases d <;> cases e <;> try (simp [gIx] at h; done)
  · rename_i z i
    simp only [gIx] at h
    by_cases hl : z.length ≤ 100000
    · rw [if_pos hl, Option.map_eq_some_iff] at h
      obtain ⟨c, hc, rfl⟩ := h
      exact .inr (.inr ⟨z, i, c, ct_str cx, ct_int cy, len_line hl, hc, oc_use_str q⟩)
    · rw [if_neg hl] at h; cases h
  · rename_i ds i
    simp only [gIx, Option.map_eq_some_iff] at h
    obtain ⟨d, hd, rfl⟩ := h
    obtain ⟨a, vs, rfl, ha, ra⟩ := ct_lst cx
    obtain ⟨v, hv, rv⟩ := at_get ra hd
    exact .inl ⟨a, vs, i, v, rfl, ct_int cy, SqL.of ha, hv, q v (RepT.of rv)⟩
  · rename_i ds i
    simp only [gIx, Option.map_eq_some_iff] at h
    obtain ⟨d, hd, rfl⟩ := h
    obtain ⟨a, vs, rfl, _, ha, ra⟩ := ct_tup p cx
    obtain ⟨v, hv, rv⟩ := at_get ra hd
    exact .inr (.inl ⟨a, vs, i, v, rfl, ct_int cy, SqT.of ha, hv, q v (RepT.of rv)⟩)
theorem qe_ix (h : QE Γ W X a fa) (h' : QE Γ W X b fb) (hs : PlainIx b := by intro _ _; rfl) : QE Γ W X (.Subscript a b pos) (eOp2 gIx fa fb) := by
  obtain ⟨ta, ha, ka⟩ := h.ex
  obtain ⟨tb, hb, kb⟩ := h'.ex
  exact ⟨_, pe_ix ix_seq ha hb hs, fun C hC => two o2_ix (ka C hC) (kb C hC)⟩
/-- a part of a slice -/
structure QP (Γ : Tx) (W : WX) (X : Cx) (e : Option Expr) (f : Env → Out (Option Int)) : Prop where
  ex : ∃ t, PO X e t ∧ ∀ (C : Cfg), C.Of Γ → ∀ (σ : St) (H P : Hp) (r : Env) (Q : Option Int → Hp → Prop), Sit C P H σ r → Cont C W σ P H r (f r) (fun o r' P' H' => Q o H') → t σ H Q
def pNon (r : Env) : Out (Option Int) := .ok none r
def pSom (f : Env → Out Res) (r : Env) : Out (Option Int) := (f r).bind fun x r1 => match cont r1 x with
  | some (.int i) => .ok (some i) r1
  | _ => .bad
theorem qp_none : QP Γ W X none pNon := ⟨_, po_none, fun C hC σ H P r Q S h => h P H (Tr.refl S)⟩
theorem qp_some (h : QE Γ W X a fa) : QP Γ W X (some a) (pSom fa) := by
  obtain ⟨t, p, k⟩ := h.ex
  refine ⟨_, po_some p, fun C hC σ H P r Q S q => ?_⟩
  refine k C hC σ H P r _ S (q.bind fun x r1 P1 H1 t1 h1 v hv fv => ?_)
  cases e : cont r1 x with
  | none => rw [e] at h1; exact h1.elim
  | some d =>
    rw [e] at h1
    cases d with
    | int i => exact ⟨i, ct_int (hv.ct t1.sit e), h1 P1 H1 (Tr.refl t1.sit)⟩
    | _ => exact h1.elim
def cutD (xs : List D) (lo hi : Option Int) : List D := (xs.drop (HT.sIx xs.length 0 lo)).take (HT.sIx xs.length xs.length hi - HT.sIx xs.length 0 lo)
def gSl (d : D) (lo hi : Option Int) : Option ORes := match d with
  | .list ds => some (.newL (cutD ds lo hi))
  | .tuple ds => if HT.sIx ds.length 0 lo = 0 ∧ HT.sIx ds.length ds.length hi = ds.length then some (.val (.tuple ds)) else some (.newT (cutD ds lo hi))
  | _ => none
def eSl (f : Env → Out Res) (g g' : Env → Out (Option Int)) (r : Env) : Out Res := (f r).bind fun x r1 => (g r1).bind fun lo r2 => (g' r2).bind fun hi r3 => lift (sole (cont r3 x) fun d => gSl d lo hi) r3
theorem cut_rp {P : Hp} {vs : List V} {ds : List D} (h : RpAll P vs ds) (lo hi : Option Int) : RpAll P (cutV vs lo hi) (cutD ds lo hi) := by
  unfold cutV cutD
  rw [RpAll.len h]
  exact RpAll.take _ (RpAll.drop _ h)
theorem qe_slice {lo hi : Option Expr} {p2 : Pos} {g g' : Env → Out (Option Int)} (h : QE Γ W X a fa) (hl : QP Γ W X lo g) (hh : QP Γ W X hi g') : QE Γ W X (.Subscript a (.Slice lo hi none p2) pos) (eSl fa g g') := by
  obtain ⟨t, p, k⟩ := h.ex
  obtain ⟨tl, pl, kl⟩ := hl.ex
  obtain ⟨th, ph, kh⟩ := hh.ex
  refine ⟨_, pe_slice (SlR.or sl_list sl_tupA) p pl ph, fun C hC σ H P r Q S q => ?_⟩
  refine k C hC σ H P r _ S (q.bind fun x r1 P1 H1 t1 h1 v hv fv => ?_)
  refine kl C hC σ H1 P1 r1 _ t1.sit (h1.bind fun lo r2 P2 H2 t2 h2 => ?_)
  refine kh C hC σ H2 P2 r2 _ t2.sit (h2.bind fun hi r3 P3 H3 t3 h3 => ?_)
  obtain ⟨z, ez, oc⟩ := lfin t3.sit h3 fun f => f.back ((t1.trans t2).trans t3)
  cases e : cont r3 x with
  | none => rw [e] at ez; cases ez
  | some d =>
    have ez' : gSl d lo hi = some z := by rw [e] at ez; exact ez
    have c := ((hv.mono t2).mono t3).ct t3.sit e
    unfold gSl at ez'
    cases d with
    | list ds =>
      cases ez'
      obtain ⟨a', vs, rfl, ha, ra⟩ := ct_lst c
      exact .inl ⟨a', vs, rfl, SqL.of ha, fun n hn => oc n _ hn (cut_rp ra lo hi)⟩
    | tuple ds =>
      obtain ⟨a', vs, rfl, _, ha, ra⟩ := ct_tup t3.sit.part c
      have l := RpAll.len ra
      by_cases hw : HT.sIx ds.length 0 lo = 0 ∧ HT.sIx ds.length ds.length hi = ds.length
      · have ez2 : z = .val (.tuple ds) := by
          have : (if HT.sIx ds.length 0 lo = 0 ∧ HT.sIx ds.length ds.length hi = ds.length then some (ORes.val (.tuple ds)) else some (.newT (cutD ds lo hi))) = some z := ez'
          rw [if_pos hw] at this; exact (Option.some.inj this).symm
        subst ez2
        exact .inr ⟨a', vs, rfl, SqT.of ha, fun _ => oc _ c, fun nw => absurd (by rw [l]; exact hw) nw⟩
      · have ez2 : z = .newT (cutD ds lo hi) := by
          have : (if HT.sIx ds.length 0 lo = 0 ∧ HT.sIx ds.length ds.length hi = ds.length then some (ORes.val (.tuple ds)) else some (.newT (cutD ds lo hi))) = some z := ez'
          rw [if_neg hw] at this; exact (Option.some.inj this).symm
        subst ez2
        exact .inr ⟨a', vs, rfl, SqT.of ha, fun w => absurd (by rw [l] at w; exact w) hw, fun _ n hn => oc n _ hn (cut_rp ra lo hi)⟩
    | _ => cases ez'
/-! ### calls of built-ins -/
/-- one argument -/
def Op1 (t : List V → Hp → VK → Prop) (g : D → Option ORes) : Prop := ∀ (P H : Hp) (x : V) (d : D) (o : ORes) (Q : VK), Part P H → Ct P H x d → g d = some o → OCont P H Q o → t [x] H Q
def eOp1 (g : D → Option ORes) (f : Env → Out Res) (r : Env) : Out Res := (f r).bind fun x r1 => lift (sole (cont r1 x) g) r1
theorem one1 {t : List V → Hp → VK → Prop} {g : D → Option ORes} (hg : Op1 t g) {ta : TE} (ka : ∀ (σ : St) (H P : Hp) (r : Env) (Q : VK), Sit C P H σ r → Cont C W σ P H r (fa r) (fun x r' P' H' => ∀ v, ResOk C P' H' σ r' v x → Fresh H v x → Q v H') → ta σ H Q) :
    ∀ (σ : St) (H P : Hp) (r : Env) (Q : VK), Sit C P H σ r → Cont C W σ P H r (eOp1 g fa r) (fun x r' P' H' => ∀ v, ResOk C P' H' σ r' v x → Fresh H v x → Q v H') → tCB t (tCons ta tNil) σ H Q := by
  intro σ H P r Q S h
  refine ka σ H P r _ S (h.bind fun x r1 P1 H1 t1 h1 v hv fv => ?_)
  obtain ⟨z, ez, oc⟩ := lfin t1.sit h1 fun f => f.back t1
  cases e : cont r1 x with
  | none => rw [e] at ez; cases ez
  | some d => exact hg P1 H1 v d z Q t1.sit.part (hv.ct t1.sit e) (by rw [e] at ez; exact ez) oc
theorem qe_call1 {x : Str} {id : String} {p : Pos} {t : List V → Hp → VK → Prop} {g : D → Option ORes} (hc : CallR X (.builtin id) t) (hg : Op1 t g) (hgl : Gl X x) (hm : X.mg x = none) (hv : bootBuiltins x = some (.builtin id)) (h : QE Γ W X a fa)
    (hn : x ≠ "__name__" := by decide) (hd : (x == ("__debug__" : Str)) = false := by decide) (hs : starEach [a] X.env = (false, eval a X.env) :: starEach [] X.env := by rfl) (hp : (backTo pos (starEach [] X.env)).any (·.1) = false := by rfl) : QE Γ W X (.Call (.Name x p) [a] [] pos) (eOp1 g fa) := by
  obtain ⟨ta, ha, ka⟩ := h.ex
  exact ⟨_, pe_callB hc hgl hm hv (pa_cons ha pa_nil hs) hn hd hs hp, fun C hC => one1 hg (ka C hC)⟩
theorem qe_callT1 {x : Str} {T : String} {p : Pos} {t : List V → Hp → VK → Prop} {g : D → Option ORes} (hc : CallR X (.type T) t) (hg : Op1 t g) (hgl : Gl X x) (hm : X.mg x = none) (hv : bootBuiltins x = some (.type T)) (h : QE Γ W X a fa)
    (hn : x ≠ "__name__" := by decide) (hd : (x == ("__debug__" : Str)) = false := by decide) (hs : starEach [a] X.env = (false, eval a X.env) :: starEach [] X.env := by rfl) (hp : (backTo pos (starEach [] X.env)).any (·.1) = false := by rfl) : QE Γ W X (.Call (.Name x p) [a] [] pos) (eOp1 g fa) := by
  obtain ⟨ta, ha, ka⟩ := h.ex
  exact ⟨_, pe_callTy hc hgl hm hv (pa_cons ha pa_nil hs) hn hd hs hp, fun C hC => one1 hg (ka C hC)⟩
/-- two arguments -/
def Op2C (t : List V → Hp → VK → Prop) (g : D → D → Option ORes) : Prop := ∀ (P H : Hp) (x y : V) (d e : D) (o : ORes) (Q : VK), Part P H → Ct P H x d → Ct P H y e → g d e = some o → OCont P H Q o → t [x, y] H Q
theorem qe_call2 {x : Str} {id : String} {p : Pos} {t : List V → Hp → VK → Prop} {g : D → D → Option ORes} (hc : CallR X (.builtin id) t) (hg : Op2C t g) (hgl : Gl X x) (hm : X.mg x = none) (hv : bootBuiltins x = some (.builtin id)) (h : QE Γ W X a fa) (h' : QE Γ W X b fb)
    (hn : x ≠ "__name__" := by decide) (hd : (x == ("__debug__" : Str)) = false := by decide) (hs : starEach [a, b] X.env = (false, eval a X.env) :: starEach [b] X.env := by rfl) (hs' : starEach [b] X.env = (false, eval b X.env) :: starEach [] X.env := by rfl) (hp : (backTo pos (starEach [b] X.env)).any (·.1) = false := by rfl) : QE Γ W X (.Call (.Name x p) [a, b] [] pos) (eOp2 g fa fb) := by
  obtain ⟨ta, ha, ka⟩ := h.ex
  obtain ⟨tb, hb, kb⟩ := h'.ex
  exact ⟨_, pe_callB hc hgl hm hv (pa_cons ha (pa_cons hb pa_nil hs') hs) hn hd hs hp, fun C hC => two (t := fun x y H Q => t [x, y] H Q) hg (ka C hC) (kb C hC)⟩
end
end Dn

end
section
/-! Dn5: statements. -/
namespace Dn
open PySem L2
inductive Fl where
  | nx | bk | ct | rt (x : Res)
def SCont (C : Cfg) (W : WX) (P : Hp) (o : Out Fl) (D : Ends) : Prop := match o with
  | .ok .nx r' => ∀ P' H' σ', Sit C P' H' σ' r' → Sub P P' → D.nx σ' H'
  | .ok .bk r' => ∀ P' H' σ', Sit C P' H' σ' r' → Sub P P' → D.bk σ' H'
  | .ok .ct r' => ∀ P' H' σ', Sit C P' H' σ' r' → Sub P P' → D.ct σ' H'
  | .ok (.rt x) r' => ∀ P' H' σ' v, Sit C P' H' σ' r' → Sub P P' → ResOk C P' H' σ' r' v x → D.rt v H'
  | .exn e r' => ∀ P' H' σ', Sit C P' H' σ' r' → Sub P P' → ∀ dd, W (C.cls e) dd σ' H'
  | .bad => False
structure QS (Γ : Tx) (W : WX) (X : Cx) (st : Stmt) (f : Env → Out Fl) : Prop where
  ex : ∃ t, PS X st t ∧ ∀ (C : Cfg), C.Of Γ → ∀ (σ : St) (H P : Hp) (r : Env) (D : Ends), Sit C P H σ r → SCont C W P (f r) D → t D σ H
structure QSs (Γ : Tx) (W : WX) (X : Cx) (st : List Stmt) (f : Env → Out Fl) : Prop where
  ex : ∃ t, PSs X st t ∧ ∀ (C : Cfg), C.Of Γ → ∀ (σ : St) (H P : Hp) (r : Env) (D : Ends), Sit C P H σ r → SCont C W P (f r) D → t D σ H
def dNil (r : Env) : Out Fl := .ok .nx r
def andThen (o : Out Fl) (g : Env → Out Fl) : Out Fl := match o with
  | .ok .nx r1 => g r1
  | o => o
def dSeq (f g : Env → Out Fl) (r : Env) : Out Fl := andThen (f r) g
section
variable {Γ : Tx} {C : Cfg} {W : WX} {X : Cx} {st : Stmt} {rest : List Stmt} {f g : Env → Out Fl} {P P1 H H1 : Hp} {σ : St} {r r1 : Env} {E : Ends} {o : Out Fl}
theorem SCont.from (h : SCont C W P o E) (s : Sub P P1) : SCont C W P1 o E := by
  cases o with
  | ok fl r' =>
    cases fl with
    | nx => exact fun P' H' σ' S s' => h P' H' σ' S (s.trans s')
    | bk => exact fun P' H' σ' S s' => h P' H' σ' S (s.trans s')
    | ct => exact fun P' H' σ' S s' => h P' H' σ' S (s.trans s')
    | rt x => exact fun P' H' σ' v S s' => h P' H' σ' v S (s.trans s')
  | exn e r' => exact fun P' H' σ' S s' => h P' H' σ' S (s.trans s')
  | bad => exact h
theorem SCont.seq (h : SCont C W P (andThen o g) E) : SCont C W P o { E with nx := fun σ' H' => ∃ P' r', Sit C P' H' σ' r' ∧ SCont C W P' (g r') E } := by
  cases o with
  | ok fl r' =>
    cases fl with
    | nx => exact fun P' H' σ' S s' => ⟨P', r', S, SCont.from h s'⟩
    | bk => exact h
    | ct => exact h
    | rt x => exact h
  | exn e r' => exact h
  | bad => exact h
theorem qss_nil : QSs Γ W X [] dNil := ⟨_, pss_nil, fun C hC σ H P r D S h => h P H σ S (Sub.refl P)⟩
theorem qss_one (h : QS Γ W X st f) : QSs Γ W X [st] f := by
  obtain ⟨t, p, k⟩ := h.ex
  exact ⟨_, pss_one p, k⟩
theorem qss_cons (h : QS Γ W X st f) (h' : QSs Γ W X rest g) : QSs Γ W X (st :: rest) (dSeq f g) := by
  obtain ⟨t, p, k⟩ := h.ex
  obtain ⟨t', p', k'⟩ := h'.ex
  refine ⟨_, pss_cons p p', fun C hC σ H P r D S q => ?_⟩
  refine k C hC σ H P r _ S ?_
  have z := SCont.seq (show SCont C W P (andThen (f r) g) D from q)
  cases o : f r with
  | ok fl r' =>
    rw [o] at z
    cases fl with
    | nx => exact fun P' H' σ' S' s' => let ⟨P2, r2, S2, q2⟩ := z P' H' σ' S' s'; k' C hC σ' H' P2 r2 D S2 q2
    | bk => exact z
    | ct => exact z
    | rt x => exact z
  | exn e r' => rw [o] at z; exact z
  | bad => rw [o] at z; exact z.elim
/-- from an expression to a statement -/
theorem SCont.expr {α : Type} {o : Out α} {g : α → Env → Out Fl} {k : α → Env → Hp → Hp → Prop} (h : SCont C W P (match o with | .ok a r1 => g a r1 | .exn e r1 => .exn e r1 | .bad => .bad) E)
    (hk : ∀ a r1 P1 H1, Tr C σ P H r P1 H1 r1 → SCont C W P (g a r1) E → k a r1 P1 H1) : Cont C W σ P H r o k := by
  cases o with
  | ok a r1 => exact fun P1 H1 t => hk a r1 P1 H1 t h
  | exn e r1 => exact fun P1 H1 t => h P1 H1 σ t.sit t.sub
  | bad => exact h
def thenS {α : Type} (o : Out α) (g : α → Env → Out Fl) : Out Fl := match o with
  | .ok a r1 => g a r1
  | .exn e r1 => .exn e r1
  | .bad => .bad

/-! ### slots are stored -/
theorem Sit.setF {i : Nat} {v : V} {d : D} (S : Sit C P H σ r) (h : RepT P v d) : Sit C P H (σ.set i (some v)) (r.set i (.fz d)) := by
  have ow : ∀ j b, Owns (σ.set i (some v)) (r.set i (.fz d)) j b → Owns σ r j b := fun j b ⟨h1, d2, h2⟩ => by
    by_cases e : i = j
    · subst e
      rcases Nat.lt_or_ge i r.length with l | l
      · rw [List.getElem?_set_self l] at h2; rcases h2 with h2 | h2 <;> cases h2
      · rw [List.getElem?_eq_none (by rw [List.length_set]; exact l)] at h2; rcases h2 with h2 | h2 <;> cases h2
    · rw [List.getElem?_set_ne e] at h1 h2
      exact ⟨h1, d2, h2⟩
  refine ⟨S.tabs, S.part, S.keep, S.old, fun j s es => ?_, by rw [List.length_set, List.length_set]; exact S.len, fun j k b x y => S.own j k b (ow j b x) (ow k b y), S.newP⟩
  by_cases e : i = j
  · subst e
    rcases Nat.lt_or_ge i r.length with l | l
    · rw [List.getElem?_set_self l] at es
      cases es
      rw [List.getElem?_set_self (by rw [S.len]; exact l)]
      exact ⟨v, rfl, h⟩
    · rw [List.getElem?_eq_none (by rw [List.length_set]; exact l)] at es; cases es
  · rw [List.getElem?_set_ne e] at es ⊢
    exact S.slot j s es
theorem Sit.setO {i : Nat} {a : Addr} {d : D} (S : Sit C P H σ r) (n : P a = none) (n0 : C.H0 a = none) (h : Holds P H a d) (no : ∀ j, ¬ Owns σ r j a) : Sit C P H (σ.set i (some (.ref a))) (r.set i (.ow d)) := by
  have ow : ∀ j b, Owns (σ.set i (some (.ref a))) (r.set i (.ow d)) j b → (Owns σ r j b ∧ j ≠ i) ∨ (b = a ∧ j = i) := fun j b ⟨h1, d2, h2⟩ => by
    by_cases e : i = j
    · subst e
      rcases Nat.lt_or_ge i r.length with l | l
      · rw [List.getElem?_set_self (by rw [S.len]; exact l)] at h1; cases h1; exact .inr ⟨rfl, rfl⟩
      · rw [List.getElem?_eq_none (by rw [List.length_set]; exact l)] at h2; rcases h2 with h2 | h2 <;> cases h2
    · rw [List.getElem?_set_ne e] at h1 h2
      exact .inl ⟨⟨h1, d2, h2⟩, Ne.symm e⟩
  refine ⟨S.tabs, S.part, S.keep, S.old, fun j s es => ?_, by rw [List.length_set, List.length_set]; exact S.len, fun j k b x y => ?_, S.newP⟩
  · by_cases e : i = j
    · subst e
      rcases Nat.lt_or_ge i r.length with l | l
      · rw [List.getElem?_set_self l] at es
        cases es
        rw [List.getElem?_set_self (by rw [S.len]; exact l)]
        exact ⟨a, rfl, n, n0, h⟩
      · rw [List.getElem?_eq_none (by rw [List.length_set]; exact l)] at es; cases es
    · rw [List.getElem?_set_ne e] at es ⊢
      exact S.slot j s es
  · rcases ow j b x with ⟨x1, x2⟩ | ⟨x1, x2⟩
    · rcases ow k b y with ⟨y1, y2⟩ | ⟨y1, y2⟩
      · exact S.own j k b x1 y1
      · exact (no j (y1 ▸ x1)).elim
    · rcases ow k b y with ⟨y1, y2⟩ | ⟨y1, y2⟩
      · exact (no k (x1 ▸ y1)).elim
      · rw [x2, y2]
/-- what a slot gets from a result -/
def put (i : Nat) (x : Res) (r : Env) : Out Fl := match x with
  | .fz d => .ok .nx (r.set i (.fz d))
  | .ow d => .ok .nx (r.set i (.ow d))
  | .bw j => match settle r (.bw j) with
    | some (d, r2) => .ok .nx (r2.set i (.fz d))
    | none => .bad
def sSet (i : Nat) (fe : Env → Out Res) (r : Env) : Out Fl := thenS (fe r) fun x r1 => put i x r1
theorem put_ok {i : Nat} {x : Res} {v : V} (t : Tr C σ P H r P1 H1 r1) (hv : ResOk C P1 H1 σ r1 v x) (h : SCont C W P (put i x r1) E) : E.nx (σ.set i (some v)) H1 := by
  unfold put at h
  cases x with
  | fz d => exact h P1 H1 _ (t.sit.setF hv) t.sub
  | ow d =>
    obtain ⟨a, rfl, n, n0, q, no⟩ := hv
    exact h P1 H1 _ (t.sit.setO n n0 q no) t.sub
  | bw j =>
    cases e : settle r1 (.bw j) with
    | none => simp only [e] at h; exact h.elim
    | some q =>
      obtain ⟨d, r2⟩ := q
      simp only [e] at h
      obtain ⟨P2, t2, s2, rp⟩ := t.settle hv trivial e
      exact h P2 H1 _ (t2.sit.setF rp) t2.sub
theorem qs_set {i : Nat} {x : Str} {e : Expr} {fe : Env → Out Res} {pos pos' : Pos} (hN : X.N.Nodup) (hi : X.N[i]? = some x) (hx : Loc X.env.scope x) (he : QE Γ W X e fe) (hs : swapsWith e (some (.Name x pos')) pos.line X.env = pure false := by rfl)
    (hf : X.fn x = true ∨ X.env.scope.names.lookup x = some .local := by first | exact .inl rfl | exact .inr rfl | assumption) : QS Γ W X (.Assign [.Name x pos'] e pos) (sSet i fe) := by
  obtain ⟨t, p, k⟩ := he.ex
  refine ⟨_, ps_set hN hi hx p hs hf, fun C hC σ H P r D S h => ?_⟩
  exact k C hC σ H P r _ S (SCont.expr h fun y r1 P1 H1 t1 q v hv fv => put_ok t1 hv q)
/-! ### targets of frozen data -/
/-- a target that stores in the slots js -/
structure QG (Γ : Tx) (X : Cx) (tg : Expr) (js : List Nat) (G : D → Env → Option Env) : Prop where
  ex : ∃ g, PG X tg g ∧ ∀ (C : Cfg), C.Of Γ → ∀ (v : V) (σ : St) (H P : Hp) (r r' : Env) (d : D) (Q : St → Hp → Prop), Sit C P H σ r → Rp P v d → G d r = some r' → (∀ σ', Sit C P H σ' r' → (∀ j, j ∉ js → σ'[j]? = σ[j]?) → Q σ' H) → g v σ H Q
  out : ∀ d r r', G d r = some r' → ∀ j, j ∉ js → r'[j]? = r[j]?
  own : ∀ d r r', G d r = some r' → ∀ j, j ∈ js → ∀ s, r'[j]? = some s → ∃ e, s = .fz e
  len : ∀ d r r', G d r = some r' → r'.length = r.length
structure QGs (Γ : Tx) (X : Cx) (tg : List Expr) (n : Nat) (js : List Nat) (G : List D → Env → Option Env) : Prop where
  ex : ∃ g, PGs X tg g ∧ ∀ (C : Cfg), C.Of Γ → ∀ (vs : List V) (σ : St) (H P : Hp) (r r' : Env) (ds : List D) (Q : St → Hp → Prop), Sit C P H σ r → RpAll P vs ds → G ds r = some r' → (∀ σ', Sit C P H σ' r' → (∀ j, j ∉ js → σ'[j]? = σ[j]?) → Q σ' H) → g vs σ H Q
  out : ∀ ds r r', G ds r = some r' → ∀ j, j ∉ js → r'[j]? = r[j]?
  own : ∀ ds r r', G ds r = some r' → ∀ j, j ∈ js → ∀ s, r'[j]? = some s → ∃ e, s = .fz e
  rlen : ∀ ds r r', G ds r = some r' → r'.length = r.length
  len : ∀ ds r r', G ds r = some r' → ds.length = n
def gN (i : Nat) (d : D) (r : Env) : Option Env := some (r.set i (.fz d))
def gsNil (ds : List D) (r : Env) : Option Env := match ds with
  | [] => some r
  | _ => none
def gsCons (g : D → Env → Option Env) (h : List D → Env → Option Env) (ds : List D) (r : Env) : Option Env := match ds with
  | d :: ds => (g d r).bind fun r1 => h ds r1
  | [] => none
def gT (g : List D → Env → Option Env) (d : D) (r : Env) : Option Env := match d with
  | .tuple ds => g ds r
  | _ => none
theorem qg_name {i : Nat} {x : Str} {pos : Pos} (hN : X.N.Nodup) (hi : X.N[i]? = some x) (hx : Loc X.env.scope x) (hf : X.fn x = true ∨ X.env.scope.names.lookup x = some .local := by first | exact .inl rfl | exact .inr rfl | assumption) : QG Γ X (.Name x pos) [i] (gN i) := by
  refine ⟨⟨_, pg_name hN hi hx hf, fun C hC v σ H P r r' d Q S h e k => ?_⟩, fun d r r' e j hj => ?_, fun d r r' e j hj s es => ?_, fun d r r' e => ?_⟩
  · cases e
    refine k _ (S.setF (RepT.of h)) fun j hj => ?_
    rw [List.mem_singleton] at hj
    rw [List.getElem?_set_ne (Ne.symm hj)]
  · cases e
    rw [List.mem_singleton] at hj
    rw [List.getElem?_set_ne (Ne.symm hj)]
  · cases e
    rw [List.mem_singleton] at hj
    subst hj
    rcases Nat.lt_or_ge j r.length with l | l
    · rw [List.getElem?_set_self l] at es; cases es; exact ⟨_, rfl⟩
    · rw [List.getElem?_eq_none (by rw [List.length_set]; exact l)] at es; cases es
  · cases e; exact List.length_set ..
theorem qgs_nil : QGs Γ X [] 0 [] gsNil := by
  refine ⟨⟨_, pgs_nil, fun C hC vs σ H P r r' ds Q S h e k => ?_⟩, fun ds r r' e j _ => ?_, fun ds r r' e j hj => ?_, fun ds r r' e => ?_, fun ds r r' e => ?_⟩
  · cases h with
    | nil => cases e; exact ⟨rfl, k σ S fun _ _ => rfl⟩
    | cons a b => cases e
  · cases ds with
    | nil => cases e; rfl
    | cons a b => cases e
  · cases hj
  · cases ds with
    | nil => cases e; rfl
    | cons a b => cases e
  · cases ds with
    | nil => rfl
    | cons a b => cases e
theorem gsCons_inv {g : D → Env → Option Env} {h : List D → Env → Option Env} {ds : List D} {r r' : Env} (e : gsCons g h ds r = some r') : ∃ d ds' r1, ds = d :: ds' ∧ g d r = some r1 ∧ h ds' r1 = some r' := by
  cases ds with
  | nil => cases e
  | cons d ds =>
    simp only [gsCons, Option.bind_eq_some_iff] at e
    obtain ⟨r1, e1, e2⟩ := e
    exact ⟨d, ds, r1, rfl, e1, e2⟩
theorem qgs_cons {e : Expr} {es : List Expr} {n : Nat} {js js' : List Nat} {g : D → Env → Option Env} {h : List D → Env → Option Env} (q : QG Γ X e js g) (q' : QGs Γ X es n js' h)
    (hs : (assignEach (e :: es) X.env).map (·.2) = assign e X.env :: (assignEach es X.env).map (·.2) := by rfl) : QGs Γ X (e :: es) (n + 1) (js ++ js') (gsCons g h) := by
  obtain ⟨t, p, k⟩ := q.ex
  obtain ⟨t', p', k'⟩ := q'.ex
  refine ⟨⟨_, pgs_cons p p' hs, fun C hC vs σ H P r r' ds Q S hr e kk => ?_⟩, fun ds r r' e j hj => ?_, fun ds r r' e j hj s es => ?_, fun ds r r' e => ?_, fun ds r r' e => ?_⟩
  · obtain ⟨d, ds, r1, rfl, e1, e2⟩ := gsCons_inv e
    cases hr with
    | cons a b =>
      refine ⟨_, _, rfl, k C hC _ σ H P r r1 d _ S a e1 fun σ1 S1 o1 => k' C hC _ σ1 H P r1 r' ds Q S1 b e2 fun σ2 S2 o2 => kk σ2 S2 fun j hj => ?_⟩
      rw [List.mem_append, not_or] at hj
      rw [o2 j hj.2, o1 j hj.1]
  · obtain ⟨d, ds, r1, rfl, e1, e2⟩ := gsCons_inv e
    rw [List.mem_append, not_or] at hj
    rw [q'.out _ _ _ e2 j hj.2, q.out _ _ _ e1 j hj.1]
  · obtain ⟨d, ds, r1, rfl, e1, e2⟩ := gsCons_inv e
    by_cases h2 : j ∈ js'
    · exact q'.own _ _ _ e2 j h2 s es
    · rw [q'.out _ _ _ e2 j h2] at es
      exact q.own _ _ _ e1 j ((List.mem_append.mp hj).resolve_right h2) s es
  · obtain ⟨d, ds, r1, rfl, e1, e2⟩ := gsCons_inv e
    rw [q'.rlen _ _ _ e2, q.len _ _ _ e1]
  · obtain ⟨d, ds, r1, rfl, e1, e2⟩ := gsCons_inv e
    rw [List.length_cons, q'.len _ _ _ e2]
theorem gT_inv {g : List D → Env → Option Env} {d : D} {r r' : Env} (e : gT g d r = some r') : ∃ ds, d = .tuple ds ∧ g ds r = some r' := by
  cases d with
  | tuple ds => exact ⟨ds, rfl, e⟩
  | _ => cases e
theorem qg_tup {es : List Expr} {k n : Nat} {js : List Nat} {pos : Pos} {h : List D → Env → Option Env} (hc : X.calm = true) (q : QGs Γ X es n js h) (hn : (assignEach es X.env).length = n := by rfl) (hst : (assignEach es X.env).findIdx? (·.1) = none := by rfl) : QG Γ X (.Tuple es k pos) js (gT h) := by
  obtain ⟨t, p, kt⟩ := q.ex
  refine ⟨⟨_, pg_tup hc p hn hst, fun C hC v σ H P r r' d Q S hr e kk => ?_⟩, fun d r r' e => ?_, fun d r r' e => ?_, fun d r r' e => ?_⟩
  · obtain ⟨ds, rfl, e'⟩ := gT_inv e
    cases hr with
    | tup a b => exact ⟨_, _, rfl, SqT.of (S.part.tup a), by rw [RpAll.len b, q.len _ _ _ e'], kt C hC _ σ H P r r' ds Q S b e' kk⟩
  · obtain ⟨ds, rfl, e'⟩ := gT_inv e
    exact q.out _ _ _ e'
  · obtain ⟨ds, rfl, e'⟩ := gT_inv e
    exact q.own _ _ _ e'
  · obtain ⟨ds, rfl, e'⟩ := gT_inv e
    exact q.rlen _ _ _ e'
def sAsg (fe : Env → Out Res) (G : D → Env → Option Env) (r : Env) : Out Fl := thenS (fe r) fun x r1 => thenS (stl x r1) fun d r2 => match G d r2 with
  | some r3 => .ok .nx r3
  | none => .bad
theorem qs_asg {tg e : Expr} {js : List Nat} {fe : Env → Out Res} {G : D → Env → Option Env} {pos : Pos} (he : QE Γ W X e fe) (hg : QG Γ X tg js G) (hs : swapsWithSole [tg] e pos.line X.env = pure false := by rfl) (hw : swappedStores [tg] e X.env = pure none := by rfl)
    (h1 : (assignEach [tg] X.env).map (·.2) = [assign tg X.env] := by rfl) : QS Γ W X (.Assign [tg] e pos) (sAsg fe G) := by
  obtain ⟨t, p, k⟩ := he.ex
  obtain ⟨g, pg, kg⟩ := hg.ex
  refine ⟨_, ps_asg p pg hs hw h1, fun C hC σ H P r D S h => ?_⟩
  refine k C hC σ H P r _ S (SCont.expr h fun y r1 P1 H1 t1 q v hv fv => ?_)
  have q' : SCont C W P (thenS (stl y r1) fun d r2 => match G d r2 with
    | some r3 => .ok .nx r3
    | none => .bad) D := q
  unfold stl at q'
  cases e : settle r1 y with
  | none => simp only [e, thenS] at q'; exact q'.elim
  | some z =>
    obtain ⟨d, r2⟩ := z
    simp only [e] at q'
    cases n : isDic d with
    | true => rw [if_pos n] at q'; exact q'.elim
    | false =>
      rw [if_neg (by rw [n]; decide)] at q'
      obtain ⟨P2, t2, s2, rp⟩ := t1.settle hv fv e
      simp only [thenS] at q'
      cases eg : G d r2 with
      | none => rw [eg] at q'; exact q'.elim
      | some r3 =>
        rw [eg] at q'
        exact kg C hC v σ H1 P2 r2 r3 d _ t2.sit (rp_of rp n) eg fun σ3 S3 _ => q' P2 H1 σ3 S3 t2.sub
/-! ### other simple statements -/
def sRet (fe : Env → Out Res) (r : Env) : Out Fl := thenS (fe r) fun x r1 => .ok (.rt x) r1
theorem qs_ret {e : Expr} {fe : Env → Out Res} {pos : Pos} (he : QE Γ W X e fe) : QS Γ W X (.Return (some e) pos) (sRet fe) := by
  obtain ⟨t, p, k⟩ := he.ex
  refine ⟨_, ps_ret p, fun C hC σ H P r D S h => ?_⟩
  exact k C hC σ H P r _ S (SCont.expr h fun y r1 P1 H1 t1 q v hv fv => q P1 H1 σ v t1.sit t1.sub hv)
def sDrop (fe : Env → Out Res) (r : Env) : Out Fl := thenS (fe r) fun _ r1 => .ok .nx r1
theorem qs_expr {e : Expr} {fe : Env → Out Res} {pos : Pos} (he : QE Γ W X e fe) (hs : swapsWith e none pos.line X.env = pure false := by rfl) : QS Γ W X (.Expr e pos) (sDrop fe) := by
  obtain ⟨t, p, k⟩ := he.ex
  refine ⟨_, ps_expr p hs, fun C hC σ H P r D S h => ?_⟩
  exact k C hC σ H P r _ S (SCont.expr h fun y r1 P1 H1 t1 q v hv fv => q P1 H1 σ t1.sit t1.sub)
theorem qs_pass {pos : Pos} : QS Γ W X (.Pass pos) dNil := ⟨_, ps_pass, fun C hC σ H P r D S h => h P H σ S (Sub.refl P)⟩
def sBrk (r : Env) : Out Fl := .ok .bk r
def sCnt (r : Env) : Out Fl := .ok .ct r
theorem qs_break {pos : Pos} : QS Γ W X (.Break pos) sBrk := ⟨_, ps_break, fun C hC σ H P r D S h => h P H σ S (Sub.refl P)⟩
theorem qs_continue {pos : Pos} : QS Γ W X (.Continue pos) sCnt := ⟨_, ps_continue, fun C hC σ H P r D S h => h P H σ S (Sub.refl P)⟩
def sIf (c : Env → Out Bool) (f g : Env → Out Fl) (r : Env) : Out Fl := thenS (c r) fun b r1 => if b = true then f r1 else g r1
theorem qs_if {c : Expr} {a b : List Stmt} {gc : Env → Out Bool} {pos : Pos} (hc : QT Γ W X c gc) (ha : QSs Γ W X a f) (hb : QSs Γ W X b g) : QS Γ W X (.If c a b pos) (sIf gc f g) := by
  obtain ⟨t, p, k⟩ := hc.ex
  obtain ⟨ta, pa, ka⟩ := ha.ex
  obtain ⟨tb, pb, kb⟩ := hb.ex
  refine ⟨_, ps_if p pa pb, fun C hC σ H P r D S h => ?_⟩
  refine k C hC σ H P r _ S (SCont.expr h fun b r1 P1 H1 t1 q => ?_)
  cases b with
  | true => exact ka C hC σ H1 P1 r1 D t1.sit (SCont.from q t1.sub)
  | false => exact kb C hC σ H1 P1 r1 D t1.sit (SCont.from q t1.sub)
/-- x op= e, ints -/
def sAug (i : Nat) (g : Int → Int → Int) (fe : Env → Out Res) (r : Env) : Out Fl := match r[i]? with
  | some (.fz (.int n)) => thenS (fe r) fun x r1 => match cont r1 x with
    | some (.int m) => .ok .nx (r1.set i (.fz (.int (g n m))))
    | _ => .bad
  | _ => .bad
theorem qs_aug {i : Nat} {x : Str} {e : Expr} {fe : Env → Out Res} {op : Operator} {g : Int → Int → Int} {pos pos' : Pos} (ho : PIp X op (ipI g)) (hN : X.N.Nodup) (hi : X.N[i]? = some x) (hx : Loc X.env.scope x) (he : QE Γ W X e fe)
    (hf : X.fn x = true ∨ X.env.scope.names.lookup x = some .local := by first | exact .inl rfl | exact .inr rfl | assumption) : QS Γ W X (.AugAssign (.Name x pos') op e pos) (sAug i g fe) := by
  obtain ⟨t, p, k⟩ := he.ex
  refine ⟨_, ps_aug hN hi hx p ho hf, fun C hC σ H P r D S h => ?_⟩
  unfold sAug at h
  split at h
  · rename_i n e
    obtain ⟨v, ev, rv⟩ := S.slot i _ e
    have hv := rt_int rv
    subst hv
    refine ⟨.int n, ev, k C hC σ H P r _ S (SCont.expr h fun y r1 P1 H1 t1 q w hw fw => ?_)⟩
    cases ec : cont r1 y with
    | none => rw [ec] at q; exact q.elim
    | some d =>
      rw [ec] at q
      cases d with
      | int m => exact ⟨n, m, rfl, ct_int (hw.ct t1.sit ec), q P1 H1 _ (t1.sit.setF (Rp.int _)) t1.sub⟩
      | _ => exact q.elim
  · exact h.elim
/-! ### while: n turns at most -/
def whileD (c : Env → Out Bool) (b : Env → Out Fl) : Nat → Env → Out Fl
  | 0, _ => .bad
  | n + 1, r => thenS (c r) fun k r1 => if k = true then (match b r1 with
      | .ok .nx r2 => whileD c b n r2
      | .ok .ct r2 => whileD c b n r2
      | .ok .bk r2 => .ok .nx r2
      | .ok (.rt x) r2 => .ok (.rt x) r2
      | .exn e r2 => .exn e r2
      | .bad => .bad) else .ok .nx r1
theorem qs_while (n : Nat) {c : Expr} {body : List Stmt} {gc : Env → Out Bool} {pos : Pos} (hp : PassesOwn (model X.prog X.w) X.A X.env X.xe) (hc : QT Γ W X c gc) (hb : QSs Γ W X body f) : QS Γ W X (.While c body [] pos) (whileD gc f n) := by
  obtain ⟨t, p, k⟩ := hc.ex
  obtain ⟨tb, pb, kb⟩ := hb.ex
  refine ⟨_, ps_while hp p pb, fun C hC σ H P r D S h => ?_⟩
  refine ⟨fun m σ H => ∃ P' r', Sit C P' H σ r' ∧ SCont C W P' (whileD gc f m r') D, ⟨n, P, r, S, h⟩, ?_⟩
  rintro m σ1 H1 ⟨P1, r1, S1, h1⟩
  cases m with
  | zero => exact h1.elim
  | succ m =>
    refine k C hC σ1 H1 P1 r1 _ S1 (SCont.expr (show SCont C W P1 (thenS (gc r1) _) D from h1) fun b r2 P2 H2 t2 q => ?_)
    cases b with
    | false => exact q P2 H2 σ1 t2.sit t2.sub
    | true =>
      refine ⟨fun σ H => ∃ P' r', Sit C P' H σ r' ∧ SCont C W P' (whileD gc f m r') D, fun σ' H' z => ⟨m, Nat.lt_succ_self m, z⟩, ?_⟩
      refine kb C hC σ1 H2 P2 r2 _ t2.sit ?_
      have q2 := SCont.from (show SCont C W P1 (match f r2 with
        | .ok .nx r2 => whileD gc f m r2
        | .ok .ct r2 => whileD gc f m r2
        | .ok .bk r2 => .ok .nx r2
        | .ok (.rt x) r2 => .ok (.rt x) r2
        | .exn e r2 => .exn e r2
        | .bad => .bad) D from q) t2.sub
      cases o : f r2 with
      | ok fl r3 =>
        rw [o] at q2
        cases fl with
        | nx => exact fun P' H' σ' S' s' => ⟨P', r3, S', SCont.from q2 s'⟩
        | ct => exact fun P' H' σ' S' s' => ⟨P', r3, S', SCont.from q2 s'⟩
        | bk => exact q2
        | rt x => exact q2
      | exn e r3 => rw [o] at q2; exact q2
      | bad => rw [o] at q2; exact q2.elim
/-! ### for -/
/-- an iterator J gives the items ds -/
structure ItOk (C : Cfg) (P0 : Hp) (J : It) (ds : List D) : Prop where
  go : ∀ (i : Nat) (H P : Hp) (σ : St) (r : Env), Sit C P H σ r → Sub P0 P → i < ds.length → J.go i H
  yld : ∀ (i : Nat) (H P : Hp) (σ : St) (r : Env) (d : D) (x : V) (H' : Hp), Sit C P H σ r → Sub P0 P → ds[i]? = some d → J.yld i H x H' → ∃ P', Tr C σ P H r P' H' r ∧ Rp P' x d
  stop : ∀ (i : Nat) (H P : Hp) (σ : St) (r : Env), Sit C P H σ r → Sub P0 P → ds.length ≤ i → J.stop i H
structure QI (Γ : Tx) (W : WX) (X : Cx) (tg it : Expr) (f : Env → Out (List D)) : Prop where
  ex : ∃ wi, PI X tg it wi ∧ ∀ (C : Cfg), C.Of Γ → ∀ (σ : St) (H P : Hp) (r : Env) (R : It → Hp → Prop), Sit C P H σ r → Cont C W σ P H r (f r) (fun ds r' P' H' => ∀ J, ItOk C P' J ds → R J H') → wi σ H R
def loopD (G : D → Env → Option Env) (b : Env → Out Fl) : List D → Env → Out Fl
  | [], r => .ok .nx r
  | d :: ds, r => match G d r with
    | none => .bad
    | some r1 => match b r1 with
      | .ok .nx r2 => loopD G b ds r2
      | .ok .ct r2 => loopD G b ds r2
      | .ok .bk r2 => .ok .nx r2
      | .ok (.rt x) r2 => .ok (.rt x) r2
      | .exn e r2 => .exn e r2
      | .bad => .bad
def sFor (fi : Env → Out (List D)) (G : D → Env → Option Env) (b : Env → Out Fl) (r : Env) : Out Fl := thenS (fi r) fun ds r1 => loopD G b ds r1
theorem qs_for {tg it : Expr} {js : List Nat} {body : List Stmt} {fi : Env → Out (List D)} {G : D → Env → Option Env} {pos : Pos} (hp : PassesOwn (model X.prog X.w) X.A X.env X.xe) (hc : X.calm = true) (hi : QI Γ W X tg it fi) (hg : QG Γ X tg js G) (hb : QSs Γ W X body f)
    (hs : ∀ x, foldedSetIterable it X.env x = pure x := by intro _; rfl) : QS Γ W X (.For tg it body [] pos) (sFor fi G f) := by
  obtain ⟨wi, p, k⟩ := hi.ex
  obtain ⟨g, pg, kg⟩ := hg.ex
  obtain ⟨tb, pb, kb⟩ := hb.ex
  refine ⟨_, ps_for hp hc p pg pb hs, fun C hC σ H P r D S h => ?_⟩
  refine k C hC σ H P r _ S (SCont.expr h fun ds r1 P1 H1 t1 q J hJ => ?_)
  have q1 := SCont.from q t1.sub
  refine ⟨fun i m σ H => ∃ P' r', Sit C P' H σ r' ∧ Sub P1 P' ∧ SCont C W P' (loopD G f (ds.drop i) r') D ∧ m = ds.length - i, ⟨_, P1, r1, t1.sit, Sub.refl _, q1, rfl⟩, ?_⟩
  rintro i m σ2 H2 ⟨P2, r2, S2, s2, h2, hm⟩
  rcases Nat.lt_or_ge i ds.length with hlt | hge
  · refine .inr ⟨hJ.go i H2 P2 σ2 r2 S2 s2 hlt, fun σ H => ∃ P' r', Sit C P' H σ r' ∧ Sub P1 P' ∧ SCont C W P' (loopD G f (ds.drop (i + 1)) r') D, fun σ' H' z => ⟨ds.length - (i + 1), by omega, let ⟨P', r', a, b, c⟩ := z; ⟨P', r', a, b, c, rfl⟩⟩, fun x H' hy => ?_⟩
    have ed : ds[i]? = some ds[i] := List.getElem?_eq_getElem hlt
    obtain ⟨P3, t3, rp⟩ := hJ.yld i H2 P2 σ2 r2 ds[i] x H' S2 s2 ed hy
    rw [List.drop_eq_getElem_cons hlt] at h2
    have h3 : SCont C W P2 (match G ds[i] r2 with
      | none => .bad
      | some r1 => match f r1 with
        | .ok .nx r2 => loopD G f (ds.drop (i + 1)) r2
        | .ok .ct r2 => loopD G f (ds.drop (i + 1)) r2
        | .ok .bk r2 => .ok .nx r2
        | .ok (.rt x) r2 => .ok (.rt x) r2
        | .exn e r2 => .exn e r2
        | .bad => .bad) D := h2
    cases eg : G ds[i] r2 with
    | none => rw [eg] at h3; exact h3.elim
    | some r3 =>
      rw [eg] at h3
      refine kg C hC x σ2 H' P3 r2 r3 ds[i] _ t3.sit rp eg fun σ4 S4 _ => ?_
      refine kb C hC σ4 H' P3 r3 _ S4 ?_
      have h4 := SCont.from h3 t3.sub
      have s3 := s2.trans t3.sub
      cases o : f r3 with
      | ok fl r4 =>
        simp only [o] at h4
        cases fl with
        | nx => exact fun P' H' σ' S' s' => ⟨P', r4, S', s3.trans s', SCont.from h4 s'⟩
        | ct => exact fun P' H' σ' S' s' => ⟨P', r4, S', s3.trans s', SCont.from h4 s'⟩
        | bk => exact h4
        | rt x => exact h4
      | exn e r4 => simp only [o] at h4; exact h4
      | bad => simp only [o] at h4; exact h4.elim
  · refine .inl ⟨hJ.stop i H2 P2 σ2 r2 S2 s2 hge, ?_⟩
    rw [List.drop_of_length_le hge] at h2
    exact h2 P2 H2 σ2 S2 (Sub.refl _)
end
end Dn

end
section
/-! Dn6: what a def promises, and its call. -/
namespace Dn
open PySem L2
inductive FOut where
  | ok (x : Res) (outs : List D) | exn (e : Ex) (outs : List D) | bad
/-- the slots at a def's entry -/
def startAux (muts : List Nat) : Nat → List D → Env
  | _, [] => []
  | k, d :: ds => (if k ∈ muts then Slot.io d else Slot.fz d) :: startAux muts (k + 1) ds
def startEnv (n : Nat) (muts : List Nat) (ds : List D) : Env := startAux muts 0 ds ++ List.replicate (n - ds.length) Slot.un
def ioAt (r : Env) (i : Nat) : Option D := match r[i]? with
  | some (.io d) => some d
  | _ => none
def outsOf : List Nat → Env → Option (List D)
  | [], _ => some []
  | i :: is, r => match ioAt r i, outsOf is r with
    | some d, some ds => some (d :: ds)
    | _, _ => none
/-- what is handed back -/
def retv (x : Res) (r : Env) : Option (Res × Env) := match x with
  | .fz d => some (.fz d, r)
  | .ow d => some (.ow d, r)
  | .bw i => match r[i]? with
    | some (.fz d) => some (.fz d, r)
    | some (.ow d) => some (.ow d, r.set i .un)
    | _ => none
def finish (muts : List Nat) (o : Out Fl) : FOut := match o with
  | .ok .nx r => match outsOf muts r with
    | some outs => .ok (.fz .none) outs
    | none => .bad
  | .ok (.rt x) r => match retv x r with
    | some (y, r2) => match outsOf muts r2 with
      | some outs => .ok y outs
      | none => .bad
    | none => .bad
  | .exn e r => match outsOf muts r with
    | some outs => .exn e outs
    | none => .bad
  | _ => .bad
def defDen (n : Nat) (muts : List Nat) (body : Env → Out Fl) (ds : List D) : FOut := finish muts (body (startEnv n muts ds))
def cfg0 (t : Tx) (M : List Addr) (H P : Hp) (vs : List V) : Cfg where
  T := t.T
  TG := t.TG
  M := M
  H0 := H
  P0 := P
  cls := t.cls
  hid := fun k => vs.getD k .non
def start0 (n : Nat) (vs : List V) : St := vs.map some ++ List.replicate (n - vs.length) none
/-- the promise of a def: np parameters, n slots, those at muts are changed -/
def spD (t : Tx) (n np : Nat) (muts : List Nat) (F : List D → FOut) : Sp := fun vs H Q E => ∃ (P : Hp) (ds : List D) (M : List Addr),
  vs.length = np ∧ Sit (cfg0 t M H P vs) P H (start0 n vs) (startEnv n muts ds) ∧
  match F ds with
  | .ok x outs => ∀ v H' P' σ' r', Sit (cfg0 t M H P vs) P' H' σ' r' → Sub P P' → ResOk (cfg0 t M H P vs) P' H' σ' r' v x → outsOf muts r' = some outs → Q v H'
  | .exn e outs => ∀ H' P' σ' r', Sit (cfg0 t M H P vs) P' H' σ' r' → Sub P P' → outsOf muts r' = some outs → ∀ dd, E (t.cls e) dd H'
  | .bad => False
section
variable {P : Program} {w : World} {K : PySem.W.Frag} {mg : Str → Option Value} {base : Heap}
/-- nothing is said any more of a slot -/
theorem Sit.drop {C : Cfg} {P H : Hp} {σ : St} {r : Env} {i : Nat} (S : Sit C P H σ r) : Sit C P H σ (r.set i .un) := by
  have ow : ∀ j b, Owns σ (r.set i .un) j b → Owns σ r j b := fun j b ⟨h1, d2, h2⟩ => by
    by_cases e : i = j
    · subst e
      rcases Nat.lt_or_ge i r.length with l | l
      · rw [List.getElem?_set_self l] at h2; rcases h2 with h2 | h2 <;> cases h2
      · rw [List.getElem?_eq_none (by rw [List.length_set]; exact l)] at h2; rcases h2 with h2 | h2 <;> cases h2
    · rw [List.getElem?_set_ne e] at h2
      exact ⟨h1, d2, h2⟩
  refine ⟨S.tabs, S.part, S.keep, S.old, fun j s es => ?_, by rw [List.length_set]; exact S.len, fun j k b x y => S.own j k b (ow j b x) (ow k b y), S.newP⟩
  by_cases e : i = j
  · subst e
    rcases Nat.lt_or_ge i r.length with l | l
    · rw [List.getElem?_set_self l] at es
      cases es
      trivial
    · rw [List.getElem?_eq_none (by rw [List.length_set]; exact l)] at es; cases es
  · rw [List.getElem?_set_ne e] at es
    exact S.slot j s es
theorem retv_ok {C : Cfg} {P H : Hp} {σ : St} {r r2 : Env} {v : V} {x y : Res} (S : Sit C P H σ r) (h : ResOk C P H σ r v x) (e : retv x r = some (y, r2)) : Sit C P H σ r2 ∧ ResOk C P H σ r2 v y := by
  cases x with
  | fz d => cases e; exact ⟨S, h⟩
  | ow d => cases e; exact ⟨S, h⟩
  | bw i =>
    have h : σ[i]? = some (some v) := h
    dsimp only [retv] at e
    cases q : r[i]? with
    | none => rw [q] at e; cases e
    | some s =>
      rw [q] at e
      have k := S.slot i s q
      have hi : i < r.length := (List.getElem?_eq_some_iff.mp q).1
      cases s with
      | un => cases e
      | hid => cases e
      | io d => cases e
      | fz d =>
        cases e
        obtain ⟨v', e', k⟩ := k
        rw [h] at e'; cases e'
        exact ⟨S, k⟩
      | ow d =>
        cases e
        obtain ⟨a, e', n, n0, k⟩ := k
        rw [h] at e'; cases e'
        refine ⟨S.drop, a, rfl, n, n0, k, fun j ⟨z1, d2, z2⟩ => ?_⟩
        have hj : j ≠ i := fun ej => by
          subst ej
          rw [List.getElem?_set_self hi] at z2
          rcases z2 with z2 | z2 <;> cases z2
        rw [List.getElem?_set_ne (Ne.symm hj)] at z2
        exact hj (S.own j i a ⟨z1, d2, z2⟩ ⟨h, d, .inl q⟩)
abbrev cxD (P : Program) (w : World) (K : PySem.W.Frag) (mg : Str → Option Value) (base : Heap) (N : List Str) (qual : Str) (scope : Scope) (f : Addr) (cd : Value) (A : Around) (outer : List PySem.Env) (s : Shared) (H : Hp) (E : XK) : Cx := cxOf (L2.CX P w) P w K mg base N qual scope f cd A outer s H E
theorem def_ok (t : Tx) {x qual : Str} {st : Stmt} {f : Addr} {fd : FuncData} {N ps : List Str} {k n np : Nat} (muts : List Nat) (body : Env → Out Fl) (F : Fun K x qual st f fd) (S : FnScope N ps (defScope st)) (hn : N.length = n) (hnp : ps.length = np)
    (hb : ∀ (cdv : Value) (A : Around) (outer : List PySem.Env) (s : Shared) (H : Hp) (E : XK), Room k (cxD P w K mg base N qual (defScope st) f cdv A outer s H E).A →
      PassesOwn (model P w) (cxD P w K mg base N qual (defScope st) f cdv A outer s H E).A (cxD P w K mg base N qual (defScope st) f cdv A outer s H E).env (cxD P w K mg base N qual (defScope st) f cdv A outer s H E).xe →
      Takes (cxD P w K mg base N qual (defScope st) f cdv A outer s H E) (fun cls d _ H => E cls d H) →
      QSs t (fun cls d _ H => E cls d H) (cxD P w K mg base N qual (defScope st) f cdv A outer s H E) (defBody st) body) :
    FnOk P w K mg base (L2.CX P w) (k + 1) f fd ps (spD t n np muts (defDen n muts body)) := by
  subst hn
  subst hnp
  refine F.okX S (fun vs H Q E h => ?_) (fun cdv A outer s H vs Q E hr h => ?_)
  · obtain ⟨P, ds, M, hl, _⟩ := h
    exact hl
  · obtain ⟨P0, ds, M, hl, S0, h⟩ := h
    obtain ⟨tt, p, kk⟩ := (hb cdv A outer s H E hr (passes_of rfl) (takes_of rfl rfl rfl rfl)).ex
    refine ⟨tt, p, kk (cfg0 t M H P0 vs) ⟨rfl, rfl, rfl⟩ _ H P0 (startEnv N.length muts ds) _ S0 ?_⟩
    unfold defDen finish at h
    cases o : body (startEnv N.length muts ds) with
    | bad => rw [o] at h; exact h.elim
    | exn e r =>
      rw [o] at h
      intro P' H' σ' S' s' dd
      cases q : outsOf muts r with
      | none => simp only [q] at h
      | some outs => simp only [q] at h; exact h H' P' σ' r S' s' q dd
    | ok fl r =>
      rw [o] at h
      cases fl with
      | bk => exact h.elim
      | ct => exact h.elim
      | nx =>
        intro P' H' σ' S' s'
        cases q : outsOf muts r with
        | none => simp only [q] at h
        | some outs => simp only [q] at h; exact h .non H' P' σ' r S' s' (show RepT P' .non .none from Rp.non) q
      | rt x =>
        intro P' H' σ' v S' s' hv
        cases e : retv x r with
        | none => simp only [e] at h
        | some z =>
          obtain ⟨y, r2⟩ := z
          simp only [e] at h
          obtain ⟨S2, h2⟩ := retv_ok S' hv e
          cases q : outsOf muts r2 with
          | none => simp only [q] at h
          | some outs => simp only [q] at h; exact h v H' P' σ' r2 S2 s' h2 q
end
end Dn

end
section
/-! Dn7: the call of a def. -/
namespace Dn
open PySem L2
inductive Arg where
  | val (d : D) | ref (i : Nat)
/-- what stands for an argument -/
def AOk1 (P : Hp) (σ : St) (v : V) : Arg → Prop
  | .val d => RepT P v d
  | .ref i => σ[i]? = some (some v)
inductive AOk (P : Hp) (σ : St) : List V → List Arg → Prop where
  | nil : AOk P σ [] []
  | cons {v : V} {vs : List V} {x : Arg} {xs : List Arg} : AOk1 P σ v x → AOk P σ vs xs → AOk P σ (v :: vs) (x :: xs)
theorem AOk1.mono {P P' : Hp} {σ : St} {v : V} {x : Arg} (s : Sub P P') (h : AOk1 P σ v x) : AOk1 P' σ v x := by
  cases x with
  | val d => exact RepT.sub s h
  | ref i => exact h
structure QAr (Γ : Tx) (W : WX) (X : Cx) (es : List Expr) (f : Env → Out (List Arg)) : Prop where
  ex : ∃ t, PA X es t ∧ ∀ (C : Cfg), C.Of Γ → ∀ (σ : St) (H P : Hp) (r : Env) (Q : List V → Hp → Prop), Sit C P H σ r → Cont C W σ P H r (f r) (fun xs r' P' H' => ∀ vs, AOk P' σ vs xs → Q vs H') → t σ H Q
  len : ∀ (r : Env) (xs : List Arg) (r' : Env), f r = .ok xs r' → xs.length = es.length
theorem AOk.mono {P P' : Hp} {σ : St} {vs : List V} {xs : List Arg} (s : Sub P P') (h : AOk P σ vs xs) : AOk P' σ vs xs := by
  induction h with
  | nil => exact .nil
  | cons a _ ih => exact .cons (AOk1.mono s a) ih
def aNil (r : Env) : Out (List Arg) := .ok [] r
def aVal (f : Env → Out Res) (g : Env → Out (List Arg)) (r : Env) : Out (List Arg) := (f r).bind fun x r1 => match settle r1 x with
  | some (d, r2) => (g r2).bind fun xs r3 => .ok (.val d :: xs) r3
  | none => .bad
def aRef (i : Nat) (g : Env → Out (List Arg)) (r : Env) : Out (List Arg) := match slotC r i with
  | some _ => (g r).bind fun xs r2 => .ok (.ref i :: xs) r2
  | none => .bad
theorem slotC_val {C : Cfg} {P H : Hp} {σ : St} {r : Env} {i : Nat} {d : D} (S : Sit C P H σ r) (e : slotC r i = some d) : ∃ v, σ[i]? = some (some v) := by
  unfold slotC at e
  cases q : r[i]? with
  | none => rw [q] at e; cases e
  | some s =>
    rw [q] at e
    have k := S.slot i s q
    cases s with
    | un => cases e
    | hid => cases e
    | fz d => obtain ⟨v, z, _⟩ := k; exact ⟨v, z⟩
    | ow d => obtain ⟨a, z, _⟩ := k; exact ⟨.ref a, z⟩
    | io d => obtain ⟨a, z, _⟩ := k; exact ⟨.ref a, z⟩
section
variable {Γ : Tx} {C : Cfg} {W : WX} {X : Cx} {a : Expr} {es : List Expr} {fa : Env → Out Res} {g : Env → Out (List Arg)}
theorem qa_nil : QAr Γ W X [] aNil := ⟨⟨_, pa_nil, fun C hC σ H P r Q S h => h P H (Tr.refl S) [] .nil⟩, fun r xs r' e => by cases e; rfl⟩
theorem bind_ok {α β : Type} {o : Out α} {f : α → Env → Out β} {b : β} {r : Env} (h : o.bind f = .ok b r) : ∃ a r1, o = .ok a r1 ∧ f a r1 = .ok b r := by
  cases o with
  | ok a r1 => exact ⟨a, r1, rfl, h⟩
  | exn e r1 => cases h
  | bad => cases h
theorem qa_val (h : QE Γ W X a fa) (h' : QAr Γ W X es g) (hs : starEach (a :: es) X.env = (false, eval a X.env) :: starEach es X.env := by rfl) : QAr Γ W X (a :: es) (aVal fa g) := by
  obtain ⟨t, p, k⟩ := h.ex
  obtain ⟨t', p', k'⟩ := h'.ex
  refine ⟨⟨_, pa_cons p p' hs, fun C hC σ H P r Q S q => ?_⟩, fun r xs r' e => ?_⟩
  rotate_left
  · obtain ⟨x, r1, _, e1⟩ := bind_ok e
    cases e2 : settle r1 x with
    | none => simp only [e2] at e1; cases e1
    | some z =>
      obtain ⟨d, r2⟩ := z
      simp only [e2] at e1
      obtain ⟨ys, r3, e3, e4⟩ := bind_ok e1
      cases e4
      rw [List.length_cons, List.length_cons, h'.len _ _ _ e3]
  refine k C hC σ H P r _ S (Cont.expr q fun x r1 P1 H1 v t1 hv fv q1 => ?_)
  cases e : settle r1 x with
  | none => simp only [e] at q1; exact q1.elim
  | some z =>
    obtain ⟨d, r2⟩ := z
    simp only [e] at q1
    obtain ⟨P2, t2, s2, rp⟩ := t1.settle hv fv e
    exact k' C hC σ H1 P2 r2 _ t2.sit ((Cont.from q1 t2).bind fun xs r3 P3 H3 t3 q3 vs hvs => q3 P3 H3 (Tr.refl t3.sit) (v :: vs) (.cons (show AOk1 P3 σ v (.val d) from RepT.sub t3.sub rp) hvs))
theorem qa_ref (i : Nat) {x : Str} {pos : Pos} (h' : QAr Γ W X es g) (hN : X.N[i]? = some x := by rfl) (hv : Vis X.env.scope x := by first | exact Or.inl rfl | exact Or.inr (Or.inl rfl) | exact Or.inr (Or.inr rfl)) (hd : (x == ("__debug__" : Str)) = false := by decide)
    (hcd : (x == ("__classdict__" : Str)) = false := by decide) (hs : starEach (.Name x pos :: es) X.env = (false, eval (.Name x pos) X.env) :: starEach es X.env := by rfl) : QAr Γ W X (.Name x pos :: es) (aRef i g) := by
  obtain ⟨t', p', k'⟩ := h'.ex
  refine ⟨⟨_, pa_cons (pe_var hN hv hd hcd) p' hs, fun C hC σ H P r Q S q => ?_⟩, fun r xs r' e => ?_⟩
  rotate_left
  · unfold aRef at e
    cases e2 : slotC r i with
    | none => rw [e2] at e; cases e
    | some d =>
      rw [e2] at e
      obtain ⟨ys, r3, e3, e4⟩ := bind_ok e
      cases e4
      rw [List.length_cons, List.length_cons, h'.len _ _ _ e3]
  unfold aRef at q
  cases e : slotC r i with
  | none => rw [e] at q; exact q.elim
  | some d =>
    rw [e] at q
    obtain ⟨v, ev⟩ := slotC_val S e
    exact ⟨v, ev, k' C hC σ H P r _ S (q.bind fun xs r3 P3 H3 t3 q3 vs hvs => q3 P3 H3 (Tr.refl t3.sit) (v :: vs) (.cons (show AOk1 P3 σ v (.ref i) from ev) hvs))⟩
/-! ### the data of the arguments -/
/-- what may be changed in slot i -/
def mutC (r : Env) (i : Nat) : Option D := match r[i]? with
  | some (.ow d) => some d
  | some (.io d) => some d
  | _ => none
def dataAux (muts : List Nat) (r : Env) : Nat → List Arg → Option (List D)
  | _, [] => some []
  | k, .val d :: xs => if k ∈ muts then none else (dataAux muts r (k + 1) xs).map fun ds => d :: ds
  | k, .ref i :: xs => if k ∈ muts then (match mutC r i with
      | some d => (dataAux muts r (k + 1) xs).map fun ds => d :: ds
      | none => none) else none
def isRef (i : Nat) : Arg → Bool
  | .ref j => i == j
  | .val _ => false
def refsApart : List Arg → Bool
  | [] => true
  | .val _ :: xs => refsApart xs
  | .ref i :: xs => !xs.any (isRef i) && refsApart xs
theorem refsApart_eq : ∀ {xs : List Arg} {k k' i : Nat}, refsApart xs = true → xs[k]? = some (.ref i) → xs[k']? = some (.ref i) → k = k'
  | [], k, k', i, _, h, _ => by simp at h
  | .val d :: xs, 0, k', i, _, h, _ => by simp at h
  | .val d :: xs, k + 1, 0, i, _, _, h => by simp at h
  | .val d :: xs, k + 1, k' + 1, i, a, h, h' => by
    have a' : refsApart xs = true := a
    have hk : k = k' := refsApart_eq (i := i) a' (by simpa using h) (by simpa using h')
    rw [hk]
  | .ref j :: xs, k, k', i, a, h, h' => by
    have a' : (!xs.any (isRef j)) = true ∧ refsApart xs = true := by simpa [refsApart] using a
    have no : ∀ m : Nat, xs[m]? ≠ some (Arg.ref j) := fun m e => by
      have hm : Arg.ref j ∈ xs := List.mem_of_getElem? e
      have : xs.any (isRef j) = true := List.any_eq_true.mpr ⟨_, hm, by simp [isRef]⟩
      rw [this] at a'
      exact absurd a'.1 (by decide)
    cases k with
    | zero =>
      cases k' with
      | zero => rfl
      | succ m =>
        simp at h h'
        subst h
        exact (no m h').elim
    | succ m =>
      cases k' with
      | zero =>
        simp at h h'
        subst h'
        exact (no m h).elim
      | succ m' =>
        have hk : m = m' := refsApart_eq (i := i) a'.2 (by simpa using h) (by simpa using h')
        rw [hk]
theorem dataAux_len {muts : List Nat} {r : Env} : ∀ {xs : List Arg} {k : Nat} {ds : List D}, dataAux muts r k xs = some ds → ds.length = xs.length
  | [], k, ds, h => by cases h; rfl
  | .val d :: xs, k, ds, h => by
    unfold dataAux at h
    split at h
    · cases h
    · obtain ⟨ds', e, rfl⟩ := Option.map_eq_some_iff.mp h
      rw [List.length_cons, List.length_cons, dataAux_len e]
  | .ref i :: xs, k, ds, h => by
    unfold dataAux at h
    split at h
    · split at h
      · obtain ⟨ds', e, rfl⟩ := Option.map_eq_some_iff.mp h
        rw [List.length_cons, List.length_cons, dataAux_len e]
      · cases h
    · cases h
theorem dataAux_get {muts : List Nat} {r : Env} : ∀ {xs : List Arg} {k : Nat} {ds : List D} {j : Nat} {x : Arg}, dataAux muts r k xs = some ds → xs[j]? = some x →
    ∃ d, ds[j]? = some d ∧ match x with
      | .val d' => k + j ∉ muts ∧ d = d'
      | .ref i => k + j ∈ muts ∧ mutC r i = some d
  | [], k, ds, j, x, h, e => by simp at e
  | .val d :: xs, k, ds, j, x, h, e => by
    unfold dataAux at h
    split at h
    · cases h
    · rename_i hk
      obtain ⟨ds', e', rfl⟩ := Option.map_eq_some_iff.mp h
      cases j with
      | zero => simp at e; subst e; exact ⟨d, rfl, hk, rfl⟩
      | succ j =>
        obtain ⟨d2, h2, h3⟩ := dataAux_get (j := j) e' (by simpa using e)
        refine ⟨d2, by simpa using h2, ?_⟩
        rw [show k + (j + 1) = k + 1 + j by omega]
        exact h3
  | .ref i :: xs, k, ds, j, x, h, e => by
    unfold dataAux at h
    split at h
    · rename_i hk
      split at h
      · rename_i d hd
        obtain ⟨ds', e', rfl⟩ := Option.map_eq_some_iff.mp h
        cases j with
        | zero => simp at e; subst e; exact ⟨d, rfl, hk, hd⟩
        | succ j =>
          obtain ⟨d2, h2, h3⟩ := dataAux_get (j := j) e' (by simpa using e)
          refine ⟨d2, by simpa using h2, ?_⟩
          rw [show k + (j + 1) = k + 1 + j by omega]
          exact h3
      · cases h
    · cases h
theorem startAux_get {muts : List Nat} : ∀ {ds : List D} {k j : Nat}, (startAux muts k ds)[j]? = ds[j]?.map fun d => if k + j ∈ muts then Slot.io d else Slot.fz d
  | [], k, j => by simp [startAux]
  | d :: ds, k, 0 => by simp [startAux]
  | d :: ds, k, j + 1 => by
    show (startAux muts (k + 1) ds)[j]? = _
    rw [startAux_get (ds := ds), show k + 1 + j = k + (j + 1) by omega]
    simp
theorem startAux_len {muts : List Nat} : ∀ {ds : List D} {k : Nat}, (startAux muts k ds).length = ds.length
  | [], k => rfl
  | d :: ds, k => by rw [startAux, List.length_cons, List.length_cons, startAux_len]
theorem startEnv_get {n : Nat} {muts : List Nat} {ds : List D} {j : Nat} {s : Slot} (h : (startEnv n muts ds)[j]? = some s) : (∃ d, ds[j]? = some d ∧ s = if j ∈ muts then Slot.io d else Slot.fz d) ∨ s = .un := by
  unfold startEnv at h
  rcases Nat.lt_or_ge j ds.length with l | l
  · rw [List.getElem?_append_left (by rw [startAux_len]; exact l), startAux_get, Nat.zero_add] at h
    obtain ⟨d, e, rfl⟩ := Option.map_eq_some_iff.mp h
    exact .inl ⟨d, e, rfl⟩
  · rw [List.getElem?_append_right (by rw [startAux_len]; exact l)] at h
    exact .inr (List.mem_replicate.mp (List.mem_of_getElem? h)).2
theorem start0_get {n : Nat} {vs : List V} {j : Nat} {v : V} (h : vs[j]? = some v) : (start0 n vs)[j]? = some (some v) := by
  unfold start0
  rw [List.getElem?_append_left (by rw [List.length_map]; exact (List.getElem?_eq_some_iff.mp h).1), List.getElem?_map, h]
  rfl
theorem start0_inv {n : Nat} {vs : List V} {j : Nat} {v : V} (h : (start0 n vs)[j]? = some (some v)) : vs[j]? = some v := by
  unfold start0 at h
  rcases Nat.lt_or_ge j vs.length with l | l
  · rw [List.getElem?_append_left (by rw [List.length_map]; exact l), List.getElem?_map] at h
    obtain ⟨v', e, z⟩ := Option.map_eq_some_iff.mp h
    cases z; exact e
  · rw [List.getElem?_append_right (by rw [List.length_map]; exact l)] at h
    have := (List.mem_replicate.mp (List.mem_of_getElem? h)).2
    cases this
theorem AOk.len {P : Hp} {σ : St} {vs : List V} {xs : List Arg} (h : AOk P σ vs xs) : vs.length = xs.length := by
  induction h with
  | nil => rfl
  | cons _ _ ih => rw [List.length_cons, List.length_cons, ih]
theorem AOk.get {P : Hp} {σ : St} {vs : List V} {xs : List Arg} (h : AOk P σ vs xs) : ∀ {j : Nat} {v : V} {x : Arg}, vs[j]? = some v → xs[j]? = some x → AOk1 P σ v x := by
  induction h with
  | nil => intro j v x e _; simp at e
  | cons a _ ih =>
    intro j v x e1 e2
    cases j with
    | zero => simp at e1 e2; subst e1; subst e2; exact a
    | succ j => exact ih (by simpa using e1) (by simpa using e2)
/-- the addresses of what is changed -/
def mutAddrs (muts : List Nat) (vs : List V) : List Addr := muts.filterMap fun (k : Nat) => match (vs[k]? : Option V) with
  | some (V.ref a) => some a
  | _ => none
theorem mem_mutAddrs {muts : List Nat} {vs : List V} {a : Addr} : a ∈ mutAddrs muts vs ↔ ∃ k ∈ muts, vs[k]? = some (.ref a) := by
  unfold mutAddrs
  rw [List.mem_filterMap]
  constructor
  · rintro ⟨k, hk, e⟩
    refine ⟨k, hk, ?_⟩
    split at e
    · rename_i b hb; cases e; exact hb
    · cases e
  · rintro ⟨k, hk, e⟩
    exact ⟨k, hk, by rw [e]⟩
/-- slot i owns an object, whose content is d -/
theorem mutC_own {P H : Hp} {σ : St} {r : Env} {i : Nat} {d : D} (S : Sit C P H σ r) (h : mutC r i = some d) : ∃ a, σ[i]? = some (some (.ref a)) ∧ P a = none ∧ Holds P H a d ∧ Owns σ r i a ∧ (C.H0 a = none ∨ a ∈ C.M) := by
  unfold mutC at h
  cases q : r[i]? with
  | none => rw [q] at h; cases h
  | some s =>
    rw [q] at h
    have k := S.slot i s q
    cases s with
    | un => cases h
    | hid => cases h
    | fz d => cases h
    | ow d => cases h; obtain ⟨a, e, n, n0, k⟩ := k; exact ⟨a, e, n, k, ⟨e, _, .inl q⟩, .inl n0⟩
    | io d => cases h; obtain ⟨a, e, n, n0, n1, k⟩ := k; exact ⟨a, e, n, k, ⟨e, _, .inr q⟩, .inr n1⟩
/-- the callee's state at its entry -/
theorem callee_sit {t : Tx} {P H : Hp} {σ : St} {r : Env} {vs : List V} {xs : List Arg} {ds : List D} {muts : List Nat} {n : Nat} (hT : C.T = t.T) (hTG : C.TG = t.TG) (S : Sit C P H σ r) (h : AOk P σ vs xs) (e : dataAux muts r 0 xs = some ds) (ap : refsApart xs = true) (hn : vs.length ≤ n) :
    Sit (cfg0 t (mutAddrs muts vs) H P vs) P H (start0 n vs) (startEnv n muts ds) := by
  have ld := dataAux_len e
  have lv := h.len
  have io : ∀ j a, Owns (start0 n vs) (startEnv n muts ds) j a → vs[j]? = some (.ref a) ∧ j ∈ muts ∧ ∃ i, xs[j]? = some (.ref i) ∧ Owns σ r i a := fun j a ⟨h1, d, h2⟩ => by
    have hv := start0_inv h1
    have hj : j < xs.length := by rw [← lv]; exact (List.getElem?_eq_some_iff.mp hv).1
    have hx : xs[j]? = some xs[j] := List.getElem?_eq_getElem hj
    obtain ⟨d', hd', hm⟩ := dataAux_get e hx
    have hs : ∃ s, (startEnv n muts ds)[j]? = some s ∧ (s = .ow d ∨ s = .io d) := by
      rcases h2 with h2 | h2
      · exact ⟨_, h2, .inl rfl⟩
      · exact ⟨_, h2, .inr rfl⟩
    obtain ⟨s, hs, hk⟩ := hs
    rcases startEnv_get hs with ⟨d2, e2, e3⟩ | e3
    · by_cases hjm : j ∈ muts
      · refine ⟨hv, hjm, ?_⟩
        have ha := h.get hv hx
        cases q : xs[j] with
        | val d3 => rw [q] at hm; rw [Nat.zero_add] at hm; exact (hm.1 hjm).elim
        | ref i =>
          rw [q] at hm ha hx
          obtain ⟨b, e4, _, _, O, _⟩ := mutC_own S hm.2
          have ha : σ[i]? = some (some (.ref a)) := ha
          rw [ha] at e4; cases e4
          exact ⟨i, hx, O⟩
      · rw [if_neg hjm] at e3
        rcases hk with hk | hk <;> (rw [hk] at e3; cases e3)
    · rcases hk with hk | hk <;> (rw [hk] at e3; cases e3)
  refine ⟨⟨?_, ?_⟩, S.part, fun a o e _ _ => e, fun a e => e, fun j s es => ?_, ?_, fun j k a x y => ?_, fun a e => .inl e⟩
  · show LamX.Tabs t.T H
    rw [← hT]; exact S.tabs.1
  · show ∀ p ∈ t.TG, GxR.TabG H p
    rw [← hTG]; exact S.tabs.2
  · rcases startEnv_get es with ⟨d, ed, rfl⟩ | rfl
    · have hj : j < xs.length := by rw [← ld]; exact (List.getElem?_eq_some_iff.mp ed).1
      have hx : xs[j]? = some xs[j] := List.getElem?_eq_getElem hj
      have hv : vs[j]? = some vs[j] := List.getElem?_eq_getElem (by rw [lv]; exact hj)
      have ha := h.get hv hx
      obtain ⟨d', hd', hm⟩ := dataAux_get e hx
      rw [ed] at hd'; cases hd'
      cases q : xs[j] with
      | val d3 =>
        rw [q] at hm ha
        rw [Nat.zero_add] at hm
        rw [if_neg hm.1, hm.2]
        exact ⟨vs[j], start0_get hv, ha⟩
      | ref i =>
        rw [q] at hm ha
        rw [Nat.zero_add] at hm
        rw [if_pos hm.1]
        obtain ⟨b, e4, nb, hb, O, _⟩ := mutC_own S hm.2
        have ha : σ[i]? = some (some vs[j]) := ha
        rw [ha] at e4
        have ev : vs[j] = .ref b := Option.some.inj (Option.some.inj e4)
        rw [ev] at hv
        refine ⟨b, start0_get hv, nb, ?_, mem_mutAddrs.mpr ⟨j, hm.1, hv⟩, hb⟩
        show vs.getD j .non = .ref b
        rw [List.getD_eq_getElem?_getD, hv]; rfl
    · trivial
  · unfold start0 startEnv
    rw [List.length_append, List.length_append, List.length_map, List.length_replicate, List.length_replicate, startAux_len, ld, lv]
  · obtain ⟨_, _, i, hx, O⟩ := io j a x
    obtain ⟨_, _, i', hx', O'⟩ := io k a y
    have := S.own i i' a O O'
    subst this
    exact refsApart_eq ap hx hx'
/-! ### what is changed is put back -/
def reput (r : Env) (i : Nat) (d : D) : Env := match r[i]? with
  | some (.ow _) => r.set i (.ow d)
  | some (.io _) => r.set i (.io d)
  | _ => r
def setOuts (xs : List Arg) : List Nat → List D → Env → Env
  | k :: ks, d :: ds, r => setOuts xs ks ds (match xs[k]? with
    | some (.ref i) => reput r i d
    | _ => r)
  | _, _, r => r
def callD (muts : List Nat) (F : List D → FOut) (xs : List Arg) (r : Env) : Out Res := if refsApart xs = true then (match dataAux muts r 0 xs with
  | some ds => match F ds with
    | .ok x outs => match x with
      | .bw _ => .bad
      | x => .ok x (setOuts xs muts outs r)
    | .exn e outs => .exn e (setOuts xs muts outs r)
    | .bad => .bad
  | none => .bad) else .bad
def eCall (muts : List Nat) (F : List D → FOut) (f : Env → Out (List Arg)) (r : Env) : Out Res := (f r).bind fun xs r1 => callD muts F xs r1
end
end Dn

end
section
/-! Dn8: behind a call. -/
namespace Dn
open PySem L2
def kd : Option Slot → Nat
  | some .un => 0
  | some (.fz _) => 1
  | some (.ow _) => 2
  | some .hid => 3
  | some (.io _) => 4
  | none => 5
theorem kd_ow {o : Option Slot} (h : kd o = 2) : ∃ d, o = some (.ow d) := by
  cases o with
  | none => cases h
  | some s => cases s <;> first | (cases h; done) | exact ⟨_, rfl⟩
theorem kd_io {o : Option Slot} (h : kd o = 4) : ∃ d, o = some (.io d) := by
  cases o with
  | none => cases h
  | some s => cases s <;> first | (cases h; done) | exact ⟨_, rfl⟩
theorem owns_kd {σ : St} {r : Env} {i : Nat} {a : Addr} : Owns σ r i a ↔ σ[i]? = some (some (.ref a)) ∧ (kd r[i]? = 2 ∨ kd r[i]? = 4) := by
  constructor
  · rintro ⟨h, d, e | e⟩
    · exact ⟨h, .inl (by rw [e]; rfl)⟩
    · exact ⟨h, .inr (by rw [e]; rfl)⟩
  · rintro ⟨h, e | e⟩
    · obtain ⟨d, e⟩ := kd_ow e; exact ⟨h, d, .inl e⟩
    · obtain ⟨d, e⟩ := kd_io e; exact ⟨h, d, .inr e⟩
theorem kd_mut {r : Env} {i : Nat} {d : D} (h : mutC r i = some d) : kd r[i]? = 2 ∨ kd r[i]? = 4 := by
  unfold mutC at h
  split at h
  · rename_i e; rw [e]; exact .inl rfl
  · rename_i e; rw [e]; exact .inr rfl
  · cases h
theorem reput_kd {r : Env} {i j : Nat} {d : D} : kd (reput r i d)[j]? = kd r[j]? := by
  unfold reput
  split
  · rename_i e
    by_cases h : i = j
    · subst h; rw [List.getElem?_set_self (List.getElem?_eq_some_iff.mp e).1, e]; rfl
    · rw [List.getElem?_set_ne h]
  · rename_i e
    by_cases h : i = j
    · subst h; rw [List.getElem?_set_self (List.getElem?_eq_some_iff.mp e).1, e]; rfl
    · rw [List.getElem?_set_ne h]
  · rfl
theorem reput_ne {r : Env} {i j : Nat} {d : D} (h : j ≠ i) : (reput r i d)[j]? = r[j]? := by
  unfold reput
  split
  · rw [List.getElem?_set_ne (Ne.symm h)]
  · rw [List.getElem?_set_ne (Ne.symm h)]
  · rfl
theorem reput_len {r : Env} {i : Nat} {d : D} : (reput r i d).length = r.length := by
  unfold reput
  split
  · rw [List.length_set]
  · rw [List.length_set]
  · rfl
theorem reput_ow {r : Env} {i : Nat} {d : D} (h : kd r[i]? = 2) : (reput r i d)[i]? = some (.ow d) := by
  obtain ⟨d', e⟩ := kd_ow h
  unfold reput
  rw [e]
  exact List.getElem?_set_self (List.getElem?_eq_some_iff.mp e).1
theorem reput_io {r : Env} {i : Nat} {d : D} (h : kd r[i]? = 4) : (reput r i d)[i]? = some (.io d) := by
  obtain ⟨d', e⟩ := kd_io h
  unfold reput
  rw [e]
  exact List.getElem?_set_self (List.getElem?_eq_some_iff.mp e).1
section
variable {Γ : Tx} {C : Cfg} {P H P' H' : Hp} {σ : St} {r0 : Env} {xs : List Arg}
/-- what is known of an owned slot's place -/
theorem kd_slot (S : Sit C P H σ r0) {i : Nat} : (kd r0[i]? = 2 → ∃ a, σ[i]? = some (some (.ref a)) ∧ P a = none ∧ C.H0 a = none) ∧ (kd r0[i]? = 4 → ∃ a, σ[i]? = some (some (.ref a)) ∧ P a = none ∧ C.hid i = .ref a ∧ a ∈ C.M) := by
  constructor
  · intro h
    obtain ⟨d, e⟩ := kd_ow h
    obtain ⟨a, e', n, n0, _⟩ := S.slot i _ e
    exact ⟨a, e', n, n0⟩
  · intro h
    obtain ⟨d, e⟩ := kd_io h
    obtain ⟨a, e', n, n0, n1, _⟩ := S.slot i _ e
    exact ⟨a, e', n, n0, n1⟩
/-- the slots, put back one by one; ks: still to come -/
structure Put (C : Cfg) (P' H' : Hp) (σ : St) (r0 : Env) (xs : List Arg) (ks : List Nat) (r : Env) : Prop where
  len : r.length = r0.length
  kind : ∀ j : Nat, kd r[j]? = kd r0[j]?
  slot : ∀ (j : Nat) (s : Slot), r[j]? = some s → (∃ k ∈ ks, xs[k]? = some (.ref j)) ∨ SlotOk C P' H' j σ[j]? s
theorem put_all (S : Sit C P H σ r0) : ∀ (ks : List Nat) (ds : List D) (r : Env), ks.length = ds.length → Put C P' H' σ r0 xs ks r →
    (∀ (m k : Nat) (d : D), ks[m]? = some k → ds[m]? = some d → ∃ i a, xs[k]? = some (.ref i) ∧ σ[i]? = some (some (.ref a)) ∧ (kd r0[i]? = 2 ∨ kd r0[i]? = 4) ∧ P' a = none ∧ Holds P' H' a d) → Put C P' H' σ r0 xs [] (setOuts xs ks ds r)
  | [], ds, r, hl, h, _ => by
    have e : setOuts xs [] ds r = r := by unfold setOuts; rfl
    rw [e]; exact h
  | k :: ks, [], r, hl, h, _ => by cases hl
  | k :: ks, d :: ds, r, hl, h, hk => by
    obtain ⟨i, a, hx, hs, hkd, hp, hh⟩ := hk 0 k d rfl rfl
    show Put C P' H' σ r0 xs [] (setOuts xs ks ds (match xs[k]? with
      | some (.ref i) => reput r i d
      | _ => r))
    rw [hx]
    refine put_all S ks ds (reput r i d) (by simpa using hl) ⟨reput_len.trans h.len, fun j => reput_kd.trans (h.kind j), fun j s es => ?_⟩ fun m k' d' e1 e2 => hk (m + 1) k' d' (by simpa using e1) (by simpa using e2)
    by_cases hj : j = i
    · subst hj
      right
      have hkr : kd r[j]? = 2 ∨ kd r[j]? = 4 := by rw [h.kind j]; exact hkd
      rcases hkr with q | q
      · rw [reput_ow q] at es; cases es
        obtain ⟨b, e', _, n0⟩ := (kd_slot S (i := j)).1 (by rw [← h.kind j]; exact q)
        rw [hs] at e'; cases e'
        exact ⟨a, hs, hp, n0, hh⟩
      · rw [reput_io q] at es; cases es
        obtain ⟨b, e', _, n0, n1⟩ := (kd_slot S (i := j)).2 (by rw [← h.kind j]; exact q)
        rw [hs] at e'; cases e'
        exact ⟨a, hs, hp, n0, n1, hh⟩
    · rw [reput_ne hj] at es
      rcases h.slot j s es with ⟨k', hk', e⟩ | z
      · rcases List.mem_cons.mp hk' with z | z
        · subst z
          rw [hx] at e
          cases e
          exact (hj rfl).elim
        · exact .inl ⟨k', z, e⟩
      · exact .inr z
theorem outsOf_get {r : Env} : ∀ {is : List Nat} {ds : List D}, outsOf is r = some ds → is.length = ds.length ∧ ∀ (m k : Nat) (d : D), is[m]? = some k → ds[m]? = some d → r[k]? = some (.io d)
  | [], ds, h => by cases h; exact ⟨rfl, fun m k d e => by simp at e⟩
  | i :: is, ds, h => by
    unfold outsOf at h
    split at h
    · rename_i d ds' h1 h2
      cases h
      obtain ⟨l, g⟩ := outsOf_get h2
      refine ⟨by rw [List.length_cons, List.length_cons, l], fun m k d2 e1 e2 => ?_⟩
      cases m with
      | zero =>
        simp at e1 e2; subst e1; subst e2
        unfold ioAt at h1
        split at h1
        · rename_i e; cases h1; exact e
        · cases h1
      | succ m => exact g m k d2 (by simpa using e1) (by simpa using e2)
    · cases h
/-- the caller's step over the whole call -/
theorem call_tr {t : Tx} {vs : List V} {ds outs : List D} {muts : List Nat} {σ' : St} {r' : Env} (hT : C.T = t.T) (hTG : C.TG = t.TG) (S : Sit C P H σ r0) (h : AOk P σ vs xs) (e : dataAux muts r0 0 xs = some ds)
    (S' : Sit (cfg0 t (mutAddrs muts vs) H P vs) P' H' σ' r') (sb : Sub P P') (ho : outsOf muts r' = some outs) (hm : ∀ k ∈ muts, k < xs.length) : Tr C σ P H r0 P' H' (setOuts xs muts outs r0) := by
  have lv := h.len
  have newP : ∀ a, P' a ≠ none → P a ≠ none ∨ a ∈ mutAddrs muts vs ∨ NewT H a := S'.newP
  have old : ∀ a, H' a = none → H a = none := S'.old
  have keepH : ∀ a o, H a = some o → NoTbl o → a ∉ mutAddrs muts vs → H' a = some o := S'.keep
  -- what is changed is the caller's own
  have mine : ∀ a, a ∈ mutAddrs muts vs → ∃ k i, k ∈ muts ∧ xs[k]? = some (.ref i) ∧ Owns σ r0 i a := fun a ha => by
    obtain ⟨k, hk, hv⟩ := mem_mutAddrs.mp ha
    have hj : k < xs.length := hm k hk
    have hx : xs[k]? = some xs[k] := List.getElem?_eq_getElem hj
    obtain ⟨d', _, hmm⟩ := dataAux_get e hx
    have ha := h.get hv hx
    cases q : xs[k] with
    | val d3 => rw [q] at hmm; rw [Nat.zero_add] at hmm; exact (hmm.1 hk).elim
    | ref i =>
      rw [q] at hmm ha hx
      obtain ⟨b, e4, _, _, O, _⟩ := mutC_own S hmm.2
      have ha : σ[i]? = some (some (.ref a)) := ha
      rw [ha] at e4; cases e4
      exact ⟨k, i, hk, hx, O⟩
  obtain ⟨lo, go⟩ := outsOf_get ho
  have hput : Put C P' H' σ r0 xs [] (setOuts xs muts outs r0) := by
    refine put_all S muts outs r0 lo ⟨rfl, fun _ => rfl, fun j s es => ?_⟩ fun m k d e1 e2 => ?_
    · by_cases hj : ∃ k ∈ muts, xs[k]? = some (.ref j)
      · exact .inl hj
      · right
        have k := S.slot j s es
        cases s with
        | un => trivial
        | hid => exact k
        | fz d => obtain ⟨v, e', q⟩ := k; exact ⟨v, e', RepT.sub sb q⟩
        | ow d =>
          obtain ⟨a, e', n, n0, q⟩ := k
          obtain ⟨o, ho', po⟩ := q.obj
          have own2 := q.own
          have na : a ∉ mutAddrs muts vs := fun z => by
            obtain ⟨k, i, hk, hx, O⟩ := mine a z
            have := S.own i j a O ⟨e', d, .inl es⟩
            subst this
            exact hj ⟨k, hk, hx⟩
          have hH := keepH a o ho' (plain_notbl po) na
          refine ⟨a, e', ?_, n0, q.sub sb (hH.trans ho'.symm)⟩
          cases q' : P' a with
          | none => rfl
          | some u =>
            rcases newP a (by rw [q']; simp) with z | z | z
            · exact (z n).elim
            · exact (na z).elim
            · obtain ⟨o2, ho2, c2⟩ := own2
              have := z o2 ho2
              rw [c2] at this; cases this
        | io d =>
          obtain ⟨a, e', n, n0, n1, q⟩ := k
          obtain ⟨o, ho', po⟩ := q.obj
          have own2 := q.own
          have na : a ∉ mutAddrs muts vs := fun z => by
            obtain ⟨k, i, hk, hx, O⟩ := mine a z
            have := S.own i j a O ⟨e', d, .inr es⟩
            subst this
            exact hj ⟨k, hk, hx⟩
          have hH := keepH a o ho' (plain_notbl po) na
          refine ⟨a, e', ?_, n0, n1, q.sub sb (hH.trans ho'.symm)⟩
          cases q' : P' a with
          | none => rfl
          | some u =>
            rcases newP a (by rw [q']; simp) with z | z | z
            · exact (z n).elim
            · exact (na z).elim
            · obtain ⟨o2, ho2, c2⟩ := own2
              have := z o2 ho2
              rw [c2] at this; cases this
    · have hk : k ∈ muts := List.mem_of_getElem? e1
      have hj : k < xs.length := hm k hk
      have hx : xs[k]? = some xs[k] := List.getElem?_eq_getElem hj
      have hv : vs[k]? = some vs[k] := List.getElem?_eq_getElem (by rw [lv]; exact hj)
      obtain ⟨d', _, hmm⟩ := dataAux_get e hx
      have ha := h.get hv hx
      obtain ⟨a, _, pn, hid, _, hh⟩ := S'.slot k _ (go m k d e1 e2)
      have hid : vs.getD k .non = .ref a := hid
      rw [List.getD_eq_getElem?_getD, hv] at hid
      have hid : vs[k] = .ref a := hid
      cases q : xs[k] with
      | val d3 => rw [q] at hmm; rw [Nat.zero_add] at hmm; exact (hmm.1 hk).elim
      | ref i =>
        rw [q] at hmm ha hx
        have ha : σ[i]? = some (some vs[k]) := ha
        rw [hid] at ha
        exact ⟨i, a, hx, ha, kd_mut hmm.2, pn, hh⟩
  have ow : ∀ j b, Owns σ (setOuts xs muts outs r0) j b → Owns σ r0 j b := fun j b z => by
    rw [owns_kd] at z ⊢
    rw [hput.kind j] at z
    exact z
  refine ⟨⟨⟨?_, ?_⟩, S'.part, fun a o ea nt nm => ?_, fun a ea => S.old a (old a ea), fun j s es => ?_, S.len.trans hput.len.symm, fun j k b x y => S.own j k b (ow j b x) (ow k b y), fun a ea => ?_⟩, sb, fun a o ea nt no => ?_, fun a ea => ?_, ow, fun a o ea => ?_⟩
  · show LamX.Tabs C.T H'
    rw [hT]; exact S'.tabs.1
  · show ∀ p ∈ C.TG, GxR.TabG H' p
    rw [hTG]; exact S'.tabs.2
  · have hH := S.keep a o ea nt nm
    refine keepH a o hH nt fun z => ?_
    obtain ⟨k, i, hk, hx, O⟩ := mine a z
    rcases owns_kd.mp O with ⟨e', q | q⟩
    · obtain ⟨b, e2, _, n0⟩ := (kd_slot S (i := i)).1 q
      rw [e'] at e2; cases e2
      rw [ea] at n0; cases n0
    · obtain ⟨b, e2, _, _, n1⟩ := (kd_slot S (i := i)).2 q
      rw [e'] at e2; cases e2
      exact nm n1
  · rcases hput.slot j s es with ⟨k, hk, _⟩ | z
    · cases hk
    · exact z
  · rcases newP a ea with z | z | z
    · exact S.newP a z
    · obtain ⟨k, i, _, _, O⟩ := mine a z
      rcases owns_kd.mp O with ⟨e', q | q⟩
      · obtain ⟨b, e2, _, n0⟩ := (kd_slot S (i := i)).1 q
        rw [e'] at e2; cases e2
        exact .inr (.inr (NewT.no n0))
      · obtain ⟨b, e2, _, _, n1⟩ := (kd_slot S (i := i)).2 q
        rw [e'] at e2; cases e2
        exact .inr (.inl n1)
    · by_cases nm : a ∈ C.M
      · exact .inr (.inl nm)
      · refine .inr (.inr fun o e => ?_)
        cases ho : canOwn o with
        | false => rfl
        | true =>
          have := z o (S.keep a o e (fun ps q => by rw [q] at ho; cases ho) nm)
          rw [ho] at this; exact this
  · refine keepH a o ea nt fun z => ?_
    obtain ⟨k, i, _, _, O⟩ := mine a z
    exact no i O
  · rcases newP a ea with z | z | z
    · exact .inl z
    · obtain ⟨k, i, _, _, O⟩ := mine a z
      exact .inr (.inr ⟨i, O⟩)
    · exact .inr (.inl z)
  · cases q : H' a with
    | some o' => exact ⟨o', rfl⟩
    | none => have := old a q; rw [ea] at this; cases this
/-- what is handed back, for the caller -/
theorem call_res {t : Tx} {vs : List V} {M : List Addr} {σ' : St} {r' r2 : Env} {v : V} {x : Res} (S : Sit C P H σ r0) (T : Tr C σ P H r0 P' H' r2) (h : ResOk (cfg0 t M H P vs) P' H' σ' r' v x) (nb : ∀ i, x ≠ .bw i) : ResOk C P' H' σ r2 v x ∧ Fresh H v x := by
  cases x with
  | fz d => exact ⟨h, trivial⟩
  | bw i => exact (nb i rfl).elim
  | ow d =>
    obtain ⟨a, e, n, n0, q, _⟩ := h
    have n0 : H a = none := n0
    refine ⟨⟨a, e, n, S.old a n0, q, fun i z => S.slotN n0 i (T.owns i a z)⟩, fun b eb => ?_⟩
    rw [e] at eb; cases eb; exact n0
variable {W : WX} {X : Cx} {g : Env → Out (List Arg)} {x : Str} {f : Addr} {fd : FuncData} {ps : List Str} {k : Nat} {p pos : Pos} {a : Expr} {es : List Expr}
/-- f(..): a def of the text -/
theorem qe_call {n np : Nat} {muts : List Nat} {F : List D → FOut} (G : FnOk X.prog X.w X.K X.mg X.base (L2.CX X.prog X.w) k f fd ps (spD Γ n np muts F)) (tk : Takes X W)
    (hr : Room k X.A) (hg : Gl X x) (hm : X.mg x = some (.ref f)) (hk : PySem.W.keepIn X.K (.ref f) = true) (hb : Binds X.K fd ps []) (hnp : np ≤ n) (hmu : ∀ k ∈ muts, k < np) (hes : (a :: es).length = np) (ha : QAr Γ W X (a :: es) g) (hd : (x == ("__debug__" : Str)) = false := by decide)
    (hs : starEach (a :: es) X.env = (false, eval a X.env) :: starEach es X.env := by rfl) (hp : (backTo pos (starEach es X.env)).any (·.1) = false := by rfl) : QE Γ W X (.Call (.Name x p) (a :: es) [] pos) (eCall muts F g) := by
  obtain ⟨tt, pa, kk⟩ := ha.ex
  refine ⟨_, pe_callS G hr hg hm hk hb (fun σ => passAt tk σ) pa hd hs hp, fun C hC σ H P r Q S q => ?_⟩
  obtain ⟨hT, hTG, hcl⟩ := id hC
  show tt σ H fun vs H1 => spD Γ n np muts F vs H1 Q (L2.WE W σ)
  have q' : Cont C W σ P H r (g r) (fun xs r1 P1 H1 => ∀ vs, AOk P1 σ vs xs → spD Γ n np muts F vs H1 Q (L2.WE W σ)) := by
    cases o : g r with
    | bad => unfold eCall at q; rw [o] at q; exact q
    | exn e r1 => unfold eCall at q; rw [o] at q; exact q
    | ok xs r1 =>
      unfold eCall at q
      rw [o] at q
      intro P1 H1 t1 vs hvs
      have q1 : Cont C W σ P1 H1 r1 (callD muts F xs r1) _ := Cont.from q t1
      have lx := (ha.len r xs r1 o).trans hes
      have lv := hvs.len
      unfold callD at q1
      by_cases ap : refsApart xs = true
      · rw [if_pos ap] at q1
        cases ed : dataAux muts r1 0 xs with
        | none => simp only [ed] at q1; exact q1.elim
        | some ds =>
          simp only [ed] at q1
          have Sc := callee_sit (n := n) hT hTG t1.sit hvs ed ap (by omega)
          refine ⟨P1, ds, mutAddrs muts vs, by omega, Sc, ?_⟩
          cases eF : F ds with
          | bad => simp only [eF] at q1; exact q1.elim
          | exn e outs =>
            simp only [eF] at q1
            intro H' P' σ' r' S' sb ho dd
            have T := call_tr hT hTG t1.sit hvs ed S' sb ho (fun k hk => by rw [lx]; exact hmu k hk)
            have := q1 P' H' T dd
            rw [hcl] at this
            exact this
          | ok y outs =>
            simp only [eF] at q1
            intro v H' P' σ' r' S' sb hv ho
            have T := call_tr hT hTG t1.sit hvs ed S' sb ho (fun k hk => by rw [lx]; exact hmu k hk)
            cases y with
            | bw i => exact q1.elim
            | fz d =>
              obtain ⟨h1, h2⟩ := call_res t1.sit T hv (fun i z => by cases z)
              exact q1 P' H' T v h1 (h2.back t1)
            | ow d =>
              obtain ⟨h1, h2⟩ := call_res t1.sit T hv (fun i z => by cases z)
              exact q1 P' H' T v h1 (h2.back t1)
      · rw [if_neg ap] at q1; exact q1.elim
  exact kk C hC σ H P r _ S q'
end
end Dn

end
section
/-! Dn9: lists that change; built-ins. -/
namespace Dn
open PySem L2
section
variable {Γ : Tx} {C : Cfg} {W : WX} {X : Cx} {P H : Hp} {σ : St} {r : Env} {a b : Expr} {fa fb : Env → Out Res} {pos : Pos}
theorem TabsOk.write {a : Addr} {o o' : HO} (h : TabsOk C H) (e : H a = some o) (n : plainO o = true) : TabsOk C (L2.upd H a o') := by
  refine ⟨fun p hp => ?_, fun p hp => ?_⟩
  · obtain ⟨ps, h1, h2, h3⟩ := h.1 p hp
    have np : p.1 ≠ a := fun z => by rw [z, e] at h1; cases h1; cases n
    refine ⟨ps, by rw [upd_ne np]; exact h1, h2, fun pos cv hc => ?_⟩
    obtain ⟨c, e1, e2⟩ := h3 pos cv hc
    refine ⟨c, e1, ?_⟩
    have nc : c ≠ a := fun z => by
      rw [z, e] at e2
      unfold LamX.CodeO at e2
      cases e2
      cases n
    rw [upd_ne nc]; exact e2
  · obtain ⟨ps, h1, h2⟩ := h.2 p hp
    have np : p ≠ a := fun z => by rw [z, e] at h1; cases h1; cases n
    exact ⟨ps, by rw [upd_ne np]; exact h1, h2⟩
/-- an owned object is changed -/
theorem tr_write {i : Nat} {a : Addr} {d' : D} {o' : HO} (S : Sit C P H σ r) (O : Owns σ r i a) (hh : Holds P (L2.upd H a o') a d') : Tr C σ P H r P (L2.upd H a o') (reput r i d') := by
  have info : ∃ o, H a = some o ∧ plainO o = true ∧ P a = none ∧ (C.H0 a = none ∨ a ∈ C.M) := by
    obtain ⟨h1, d, h2 | h2⟩ := O
    · obtain ⟨b, e, n, n0, q⟩ := S.slot i _ h2
      rw [h1] at e; cases e
      obtain ⟨o, ho, po⟩ := q.obj
      exact ⟨o, ho, po, n, .inl n0⟩
    · obtain ⟨b, e, n, n0, n1, q⟩ := S.slot i _ h2
      rw [h1] at e; cases e
      obtain ⟨o, ho, po⟩ := q.obj
      exact ⟨o, ho, po, n, .inr n1⟩
  obtain ⟨o, ho, po, pn, h0⟩ := info
  have ow : ∀ j b, Owns σ (reput r i d') j b → Owns σ r j b := fun j b z => by
    rw [owns_kd] at z ⊢
    rw [reput_kd] at z
    exact z
  refine ⟨⟨S.tabs.write ho po, fun b u e => ?_, fun b u e nt nm => ?_, fun b e => ?_, fun j s es => ?_, S.len.trans reput_len.symm, fun j k b x y => S.own j k b (ow j b x) (ow k b y), S.newP⟩, Sub.refl P, fun b u e nt no => ?_, fun b h => .inl h, ow, fun b u e => ?_⟩
  · have nb : b ≠ a := fun z => by rw [z, pn] at e; cases e
    rw [upd_ne nb]; exact S.part b u e
  · have nb : b ≠ a := fun z => by
      subst z
      rcases h0 with h0 | h0
      · rw [e] at h0; cases h0
      · exact nm h0
    rw [upd_ne nb]; exact S.keep b u e nt nm
  · by_cases q : b = a
    · subst q; rw [upd_same] at e; cases e
    · rw [upd_ne q] at e; exact S.old b e
  · by_cases hj : j = i
    · subst hj
      rcases (owns_kd.mp O).2 with q | q
      · rw [reput_ow q] at es; cases es
        obtain ⟨b, e, _, n0⟩ := (kd_slot S (i := j)).1 q
        have e2 := O.1
        rw [e2] at e; cases e
        exact ⟨a, e2, pn, n0, hh⟩
      · rw [reput_io q] at es; cases es
        obtain ⟨b, e, _, n0, n1⟩ := (kd_slot S (i := j)).2 q
        have e2 := O.1
        rw [e2] at e; cases e
        exact ⟨a, e2, pn, n0, n1, hh⟩
    · rw [reput_ne hj] at es
      have k := S.slot j s es
      cases s with
      | un => trivial
      | hid => exact k
      | fz d => exact k
      | ow d =>
        obtain ⟨b, e, n, n0, q⟩ := k
        have nb : b ≠ a := fun z => hj (S.own j i b ⟨e, d, .inl es⟩ (z ▸ O))
        exact ⟨b, e, n, n0, q.sub (Sub.refl P) (upd_ne nb)⟩
      | io d =>
        obtain ⟨b, e, n, n0, n1, q⟩ := k
        have nb : b ≠ a := fun z => hj (S.own j i b ⟨e, d, .inr es⟩ (z ▸ O))
        exact ⟨b, e, n, n0, n1, q.sub (Sub.refl P) (upd_ne nb)⟩
  · have nb : b ≠ a := fun z => no i (z ▸ O)
    rw [upd_ne nb]; exact e
  · by_cases q : b = a
    · exact ⟨o', by rw [q]; exact upd_same⟩
    · exact ⟨u, by rw [upd_ne q]; exact e⟩
/-! ### methods that change the list of a slot -/
/-- what comes back, what the list is behind -/
def MOp (t : V → List V → Hp → VK → Prop) (g : D → List D → Option (D × D)) : Prop := ∀ (P H : Hp) (a : Addr) (ys : List V) (c : D) (ds : List D) (res c' : D) (Q : VK), Part P H → Holds P H a c → RpAll P ys ds → g c ds = some (res, c') →
  (∀ v o', Holds P (L2.upd H a o') a c' → RepT P v res → Q v (L2.upd H a o')) → t (.ref a) ys H Q
def mutEnd (g : D → List D → Option (D × D)) (i : Nat) (ds : List D) (r2 : Env) : Out Res := match mutC r2 i with
  | some c => match g c ds with
    | some (res, c') => .ok (.fz res) (reput r2 i c')
    | none => .bad
  | none => .bad
def isLst : Option D → Bool
  | some (.list _) => true
  | _ => false
def eMut (g : D → List D → Option (D × D)) (i : Nat) (f : Env → Out (List D)) (r : Env) : Out Res := if isLst (mutC r i) = true then (f r).bind fun ds r2 => mutEnd g i ds r2 else .bad
def eMut0 (g : D → List D → Option (D × D)) (i : Nat) (r : Env) : Out Res := if isLst (mutC r i) = true then mutEnd g i [] r else .bad
theorem own_addr {i : Nat} {c : D} {a : Addr} (S : Sit C P H σ r) (e : σ[i]? = some (some (.ref a))) (h : mutC r i = some c) : Holds P H a c ∧ Owns σ r i a := by
  obtain ⟨b, e', _, q, O, _⟩ := mutC_own S h
  rw [e] at e'; cases e'
  exact ⟨q, O⟩
theorem isLst_own {i : Nat} (S : Sit C P H σ r) (h : isLst (mutC r i) = true) : ∃ a vs, σ[i]? = some (some (.ref a)) ∧ H a = some (.lst vs) := by
  cases e : mutC r i with
  | none => rw [e] at h; cases h
  | some c =>
    rw [e] at h
    cases c with
    | list ds =>
      obtain ⟨a, e', _, q, _, _⟩ := mutC_own S e
      obtain ⟨vs, q1, _⟩ := q
      exact ⟨a, vs, e', q1⟩
    | _ => cases h
/-- what changes the object of a slot: its end -/
theorem mut_end {i : Nat} {a : Addr} {Hs : Hp} {t : V → List V → Hp → VK → Prop} {g : D → List D → Option (D × D)} {ds : List D} {ys : List V} {Q : VK} (hg : MOp t g) (S : Sit C P H σ r) (e : σ[i]? = some (some (.ref a))) (hy : RpAll P ys ds)
    (h : Cont C W σ P H r (mutEnd g i ds r) (fun x r' P' H' => ∀ v, ResOk C P' H' σ r' v x → Fresh Hs v x → Q v H')) : t (.ref a) ys H Q := by
  unfold mutEnd at h
  cases e1 : mutC r i with
  | none => rw [e1] at h; exact h.elim
  | some c =>
    rw [e1] at h
    obtain ⟨q, O⟩ := own_addr S e e1
    cases e2 : g c ds with
    | none => simp only [e2] at h; exact h.elim
    | some z =>
      obtain ⟨res, c'⟩ := z
      simp only [e2] at h
      refine hg P H a ys c ds res c' Q S.part q hy e2 fun v o' hh hv => ?_
      exact h P _ (tr_write S O hh) v hv trivial
theorem qe_mut (i : Nat) {x name : Str} {id : String} {p apos : Pos} {es : List Expr} {t : V → List V → Hp → VK → Prop} {g : D → List D → Option (D × D)} {f : Env → Out (List D)} (hm : MtR X id t) (hg : MOp t g) (pa : PlainAttrs "list") (slot : PySem.Slot "list" name id) (hty : typeOf (.builtin id) = pure (.type "method_descriptor"))
    (h : QF Γ W X (a :: es) f)
    (hN : X.N[i]? = some x := by rfl) (hv : Vis X.env.scope x := by first | exact Or.inl rfl | exact Or.inr (Or.inl rfl) | exact Or.inr (Or.inr rfl)) (hd : (x == ("__debug__" : Str)) = false := by decide)
    (hcd : (x == ("__classdict__" : Str)) = false := by decide) (hbase : attributeBase (.Name x p) name X.env (eval (.Name x p) X.env) = eval (.Name x p) X.env := by rfl)
    (hfew : ((backTo pos (starEach (a :: es) X.env)).all (fun x => !x.1) && (backToKw pos (keywordEach [] X.env)).all (fun x => x.1.isSome)
      && decide ((a :: es).length + ([] : List Keyword).length + (if ([] : List Keyword).isEmpty then 0 else 1) < 30)) = true := by rfl)
    (hline : (apos.endLine == pos.line) = true := by rfl) (hs : starEach (a :: es) X.env = (false, eval a X.env) :: starEach es X.env := by rfl) (hplain : (backTo pos (starEach es X.env)).any (·.1) = false := by rfl) :
    QE Γ W X (.Call (.Attribute (.Name x p) name apos) (a :: es) [] pos) (eMut g i f) := by
  obtain ⟨tt, pt, k⟩ := h.ex
  refine ⟨_, pe_bm pa slot hty hm (pe_var hN hv hd hcd) pt hbase hfew hline hs hplain, fun C hC σ H P r Q S q => ?_⟩
  unfold eMut at q
  by_cases hl : isLst (mutC r i) = true
  · rw [if_pos hl] at q
    obtain ⟨l, vs, e, hl'⟩ := isLst_own S hl
    refine ⟨.ref l, e, .inl ⟨rfl, _, SqL.of hl'⟩, ?_⟩
    exact k C hC σ H P r _ S (q.bind fun ds r2 P2 H2 t2 q2 ys hys => mut_end hg t2.sit e hys q2)
  · rw [if_neg hl] at q; exact q.elim
theorem qe_mut0 (i : Nat) {x name : Str} {id : String} {p apos : Pos} {t : V → List V → Hp → VK → Prop} {g : D → List D → Option (D × D)} (hm : MtR X id t) (hg : MOp t g) (pa : PlainAttrs "list") (slot : PySem.Slot "list" name id) (hty : typeOf (.builtin id) = pure (.type "method_descriptor"))
    (hN : X.N[i]? = some x := by rfl) (hv : Vis X.env.scope x := by first | exact Or.inl rfl | exact Or.inr (Or.inl rfl) | exact Or.inr (Or.inr rfl)) (hd : (x == ("__debug__" : Str)) = false := by decide)
    (hcd : (x == ("__classdict__" : Str)) = false := by decide) (hbase : attributeBase (.Name x p) name X.env (eval (.Name x p) X.env) = eval (.Name x p) X.env := by rfl) (hline : (apos.endLine == pos.line) = true := by rfl) :
    QE Γ W X (.Call (.Attribute (.Name x p) name apos) [] [] pos) (eMut0 g i) := by
  refine ⟨_, pe_bm0 pa slot hty hm (pe_var hN hv hd hcd) hbase hline, fun C hC σ H P r Q S q => ?_⟩
  unfold eMut0 at q
  by_cases hl : isLst (mutC r i) = true
  · rw [if_pos hl] at q
    obtain ⟨l, vs, e, hl'⟩ := isLst_own S hl
    exact ⟨.ref l, e, .inl ⟨rfl, _, SqL.of hl'⟩, mut_end hg S e .nil q⟩
  · rw [if_neg hl] at q; exact q.elim
def mAppend : D → List D → Option (D × D)
  | .list xs, [d] => if xs.length < 100000 then some (.none, .list (xs ++ [d])) else none
  | _, _ => none
def mExtend : D → List D → Option (D × D)
  | .list xs, [.list ys] => if xs.length + ys.length ≤ 100000 then some (.none, .list (xs ++ ys)) else none
  | _, _ => none
def mPop : D → List D → Option (D × D)
  | .list xs, [] => (xs[xs.length - 1]?).map fun d => (d, .list xs.dropLast)
  | _, _ => none
def mPopAt : D → List D → Option (D × D)
  | .list xs, [.int k] => if -1000 < k ∧ k < 1000 then (match seqIndex? k xs.length with
      | some j => (xs[j]?).map fun d => (d, .list (xs.eraseIdx j))
      | none => none) else none
  | _, _ => none
theorem rp_one {v : V} {vs : List V} {d : D} (h : RpAll P vs [d]) : ∃ v, vs = [v] ∧ Rp P v d := by
  cases h with
  | cons a b => cases b; exact ⟨_, rfl, a⟩
theorem rp_zero {vs : List V} (h : RpAll P vs []) : vs = [] := by cases h; rfl
theorem mo_append : MOp rAppend mAppend := by
  intro P H a ys c ds res c' Q p hc hy e q
  unfold mAppend at e
  split at e
  · rename_i xs d
    split at e
    · rename_i hl
      cases e
      obtain ⟨vs, h1, h2⟩ := hc
      obtain ⟨v, rfl, rv⟩ := rp_one (v := .non) hy
      refine ⟨a, vs, v, rfl, rfl, h1, by rw [RpAll.len h2]; exact Nat.lt_of_lt_of_le hl (by decide), q _ _ ⟨_, upd_same, RpAll.app h2 (.cons rv .nil)⟩ .non⟩
    · cases e
  · cases e
theorem mo_extend : MOp rExtend mExtend := by
  intro P H a ys c ds res c' Q p hc hy e q
  unfold mExtend at e
  split at e
  · rename_i xs zs
    split at e
    · rename_i hl
      cases e
      obtain ⟨vs, h1, h2⟩ := hc
      obtain ⟨v, rfl, rv⟩ := rp_one (v := .non) hy
      cases rv with
      | lst r1 r2 =>
        rename_i b us
        exact ⟨a, b, vs, us, rfl, rfl, h1, p.lst r1, len_line (by rw [RpAll.len h2, RpAll.len r2]; exact hl), q _ _ ⟨_, upd_same, RpAll.app h2 r2⟩ .non⟩
    · cases e
  · cases e
theorem RpAll.init {vs : List V} {ds : List D} (h : RpAll P vs ds) : RpAll P vs.dropLast ds.dropLast := by
  rw [List.dropLast_eq_take, List.dropLast_eq_take, RpAll.len h]; exact RpAll.take _ h
theorem RpAll.erase : ∀ {vs : List V} {ds : List D} (i : Nat), RpAll P vs ds → RpAll P (vs.eraseIdx i) (ds.eraseIdx i)
  | _, _, _, .nil => .nil
  | _, _, 0, .cons _ t => t
  | _, _, i + 1, .cons a t => .cons a (RpAll.erase i t)
theorem mo_pop : MOp rPop mPop := by
  intro P H a ys c ds res c' Q p hc hy e q
  unfold mPop at e
  split at e
  · rename_i xs
    obtain ⟨d, h3, h4⟩ := Option.map_eq_some_iff.mp e
    cases h4
    obtain ⟨vs, h1, h2⟩ := hc
    rw [rp_zero hy]
    obtain ⟨v, hv, rv⟩ := RpAll.get h2 h3
    exact ⟨a, vs, v, rfl, rfl, h1, by rw [RpAll.len h2]; exact hv, q _ _ ⟨_, upd_same, RpAll.init h2⟩ (RepT.of rv)⟩
  · cases e
theorem mo_popAt : MOp rPopAt mPopAt := by
  intro P H a ys c ds res c' Q p hc hy e q
  unfold mPopAt at e
  split at e
  · rename_i xs k
    split at e
    · rename_i hk
      split at e
      · rename_i j hj
        obtain ⟨d, h3, h4⟩ := Option.map_eq_some_iff.mp e
        cases h4
        obtain ⟨vs, h1, h2⟩ := hc
        obtain ⟨w, rfl, rw'⟩ := rp_one (v := .non) hy
        cases rw'
        obtain ⟨v, hv, rv⟩ := RpAll.get h2 h3
        exact ⟨a, vs, k, j, v, rfl, rfl, h1, by omega, by omega, by rw [RpAll.len h2]; exact hj, hv, q _ _ ⟨_, upd_same, RpAll.erase j h2⟩ (RepT.of rv)⟩
      · cases e
    · cases e
  · cases e
/-! ### xs[i] = e, xs[i] op= e -/
def setAt (i : Nat) (y : Res) (d : D) (r : Env) : Out Fl := match mutC r i, cont r y with
  | some (.list cs), some (.int k) => match ixN cs.length k with
    | some j => .ok .nx (reput r i (.list (cs.set j d)))
    | none => .bad
  | _, _ => .bad
def sSetIx (i : Nat) (fi fe : Env → Out Res) (r : Env) : Out Fl := thenS (fe r) fun x r1 => thenS (stl x r1) fun d r2 => match slotC r2 i with
  | some _ => thenS (fi r2) fun y r3 => setAt i y d r3
  | none => .bad
theorem set_at {P1 : Hp} {i : Nat} {a : Addr} {v w : V} {d : D} {y : Res} {E : Ends} (S : Sit C P H σ r) (e : σ[i]? = some (some (.ref a))) (hy : ResOk C P H σ r w y) (hv : Rp P v d) (sb : Sub P1 P)
    (h : SCont C W P1 (setAt i y d r) E) : rSetL (.ref a) w v H fun H' => E.nx σ H' := by
  unfold setAt at h
  split at h
  · rename_i cs k e1 e2
    split at h
    · rename_i j ej
      obtain ⟨q, O⟩ := own_addr S e e1
      obtain ⟨vs, h1, h2⟩ := q
      have t := tr_write (d' := .list (cs.set j d)) (o' := .lst (vs.set j v)) S O ⟨_, upd_same, RpAll.set hv j h2⟩
      exact ⟨a, vs, k, j, rfl, ct_int (hy.ct S e2), h1, by rw [RpAll.len h2]; exact ej, h P _ σ t.sit sb⟩
    · exact h.elim
  · exact h.elim
theorem qs_setIx (i : Nat) {x : Str} {ie e : Expr} {fi fe : Env → Out Res} {p tpos : Pos} (he : QE Γ W X e fe) (hi : QE Γ W X ie fi)
    (hN : X.N[i]? = some x := by rfl) (hv : Vis X.env.scope x := by first | exact Or.inl rfl | exact Or.inr (Or.inl rfl) | exact Or.inr (Or.inr rfl)) (hd : (x == ("__debug__" : Str)) = false := by decide)
    (hcd : (x == ("__classdict__" : Str)) = false := by decide)
    (hs : swapsWithSole [.Subscript (.Name x p) ie tpos] e pos.line X.env = pure false := by rfl) (hw : swappedStores [.Subscript (.Name x p) ie tpos] e X.env = pure none := by rfl)
    (h1 : (assignEach [.Subscript (.Name x p) ie tpos] X.env).map (·.2) = [assign (.Subscript (.Name x p) ie tpos) X.env] := by rfl)
    (ha : ∀ v, assign (.Subscript (.Name x p) ie tpos) X.env v = (do
      let ov ← holding [v] (eval (.Name x p) X.env)
      let iv ← holding [v, ov] (eval ie X.env)
      standAt tpos
      holding [v, ov, iv] (setItem ov iv v)
      release [v, ov, iv] []) := by intro _; rfl) : QS Γ W X (.Assign [.Subscript (.Name x p) ie tpos] e pos) (sSetIx i fi fe) := by
  obtain ⟨t, pt, k⟩ := he.ex
  obtain ⟨ti, pti, ki⟩ := hi.ex
  refine ⟨_, ps_asg pt (pg_sub (pe_var hN hv hd hcd) pti set_list ha) hs hw h1, fun C hC σ H P r D S h => ?_⟩
  refine k C hC σ H P r _ S (SCont.expr h fun y r1 P1 H1 t1 q v hv fv => ?_)
  cases e1 : settle r1 y with
  | none => unfold stl at q; simp only [e1, thenS] at q; exact q.elim
  | some z =>
    obtain ⟨d, r2⟩ := z
    unfold stl at q
    simp only [e1] at q
    cases n : isDic d with
    | true => rw [if_pos n] at q; exact q.elim
    | false =>
      rw [if_neg (by rw [n]; decide)] at q
      simp only [thenS] at q
      obtain ⟨P2, t2, s2, rp⟩ := t1.settle hv fv e1
      cases e2 : slotC r2 i with
      | none => simp only [e2] at q; exact q.elim
      | some c =>
        simp only [e2] at q
        obtain ⟨u, eu⟩ := slotC_val t2.sit e2
        refine ⟨u, eu, ?_⟩
        refine ki C hC σ H1 P2 r2 _ t2.sit (SCont.expr (SCont.from q t2.sub) fun w r3 P3 H3 t3 q3 vw hvw fw => ?_)
        have e3 : ∃ a, u = .ref a := by
          unfold setAt at q3
          split at q3
          · rename_i cs k' e4 e5
            obtain ⟨a, e', _⟩ := mutC_own t3.sit e4
            rw [eu] at e'; cases e'; exact ⟨a, rfl⟩
          · exact q3.elim
        obtain ⟨a, rfl⟩ := e3
        exact set_at t3.sit eu hvw (dp_sub t3.sub _ _ (rp_of rp n)) t3.sub q3
end
end Dn

end
section
/-! Dn10: calls of built-ins over data. -/
namespace Dn
open PySem L2
/-! ### sorting that can be reckoned -/
def insD {α : Type} (le : α → α → Bool) (a : α) : List α → List α
  | [] => [a]
  | b :: l => if le a b = true then a :: b :: l else b :: insD le a l
def isortD {α : Type} (le : α → α → Bool) (l : List α) : List α := l.foldr (insD le) []
theorem insD_at {α : Type} {le : α → α → Bool} {a : α} : ∀ {l₁ l₂ : List α}, (∀ b ∈ l₁, le a b = false) → (∀ b ∈ l₂, le a b = true) → insD le a (l₁ ++ l₂) = l₁ ++ a :: l₂
  | [], [], _, _ => rfl
  | [], b :: l, _, h => by show (if le a b = true then a :: b :: l else _) = _; rw [if_pos (h b List.mem_cons_self)]; rfl
  | c :: l₁, l₂, h1, h2 => by
    show (if le a c = true then a :: c :: (l₁ ++ l₂) else c :: insD le a (l₁ ++ l₂)) = _
    rw [if_neg (by rw [h1 c List.mem_cons_self]; decide), insD_at (fun b hb => h1 b (List.mem_cons_of_mem _ hb)) h2]
    rfl
theorem isort_eq {α : Type} {le : α → α → Bool} (tr : ∀ a b c, le a b = true → le b c = true → le a c = true) (to : ∀ a b, (le a b || le b a) = true) : ∀ l : List α, l.mergeSort le = isortD le l
  | [] => by rw [List.mergeSort_nil]; rfl
  | a :: l => by
    obtain ⟨l₁, l₂, h1, h2, h3⟩ := List.mergeSort_cons tr to a l
    have hp := List.pairwise_mergeSort tr to (a :: l)
    rw [h1] at hp
    have h4 : ∀ b ∈ l₂, le a b = true := fun b hb => (List.pairwise_cons.mp (List.pairwise_append.mp hp).2.1).1 b hb
    show _ = insD le a (isortD le l)
    rw [← isort_eq tr to l, h2, h1, insD_at (fun b hb => by simpa using h3 b hb) h4]
def leD (rev : Bool) (a b : D) : Bool := if rev = true then !PySem.W.dataLt a b else !PySem.W.dataLt b a
/-! ### what may be sorted -/
def alikeB (ds : List D) : Bool := ds.all fun d => ds.all fun e => PySem.W.alike d e
def isTup1 : D → Bool
  | .tuple (_ :: _) => true
  | _ => false
def noTup : D → Bool
  | .tuple _ => false
  | .none => false
  | _ => true
def sortB (ds : List D) : Bool := ds.all isTup1 || ds.all noTup
def depthB (ds : List D) : Bool := ds.all fun d => decide (d.depth ≤ 60)
theorem alikeB_of {ds : List D} (h : alikeB ds = true) : PySem.W.AllAlike ds := fun d hd e he => by
  have := List.all_eq_true.mp h d hd
  exact List.all_eq_true.mp this e he
theorem sortB_of {ds : List D} (h : sortB ds = true) : PySem.W.Sortable ds := by
  rcases Bool.or_eq_true_iff.mp h with h | h
  · refine .inl fun d hd => ?_
    have := List.all_eq_true.mp h d hd
    unfold isTup1 at this
    split at this
    · exact ⟨_, _, rfl⟩
    · cases this
  · refine .inr fun d hd => ?_
    have := List.all_eq_true.mp h d hd
    refine ⟨fun e => ?_, fun xs e => ?_⟩
    · rw [e] at this; cases this
    · rw [e] at this; cases this
theorem depthB_of {ds : List D} (h : depthB ds = true) : ∀ d ∈ ds, d.depth ≤ 60 := fun d hd => of_decide_eq_true (List.all_eq_true.mp h d hd)
theorem depthAll_le {n : Nat} : ∀ {ds : List D}, (∀ d ∈ ds, d.depth ≤ n) → PyData.depthAll ds ≤ n
  | [], _ => Nat.zero_le _
  | d :: ds, h => Nat.max_le.mpr ⟨h d List.mem_cons_self, depthAll_le fun e he => h e (List.mem_cons_of_mem _ he)⟩
section
variable {X : Cx} {pins : List (Addr × Obj)} {σ : St} {H : Hp} {s : Shared}
theorem each_rel : ∀ {vs : List V} {us : List Value} {ds : List D}, Vals vs us → vs.length = ds.length → PySem.W.EachIs (fun u (b : V × D) => RelV b.1 u) us (vs.zip ds)
  | _, _, [], .nil, _ => .nil
  | _, _, _ :: _, .nil, h => by cases h
  | _, _, [], .cons _ _, h => by cases h
  | v :: vs, u :: us, d :: ds, .cons a b, h => .cons a (each_rel b (by simpa using h))
theorem each_reads (I : Inv X pins σ H s) : ∀ {vs : List V} {us : List Value} {ds : List D}, Vals vs us → DpAll X.K H vs ds → PySem.W.EachIs (fun u (b : V × D) => ∃ as, Reads s.heap u b.2 as) us (vs.zip ds)
  | _, _, _, .nil, .nil => .nil
  | v :: vs, u :: us, d :: ds, .cons a b, .cons c e => .cons (Dp.reads I d v u c a) (each_reads I b e)
theorem dpa_len {K : PySem.W.Frag} : ∀ {vs : List V} {ds : List D}, DpAll K H vs ds → vs.length = ds.length
  | _, _, .nil => rfl
  | _, _, .cons _ b => by rw [List.length_cons, List.length_cons, dpa_len b]
theorem zip_snd : ∀ {vs : List V} {ds : List D}, vs.length = ds.length → (vs.zip ds).map (·.2) = ds
  | [], [], _ => rfl
  | [], _ :: _, h => by cases h
  | _ :: _, [], h => by cases h
  | v :: vs, d :: ds, h => by rw [List.zip_cons_cons, List.map_cons, zip_snd (by simpa using h)]
theorem zip_fst : ∀ {vs : List V} {ds : List D}, vs.length = ds.length → (vs.zip ds).map (·.1) = vs
  | [], [], _ => rfl
  | [], _ :: _, h => by cases h
  | _ :: _, [], h => by cases h
  | v :: vs, d :: ds, h => by rw [List.zip_cons_cons, List.map_cons, zip_fst (by simpa using h)]
theorem vals_each : ∀ {us : List Value} {bs : List (V × D)}, PySem.W.EachIs (fun u (b : V × D) => RelV b.1 u) us bs → Vals (bs.map (·.1)) us
  | _, _, .nil => .nil
  | _, _, .cons a b => .cons a (vals_each b)
def zipSort (rev : Bool) (vs : List V) (ds : List D) : List V := ((vs.zip ds).mergeSort fun a b => leD rev a.2 b.2).map (·.1)
def rSortD (K : PySem.W.Frag) (rev : Bool) : List V → Hp → VK → Prop := fun xs H Q => ∃ (a : Addr) (vs : List V) (ds : List D), xs = [V.ref a] ∧ SqL K H a vs ∧ DpAll K H vs ds ∧ alikeB ds = true ∧ sortB ds = true ∧ depthB ds = true ∧
  ∀ p, H p = none → Q (.ref p) (upd H p (.lst (zipSort rev vs ds)))
theorem sort_room {u n : Nat} (h : n ≤ 60) (hu : u + 66 < cLine) : u + 2 + n < cLine := by omega
theorem cr_sortedD (hu : X.A.units + 66 < cLine) : CallR X (.builtin "sorted") (rSortD X.K false) := by
  intro pins s σ H vs us Q I r h
  obtain ⟨a, xs, ds, rfl, hs, hd, h1, h2, h3, q⟩ := h
  obtain ⟨its, rv, hl, hz⟩ := I.list hs
  rw [Vals.ref1 r]
  have hlen := dpa_len hd
  have e1 := each_rel rv hlen
  have e2 := each_reads I rv hd
  have es := zip_snd hlen
  refine PySem.W.sorted_data (bs := xs.zip ds) (enc := (·.2)) hl.isList e1 e2 (by rw [es]; exact alikeB_of h1) (by rw [es]; exact sortB_of h2) (by rw [List.length_zip, ← hlen, Nat.min_self]; exact hz) (fun b hb => ?_) fun out hl2 ho => ?_
  · refine sort_room (depthB_of h3 b.2 ?_) hu
    rw [← es]
    exact List.mem_map.mpr ⟨b, hb, rfl⟩
  · obtain ⟨ep, he'⟩ := PyProof.Rows.sortedAll_at s.heap its out.toArray
    refine ⟨.ref _, upd H (s.heap.objs.size + 1) (.lst (zipSort false xs ds)), I.laid (t' := s.toks) (fun _ _ => PyProof.Rows.sortedAll_old) (Nat.le_succ _) ⟨?_, out, ep, vals_each ho, he'⟩, rfl, q _ (I.hok.fresh (Nat.le_succ _))⟩
    show (zipSort false xs ds).length ≤ sizeLine
    unfold zipSort
    rw [List.length_map, List.length_mergeSort, List.length_zip, ← hlen, Nat.min_self]
    exact hz
end
section
variable {P H : Hp}
theorem rp_pairs : ∀ {l : List (V × D)}, (∀ b ∈ l, Rp P b.1 b.2) → RpAll P (l.map (·.1)) (l.map (·.2))
  | [], _ => .nil
  | b :: l, h => .cons (h b List.mem_cons_self) (rp_pairs fun c hc => h c (List.mem_cons_of_mem _ hc))
theorem rp_zip : ∀ {vs : List V} {ds : List D}, RpAll P vs ds → ∀ b ∈ vs.zip ds, Rp P b.1 b.2
  | _, _, .nil, b, h => by cases h
  | _, _, .cons r t, b, h => by
    rw [List.zip_cons_cons] at h
    rcases List.mem_cons.mp h with e | h
    · rw [e]; exact r
    · exact rp_zip t b h
theorem leD_tot (rev : Bool) : PySem.W.TotalLe (leD rev) := by
  have := PySem.W.sortLe_total (PyProof.Rows.listOrd PyProof.Rows.itemOrd) rev (fun d : D => PySem.W.keyToks d)
  refine ⟨fun a b c h1 h2 => ?_, fun a b => ?_⟩
  · cases rev with
    | true => exact this.trans a b c h1 h2
    | false => exact this.trans a b c h1 h2
  · cases rev with
    | true => exact this.total a b
    | false => exact this.total a b
theorem leD_iso (rev : Bool) (ds : List D) : ds.mergeSort (leD rev) = isortD (leD rev) ds :=
  isort_eq (leD_tot rev).trans (fun a b => by
    rcases (leD_tot rev).total a b with h | h
    · rw [h]; rfl
    · rw [h]; exact Bool.or_true _) ds
theorem zipSort_rp {rev : Bool} {vs : List V} {ds : List D} (h : RpAll P vs ds) : RpAll P (zipSort rev vs ds) (isortD (leD rev) ds) := by
  have e : ((vs.zip ds).mergeSort fun a b => leD rev a.2 b.2).map (·.2) = isortD (leD rev) ds := by
    rw [List.map_mergeSort (s := leD rev) (f := fun b : V × D => b.2) (fun a _ b _ => rfl)]
    rw [show List.map (fun b : V × D => b.2) (vs.zip ds) = ds from zip_snd (RpAll.len h), leD_iso]
  rw [← e]
  unfold zipSort
  refine rp_pairs fun b hb => ?_
  exact rp_zip h b ((List.mergeSort_perm _ _).mem_iff.mp hb)
def sortsB (ds : List D) : Bool := alikeB ds && sortB ds && depthB ds && decide (ds.length ≤ 100000)
def gSorted (rev : Bool) : D → Option ORes
  | .list ds => if sortsB ds = true then some (.newL (isortD (leD rev) ds)) else none
  | _ => none
theorem o1_sorted {K : PySem.W.Frag} {rev : Bool} : Op1 (rSortD K rev) (gSorted rev) := by
  intro P H x d o Q p c e q
  unfold gSorted at e
  split at e
  · rename_i ds
    split at e
    · rename_i hb
      cases e
      obtain ⟨a, vs, rfl, ha, ra⟩ := ct_lst c
      unfold sortsB at hb
      simp only [Bool.and_eq_true] at hb
      exact ⟨a, vs, ds, rfl, SqL.of ha, dpa_part p _ _ ra, hb.1.1.1, hb.1.1.2, hb.1.2, fun n hn => q n _ hn (zipSort_rp ra)⟩
    · cases e
  · cases e
end
end Dn

end
section
/-! Dn11: more built-ins over data. -/
namespace Dn
open PySem L2
def notNoneB (ds : List D) : Bool := ds.all fun d => !isNone d
theorem alikeAll_of {ds : List D} (h : alikeB ds = true) (h' : notNoneB ds = true) : PySem.W.AlikeAll ds := ⟨fun d hd e he => alikeB_of h d hd e he, fun d hd e => by
  have := List.all_eq_true.mp h' d hd
  rw [e] at this; cases this⟩
section
variable {X : Cx}
def rBest (K : PySem.W.Frag) (b : D → List D → D) : List V → Hp → VK → Prop := fun xs H Q => ∃ (a : Addr) (vs : List V) (d : D) (ds : List D), xs = [V.ref a] ∧ (SqL K H a vs ∨ SqT K H a vs) ∧ DpAll K H vs (d :: ds) ∧ alikeB (d :: ds) = true ∧ notNoneB (d :: ds) = true ∧ depthB (d :: ds) = true ∧
  ∀ (i : Nat) (v : V), vs[i]? = some v → (d :: ds)[i]? = some (b d ds) → Q v H
theorem best_room {u n : Nat} (h : n ≤ 60) (hu : u + 66 < cLine) : u + 1 + n < cLine := by omega
theorem vals_at : ∀ {vs : List V} {us : List Value} {i : Nat} {u : Value}, Vals vs us → us[i]? = some u → ∃ v, vs[i]? = some v ∧ RelV v u
  | _, _, _, _, .nil, e => by simp at e
  | _, _, 0, _, .cons a _, e => by simp at e; subst e; exact ⟨_, rfl, a⟩
  | _, _, i + 1, _, .cons _ b, e => by
    obtain ⟨v, h1, h2⟩ := vals_at b (by simpa using e)
    exact ⟨v, by simpa using h1, h2⟩
theorem dpa_at {K : PySem.W.Frag} {H : Hp} : ∀ {vs : List V} {ds : List D} {i : Nat} {v : V}, DpAll K H vs ds → vs[i]? = some v → ∃ d, ds[i]? = some d ∧ Dp K H v d
  | _, _, _, _, .nil, e => by simp at e
  | _, _, 0, _, .cons a _, e => by simp at e; subst e; exact ⟨_, rfl, a⟩
  | _, _, i + 1, _, .cons _ b, e => by
    obtain ⟨v, h1, h2⟩ := dpa_at b (by simpa using e)
    exact ⟨v, by simpa using h1, h2⟩
/-- the found value is the one at its place -/
theorem best_at {pins : List (Addr × Obj)} {σ : St} {H : Hp} {s : Shared} (I : Inv X pins σ H s) {vs : List V} {us : List Value} {ds : List D} (rv : Vals vs us) (hd : DpAll X.K H vs ds) {i : Nat} {u : Value} {h' : Heap} {z : D} {bs : List Addr} (e : us[i]? = some u) (r : Reads h' u z bs)
    (k : ∀ b o, s.heap.get? b = some o → h'.get? b = some o) : ∃ v, vs[i]? = some v ∧ RelV v u ∧ ds[i]? = some z := by
  obtain ⟨v, hv, rv'⟩ := vals_at rv e
  obtain ⟨d, hd', dv⟩ := dpa_at hd hv
  obtain ⟨as, r1⟩ := Dp.reads I d v u dv rv'
  have r2 := PyProof.Rows.Reads.keeps k r1
  obtain ⟨e3, _⟩ := Reads.unique r2 _ _ r
  exact ⟨v, hv, rv', by rw [hd', e3]⟩
theorem cr_minD (hc : X.calm = true) (hu : X.A.units + 66 < cLine) : CallR X (.builtin "min") (rBest X.K PySem.W.minD) := by
  intro pins s σ H vs us Q I r h
  obtain ⟨a, xs, d, ds, rfl, hs, hd, h1, h2, h3, q⟩ := h
  rw [Vals.ref1 r]
  have hz := best_room (depthAll_le (depthB_of h3)) hu
  rcases hs with hs | hs
  · obtain ⟨its, rv, hl, _⟩ := I.list hs
    obtain ⟨as, ra⟩ := Dp.readsAll I _ _ _ hd rv
    refine PySem.W.min_list_data (I.ok.hd hc) hl.isList (by simpa using ra) (alikeAll_of h1 h2) hz fun i v h' tk bs e r' k => ?_
    obtain ⟨v', e1, e2, e3⟩ := best_at I rv hd (by simpa using e) r' k
    exact ⟨v', H, I.kept (t' := tk) k, e2, q i v' e1 e3⟩
  · obtain ⟨its, rv, hl, _⟩ := I.tuple hs
    obtain ⟨as, ra⟩ := Dp.readsAll I _ _ _ hd rv
    refine PySem.W.min_tuple_data (I.ok.hd hc) hl (by simpa using ra) (alikeAll_of h1 h2) hz fun i v h' tk bs e r' k => ?_
    obtain ⟨v', e1, e2, e3⟩ := best_at I rv hd (by simpa using e) r' k
    exact ⟨v', H, I.kept (t' := tk) k, e2, q i v' e1 e3⟩
theorem cr_maxD (hc : X.calm = true) (hu : X.A.units + 66 < cLine) : CallR X (.builtin "max") (rBest X.K PySem.W.maxD) := by
  intro pins s σ H vs us Q I r h
  obtain ⟨a, xs, d, ds, rfl, hs, hd, h1, h2, h3, q⟩ := h
  rw [Vals.ref1 r]
  have hz := best_room (depthAll_le (depthB_of h3)) hu
  rcases hs with hs | hs
  · obtain ⟨its, rv, hl, _⟩ := I.list hs
    obtain ⟨as, ra⟩ := Dp.readsAll I _ _ _ hd rv
    refine PySem.W.max_list_data (I.ok.hd hc) hl.isList (by simpa using ra) (alikeAll_of h1 h2) hz fun i v h' tk bs e r' k => ?_
    obtain ⟨v', e1, e2, e3⟩ := best_at I rv hd (by simpa using e) r' k
    exact ⟨v', H, I.kept (t' := tk) k, e2, q i v' e1 e3⟩
  · obtain ⟨its, rv, hl, _⟩ := I.tuple hs
    obtain ⟨as, ra⟩ := Dp.readsAll I _ _ _ hd rv
    refine PySem.W.max_tuple_data (I.ok.hd hc) hl (by simpa using ra) (alikeAll_of h1 h2) hz fun i v h' tk bs e r' k => ?_
    obtain ⟨v', e1, e2, e3⟩ := best_at I rv hd (by simpa using e) r' k
    exact ⟨v', H, I.kept (t' := tk) k, e2, q i v' e1 e3⟩
end
section
variable {P H : Hp} {K : PySem.W.Frag}
def bestB (ds : List D) : Bool := alikeB ds && notNoneB ds && depthB ds
def seqD : D → Option (List D)
  | .list ds => some ds
  | .tuple ds => some ds
  | _ => none
def gBest (b : D → List D → D) (d : D) : Option ORes := match seqD d with
  | some (x :: xs) => if bestB (x :: xs) = true then some (.val (b x xs)) else none
  | _ => none
theorem ct_seq {x : V} {d : D} {ds : List D} (p : Part P H) (c : Ct P H x d) (e : seqD d = some ds) : ∃ a vs, x = .ref a ∧ (SqL K H a vs ∨ SqT K H a vs) ∧ RpAll P vs ds := by
  cases d with
  | list xs => cases e; obtain ⟨a, vs, h1, h2, h3⟩ := ct_lst c; exact ⟨a, vs, h1, .inl (SqL.of h2), h3⟩
  | tuple xs => cases e; obtain ⟨a, vs, h1, _, h2, h3⟩ := ct_tup p c; exact ⟨a, vs, h1, .inr (SqT.of h2), h3⟩
  | _ => cases e
theorem o1_best {b : D → List D → D} : Op1 (rBest K b) (gBest b) := by
  intro P H x d o Q p c e q
  unfold gBest at e
  split at e
  · rename_i y ys es
    split at e
    · rename_i hb
      cases e
      obtain ⟨a, vs, rfl, hs, ra⟩ := ct_seq (K := K) p c es
      unfold bestB at hb
      simp only [Bool.and_eq_true] at hb
      refine ⟨a, vs, y, ys, rfl, hs, dpa_part p _ _ ra, hb.1.1, hb.1.2, hb.2, fun i v h1 h2 => ?_⟩
      obtain ⟨d', e1, e2⟩ := RpAll.getv ra h1
      rw [h2] at e1; cases e1
      exact q v (RepT.of e2)
    · cases e
  · cases e
/-! ### len -/
def gLen : D → Option ORes
  | .list ds => some (.val (.int ds.length))
  | .tuple ds => some (.val (.int ds.length))
  | .str x => if x.length ≤ 100000 then some (.val (.int x.length)) else none
  | _ => none
def rLen (K : PySem.W.Frag) : List V → Hp → VK → Prop := fun xs H Q => (∃ p ys, xs = [.ref p] ∧ (SqL K H p ys ∨ SqT K H p ys) ∧ Q (.int ys.length) H) ∨ ∃ z, xs = [.str z] ∧ z.length ≤ sizeLine ∧ Q (.int z.length) H
theorem cr_lenD {X : Cx} : CallR X (.builtin "len") (rLen X.K) := CallR.or call_len_seq call_len_str
theorem o1_len : Op1 (rLen K) gLen := by
  intro P H x d o Q p c e q
  unfold gLen at e
  split at e
  · cases e
    obtain ⟨a, vs, rfl, h1, h2⟩ := ct_lst c
    refine .inl ⟨a, vs, rfl, .inl (SqL.of h1), ?_⟩
    rw [RpAll.len h2]; exact oc_use_int q
  · cases e
    obtain ⟨a, vs, rfl, _, h1, h2⟩ := ct_tup p c
    refine .inl ⟨a, vs, rfl, .inr (SqT.of h1), ?_⟩
    rw [RpAll.len h2]; exact oc_use_int q
  · split at e
    · rename_i z hz
      cases e
      exact .inr ⟨_, by rw [ct_str c], len_line hz, oc_use_int q⟩
    · cases e
  · cases e
/-! ### abs, int, max, min of two -/
def gAbs : D → Option ORes
  | .int i => some (.val (.int (if i < 0 then -i else i)))
  | _ => none
theorem o1_abs : Op1 (fun xs H Q => ∃ i, xs = [.int i] ∧ Q (.int (if i < 0 then -i else i)) H) gAbs := by
  intro P H x d o Q p c e q
  unfold gAbs at e
  split at e
  · cases e; exact ⟨_, by rw [ct_int c], oc_use_int q⟩
  · cases e
def gInt : D → Option ORes
  | .int i => some (.val (.int i))
  | .bool b => some (.val (.int (if b then 1 else 0)))
  | _ => none
theorem o1_int : Op1 (fun xs H Q => (∃ i, xs = [.int i] ∧ Q (.int i) H) ∨ ∃ k, xs = [.bl k] ∧ Q (.int (if k then 1 else 0)) H) gInt := by
  intro P H x d o Q p c e q
  unfold gInt at e
  split at e
  · cases e; exact .inl ⟨_, by rw [ct_int c], oc_use_int q⟩
  · cases e; exact .inr ⟨_, by rw [ct_bool c], oc_use_int q⟩
  · cases e
def gMax2 : D → D → Option ORes
  | .int i, .int j => some (.val (.int (if j > i then j else i)))
  | _, _ => none
def gMin2 : D → D → Option ORes
  | .int i, .int j => some (.val (.int (if j < i then j else i)))
  | _, _ => none
theorem o2_max2 : Op2C (fun xs H Q => ∃ i j, xs = [.int i, .int j] ∧ Q (.int (if j > i then j else i)) H) gMax2 := by
  intro P H x y d e o Q p cx cy h q
  unfold gMax2 at h
  split at h
  · cases h; exact ⟨_, _, by rw [ct_int cx, ct_int cy], oc_use_int q⟩
  · cases h
theorem o2_min2 : Op2C (fun xs H Q => ∃ i j, xs = [.int i, .int j] ∧ Q (.int (if j < i then j else i)) H) gMin2 := by
  intro P H x y d e o Q p cx cy h q
  unfold gMin2 at h
  split at h
  · cases h; exact ⟨_, _, by rw [ct_int cx, ct_int cy], oc_use_int q⟩
  · cases h
/-! ### sum, list, tuple -/
def intsD : List D → Option (List Int)
  | [] => some []
  | .int i :: ds => (intsD ds).map (i :: ·)
  | _ :: _ => none
theorem rp_ints : ∀ {vs : List V} {ds : List D} {ns : List Int}, RpAll P vs ds → intsD ds = some ns → vs = ns.map V.int
  | _, _, _, .nil, e => by cases e; rfl
  | v :: vs, d :: ds, ns, .cons r t, e => by
    cases d with
    | int i =>
      obtain ⟨ms, e1, e2⟩ := Option.map_eq_some_iff.mp (show (intsD ds).map (i :: ·) = some ns from e)
      cases e2
      cases r
      rw [List.map_cons, rp_ints t e1]
    | _ => cases e
def gSum : D → Option ORes
  | .list ds => (intsD ds).map fun ns => .val (.int ns.sum)
  | .tuple ds => (intsD ds).map fun ns => .val (.int ns.sum)
  | _ => none
def rSumD (K : PySem.W.Frag) : List V → Hp → VK → Prop := fun vs H Q => ∃ (a : Addr) (ns : List Int), vs = [V.ref a] ∧ (SqL K H a (ns.map V.int) ∨ SqT K H a (ns.map V.int)) ∧ Q (.int ns.sum) H
theorem o1_sum : Op1 (rSumD K) gSum := by
  intro P H x d o Q p c e q
  unfold gSum at e
  split at e
  · obtain ⟨ns, e1, e2⟩ := Option.map_eq_some_iff.mp e
    cases e2
    obtain ⟨a, vs, rfl, h1, h2⟩ := ct_lst c
    have ev := rp_ints h2 e1
    subst ev
    exact ⟨a, ns, rfl, .inl (SqL.of h1), oc_use_int q⟩
  · obtain ⟨ns, e1, e2⟩ := Option.map_eq_some_iff.mp e
    cases e2
    obtain ⟨a, vs, rfl, _, h1, h2⟩ := ct_tup p c
    have ev := rp_ints h2 e1
    subst ev
    exact ⟨a, ns, rfl, .inr (SqT.of h1), oc_use_int q⟩
  · cases e
def gListOf (d : D) : Option ORes := (seqD d).map .newL
theorem o1_list : Op1 (fun xs H Q => ∃ p ys, xs = [.ref p] ∧ (SqL K H p ys ∨ SqT K H p ys) ∧ ∀ l, H l = none → Q (.ref l) (L2.upd H l (.lst ys))) gListOf := by
  intro P H x d o Q p c e q
  obtain ⟨ds, e1, e2⟩ := Option.map_eq_some_iff.mp e
  cases e2
  obtain ⟨a, vs, rfl, hs, ra⟩ := ct_seq (K := K) p c e1
  exact ⟨a, vs, rfl, hs, fun l hl => q l _ hl ra⟩
def gTupleOf : D → Option ORes
  | .list ds => some (.newT ds)
  | .tuple ds => some (.val (.tuple ds))
  | _ => none
theorem o1_tuple : Op1 (fun xs H Q => ∃ p ys, xs = [.ref p] ∧ ((SqL K H p ys ∧ ∀ l, H l = none → Q (.ref l) (L2.upd H l (.tup ys))) ∨ (SqT K H p ys ∧ Q (.ref p) H))) gTupleOf := by
  intro P H x d o Q p c e q
  unfold gTupleOf at e
  split at e
  · cases e
    obtain ⟨a, vs, rfl, h1, h2⟩ := ct_lst c
    exact ⟨a, vs, rfl, .inl ⟨SqL.of h1, fun l hl => q l _ hl h2⟩⟩
  · cases e
    obtain ⟨a, vs, rfl, _, h1, h2⟩ := ct_tup p c
    exact ⟨a, vs, rfl, .inr ⟨SqT.of h1, q _ c⟩⟩
  · cases e
end
section
open PyProof.Rows in
theorem sum_tup {prog : Program} {w : World} {A : Around} {E : Value → Shared → Prop} {s : Shared} {l : Addr} {its : List Value} {ns : List Int} {Q : Value → Shared → Prop} (hh : A.handled = none) (hl : s.heap.IsTuple l its.toArray) (hi : IntsAre its ns)
    (h : ∀ h' tk t', (∀ b o, s.heap.get? b = some o → h'.get? b = some o) → Q (.int ns.sum t') { s with heap := h', toks := tk }) : wpAny (model prog w) A (call (.builtin "sum") [.ref l]) Q E s := by
  obtain ⟨xs, e⟩ := hi.allInts.items
  have hn : numsOf (intItems xs).toList = ns := by rw [← e]; exact hi.numsOf
  rw [nums_intItems] at hn
  rw [e] at hl
  have hlt : l < s.heap.objs.size := by obtain ⟨_, z, _⟩ := hl; exact Heap.lt_size z
  refine call_sum_walkG (wpAny_pyIter_tuple hl ?_)
  refine ⟨_, [_, l], [_], _, _, _, numAt xs, rfl, Walks.tuple (A := A.in1) hh _ l (Nat.ne_of_lt hlt) (intItems xs), ⟨⟨_, Heap.get?_push_size _ rfl, rfl, rfl⟩, hl.push _⟩, fun b hb => ?_, (fun _ _ => intItems_at), fun h' tk t' hk => ?_⟩
  · show b < (s.heap.push _).objs.size
    rw [Heap.size_push]
    rcases List.mem_cons.mp hb with rfl | hb
    · exact Nat.lt_succ_self _
    · rw [List.mem_singleton.mp hb]; exact Nat.lt_succ_of_lt hlt
  · have := h h' tk t' fun b o e2 => hk b o (fun z => by
      rw [List.mem_singleton] at z
      subst z
      exact Nat.lt_irrefl _ (Heap.lt_size e2)) (Heap.get?_push_of_some _ e2)
    rw [preSum_eq, List.take_of_length_le (by simp [intItems]), hn]; exact this
theorem cr_sumD {X : Cx} (hc : X.calm = true) : CallR X (.builtin "sum") (rSumD X.K) := by
  intro pins s σ H vs us Q I r h
  obtain ⟨a, ns, rfl, hs | hs, q⟩ := h
  · obtain ⟨its, rv, hl, _⟩ := I.list hs
    rw [Vals.ref1 r]
    exact sum_raw (I.ok.hd hc) hl.isList rv.ints fun h' tk t' hk => ⟨.int _, H, I.kept hk, ⟨_, rfl⟩, q⟩
  · obtain ⟨its, rv, hl, _⟩ := I.tuple hs
    rw [Vals.ref1 r]
    exact sum_tup (I.ok.hd hc) hl rv.ints fun h' tk t' hk => ⟨.int _, H, I.kept hk, ⟨_, rfl⟩, q⟩
end
end Dn

end
section
/-! Dn12: what is walked; comprehensions. -/
namespace Dn
open PySem L2
/-! ### slots forgotten, slots given back -/
def wipeA (vs : List Nat) : Nat → Env → Env
  | _, [] => []
  | k, s :: r => (if vs.contains k = true then Slot.un else s) :: wipeA vs (k + 1) r
def wipeE (vs : List Nat) (r : Env) : Env := wipeA vs 0 r
def backA (vs : List Nat) : Nat → Env → Env → Env
  | k, s0 :: r0, s :: r => (if vs.contains k = true then s0 else s) :: backA vs (k + 1) r0 r
  | _, _, _ => []
/-- r, with r0's slots vs -/
def backE (vs : List Nat) (r0 r : Env) : Env := backA vs 0 r0 r
def freeS : Slot → Bool
  | .un => true
  | .fz _ => true
  | _ => false
/-- nothing at vs is owned -/
def clearB (vs : List Nat) (r : Env) : Bool := vs.all fun v => match r[v]? with
  | some s => freeS s
  | none => true
theorem wipeA_get {vs : List Nat} : ∀ {r : Env} {k j : Nat}, (wipeA vs k r)[j]? = r[j]?.map fun s => if k + j ∈ vs then Slot.un else s
  | [], k, j => by simp [wipeA]
  | s :: r, k, 0 => by simp [wipeA]
  | s :: r, k, j + 1 => by
    show (wipeA vs (k + 1) r)[j]? = _
    rw [wipeA_get (r := r), show k + 1 + j = k + (j + 1) by omega]
    simp
theorem wipeE_in {vs : List Nat} {r : Env} {j : Nat} (h : j ∈ vs) {s : Slot} (e : (wipeE vs r)[j]? = some s) : s = .un := by
  unfold wipeE at e
  rw [wipeA_get, Nat.zero_add, Option.map_eq_some_iff] at e
  obtain ⟨_, _, e⟩ := e
  rw [if_pos h] at e
  exact e.symm
theorem wipeE_out {vs : List Nat} {r : Env} {j : Nat} (h : j ∉ vs) : (wipeE vs r)[j]? = r[j]? := by
  unfold wipeE
  rw [wipeA_get, Nat.zero_add]
  cases r[j]? with
  | none => rfl
  | some s => simp [h]
theorem wipeA_len {vs : List Nat} : ∀ {r : Env} {k : Nat}, (wipeA vs k r).length = r.length
  | [], k => rfl
  | s :: r, k => by rw [wipeA, List.length_cons, List.length_cons, wipeA_len]
theorem wipeE_len {vs : List Nat} {r : Env} : (wipeE vs r).length = r.length := wipeA_len
theorem backA_get {vs : List Nat} : ∀ {r0 r : Env} {k j : Nat}, r0.length = r.length → (backA vs k r0 r)[j]? = if k + j ∈ vs then r0[j]? else r[j]?
  | [], [], k, j, _ => by simp [backA]
  | [], _ :: _, k, j, h => by cases h
  | _ :: _, [], k, j, h => by cases h
  | s0 :: r0, s :: r, k, 0, h => by
    by_cases hk : k ∈ vs
    · simp [backA, hk]
    · simp [backA, hk]
  | s0 :: r0, s :: r, k, j + 1, h => by
    show (backA vs (k + 1) r0 r)[j]? = _
    rw [backA_get (by simpa using h), show k + 1 + j = k + (j + 1) by omega]
    rfl
theorem backE_in {vs : List Nat} {r0 r : Env} {j : Nat} (h : r0.length = r.length) (hj : j ∈ vs) : (backE vs r0 r)[j]? = r0[j]? := by
  unfold backE; rw [backA_get h, Nat.zero_add, if_pos hj]
theorem backE_out {vs : List Nat} {r0 r : Env} {j : Nat} (h : r0.length = r.length) (hj : j ∉ vs) : (backE vs r0 r)[j]? = r[j]? := by
  unfold backE; rw [backA_get h, Nat.zero_add, if_neg hj]
theorem backA_len {vs : List Nat} : ∀ {r0 r : Env} {k : Nat}, r0.length = r.length → (backA vs k r0 r).length = r.length
  | [], [], k, _ => rfl
  | [], _ :: _, k, h => by cases h
  | _ :: _, [], k, h => by cases h
  | s0 :: r0, s :: r, k, h => by rw [backA, List.length_cons, List.length_cons, backA_len (by simpa using h)]
theorem wipe_get (σ : St) : ∀ (vs : List Nat) (j : Nat), (wipe σ vs)[j]? = if j ∈ vs then (σ[j]?).map fun _ => none else σ[j]?
  | [], j => by simp [wipe]
  | v :: vs, j => by
    unfold wipe
    by_cases h : v = j
    · subst h
      rw [if_pos List.mem_cons_self]
      cases e : σ[v]? with
      | none =>
        have : (wipe σ vs).length ≤ v := by rw [wipe_length]; exact List.getElem?_eq_none_iff.mp e
        rw [List.getElem?_eq_none (by rw [List.length_set]; exact this)]
        rfl
      | some s =>
        have : v < (wipe σ vs).length := by rw [wipe_length]; exact (List.getElem?_eq_some_iff.mp e).1
        rw [List.getElem?_set_self this]
        rfl
    · rw [List.getElem?_set_ne h, wipe_get σ vs j]
      by_cases h2 : j ∈ vs
      · rw [if_pos h2, if_pos (List.mem_cons_of_mem _ h2)]
      · rw [if_neg h2, if_neg (by rw [List.mem_cons, not_or]; exact ⟨Ne.symm h, h2⟩)]
theorem wipe_eq {σ σ2 : St} {vs : List Nat} (hl : σ2.length = σ.length) (h : ∀ j, j ∉ vs → σ2[j]? = (wipe σ vs)[j]?) : wipe σ2 vs = wipe σ vs := by
  refine List.ext_getElem? fun j => ?_
  rw [wipe_get, wipe_get]
  by_cases hj : j ∈ vs
  · rw [if_pos hj, if_pos hj]
    rcases Nat.lt_or_ge j σ.length with l | l
    · rw [List.getElem?_eq_getElem l, List.getElem?_eq_getElem (by omega)]; rfl
    · rw [List.getElem?_eq_none l, List.getElem?_eq_none (by omega)]
  · rw [if_neg hj, if_neg hj, h j hj, wipe_get, if_neg hj]
section
variable {C : Cfg} {P H P' H' : Hp} {σ σ2 : St} {r r1 r' : Env} {vs : List Nat}
/-- into a block: its own names are bare -/
theorem Sit.block (S : Sit C P H σ r) (vs : List Nat) : Sit C P H (wipe σ vs) (wipeE vs r) := by
  have ow : ∀ j b, Owns (wipe σ vs) (wipeE vs r) j b → Owns σ r j b := fun j b ⟨h1, d, h2⟩ => by
    by_cases hj : j ∈ vs
    · rcases h2 with h2 | h2 <;> (have := wipeE_in hj h2; cases this)
    · rw [wipeE_out hj] at h2
      rw [wipe_get, if_neg hj] at h1
      exact ⟨h1, d, h2⟩
  refine ⟨S.tabs, S.part, S.keep, S.old, fun j s es => ?_, by rw [wipe_length, wipeE_len]; exact S.len, fun j k b x y => S.own j k b (ow j b x) (ow k b y), S.newP⟩
  by_cases hj : j ∈ vs
  · rw [wipeE_in hj es]; trivial
  · rw [wipeE_out hj] at es
    rw [wipe_get, if_neg hj]
    exact S.slot j s es
/-- the same slots outside vs, nothing owned at vs -/
structure Like (vs : List Nat) (σ : St) (r : Env) (σ2 : St) (r1 : Env) : Prop where
  st : ∀ j, j ∉ vs → σ2[j]? = σ[j]?
  en : ∀ j, j ∉ vs → r1[j]? = r[j]?
  fr : ∀ j, j ∈ vs → ∀ s, r[j]? = some s → freeS s = true
  fr1 : ∀ j, j ∈ vs → ∀ s, r1[j]? = some s → freeS s = true
  sl : σ2.length = σ.length
theorem Like.own (L : Like vs σ r σ2 r1) (j : Nat) (a : Addr) : Owns σ2 r1 j a ↔ Owns σ r j a := by
  by_cases hj : j ∈ vs
  · constructor
    · rintro ⟨_, d, h | h⟩ <;> (have := L.fr1 j hj _ h; cases this)
    · rintro ⟨_, d, h | h⟩ <;> (have := L.fr j hj _ h; cases this)
  · unfold Owns
    rw [L.st j hj, L.en j hj]
/-- a step at σ2 from r1 is a step at σ from r, its end's slots at vs as those of r -/
theorem Like.tr (L : Like vs σ r σ2 r1) (S : Sit C P H σ r) (t : Tr C σ2 P H r1 P' H' r') : Tr C σ P H r P' H' (backE vs r r') := by
  have T := t.sit
  have ll : r.length = r'.length := by rw [← S.len, ← T.len, L.sl]
  have fr' : ∀ j, j ∈ vs → ∀ s a, r'[j]? = some s → σ2[j]? = some (some (.ref a)) → (∃ d, s = .ow d) ∨ (∃ d, s = .io d) → False := fun j hj s a es e2 hs => by
    have O : Owns σ2 r' j a := by
      rcases hs with ⟨d, rfl⟩ | ⟨d, rfl⟩
      · exact ⟨e2, d, .inl es⟩
      · exact ⟨e2, d, .inr es⟩
    obtain ⟨_, d, h | h⟩ := t.owns j a O
    · have := L.fr1 j hj _ h; cases this
    · have := L.fr1 j hj _ h; cases this
  have ow : ∀ j b, Owns σ (backE vs r r') j b → Owns σ2 r' j b := fun j b ⟨h1, d, h2⟩ => by
    by_cases hj : j ∈ vs
    · rw [backE_in ll hj] at h2
      rcases h2 with h2 | h2 <;> (have := L.fr j hj _ h2; cases this)
    · rw [backE_out ll hj] at h2
      exact ⟨by rw [L.st j hj]; exact h1, d, h2⟩
  refine ⟨⟨T.tabs, T.part, T.keep, T.old, fun j s es => ?_, by rw [backE, backA_len ll]; exact S.len.trans ll, fun j k b x y => T.own j k b (ow j b x) (ow k b y), T.newP⟩, t.sub, fun a o ea nt no => t.keep a o ea nt fun i z => no i ((L.own i a).mp z), fun a h => ?_, fun i a z => (L.own i a).mp (t.owns i a (ow i a z)), t.some⟩
  · by_cases hj : j ∈ vs
    · rw [backE_in ll hj] at es
      have k := S.slot j s es
      have f := L.fr j hj s es
      cases s with
      | un => trivial
      | fz d => obtain ⟨v, e, q⟩ := k; exact ⟨v, e, RepT.sub t.sub q⟩
      | ow d => cases f
      | io d => cases f
      | hid => cases f
    · rw [backE_out ll hj] at es
      have k := T.slot j s es
      rw [L.st j hj] at k
      exact k
  · rcases t.froz a h with z | z | ⟨i, z⟩
    · exact .inl z
    · exact .inr (.inl z)
    · exact .inr (.inr ⟨i, (L.own i a).mp z⟩)
end
end Dn

end
section
/-! Dn13: comprehensions. -/
namespace Dn
open PySem L2
/-- the item at a turn: none: nothing is known; some none: the end -/
abbrev Nxt := Nat → Env → Option (Option D)
/-- J walks as nx says, where the slots js hold what they held at σ0 -/
structure ItG (C : Cfg) (P0 : Hp) (σ0 : St) (js : List Nat) (J : It) (nx : Nxt) : Prop where
  item : ∀ (k : Nat) (H P : Hp) (σ : St) (r : Env) (d : D), Sit C P H σ r → Sub P0 P → (∀ j ∈ js, σ[j]? = σ0[j]?) → nx k r = some (some d) → J.go k H ∧ ∀ x H', J.yld k H x H' → ∃ P', Tr C σ P H r P' H' r ∧ Rp P' x d
  stop : ∀ (k : Nat) (H P : Hp) (σ : St) (r : Env), Sit C P H σ r → Sub P0 P → (∀ j ∈ js, σ[j]? = σ0[j]?) → nx k r = some none → J.stop k H
structure QIG (Γ : Tx) (W : WX) (X : Cx) (tg it : Expr) (js : List Nat) (f : Env → Out (Nxt × Nat)) : Prop where
  ex : ∃ wi, PI X tg it wi ∧ ∀ (C : Cfg), C.Of Γ → ∀ (σ : St) (H P : Hp) (r : Env) (R : It → Hp → Prop), Sit C P H σ r → Cont C W σ P H r (f r) (fun nx r' P' H' => ∀ J, ItG C P' σ js J nx.1 → R J H') → wi σ H R
/-- the parts of a list that does not change -/
def nxL (ds : List D) : Nxt := fun k _ => some ds[k]?
def fzIt (f : Env → Out (List D)) (r : Env) : Out (Nxt × Nat) := (f r).bind fun ds r1 => .ok (nxL ds, ds.length + 1) r1
section
variable {Γ : Tx} {W : WX} {X : Cx} {tg it : Expr}
theorem ItOk.gen {C : Cfg} {P0 : Hp} {J : It} {ds : List D} (h : ItOk C P0 J ds) (σ0 : St) : ItG C P0 σ0 [] J (nxL ds) := by
  refine ⟨fun k H P σ r d S s _ e => ?_, fun k H P σ r S s _ e => ?_⟩
  · have e : ds[k]? = some d := Option.some.inj e
    exact ⟨h.go k H P σ r S s (List.getElem?_eq_some_iff.mp e).1, fun x H' y => h.yld k H P σ r d x H' S s e y⟩
  · have e : ds[k]? = none := Option.some.inj e
    exact h.stop k H P σ r S s (List.getElem?_eq_none_iff.mp e)
theorem QI.gen {f : Env → Out (List D)} (h : QI Γ W X tg it f) : QIG Γ W X tg it [] (fzIt f) := by
  obtain ⟨wi, p, k⟩ := h.ex
  refine ⟨wi, p, fun C hC σ H P r R S q => ?_⟩
  exact k C hC σ H P r R S (q.bind fun ds r1 P1 H1 t1 q1 J hJ => q1 P1 H1 (Tr.refl t1.sit) J (hJ.gen σ))
end
/-! ### tests of a comprehension -/
structure QTs (Γ : Tx) (W : WX) (X : Cx) (es : List Expr) (f : Env → Out Bool) : Prop where
  ex : ∃ t, PTs X es t ∧ ∀ (C : Cfg), C.Of Γ → ∀ (σ : St) (H P : Hp) (r : Env) (Q : Bool → Hp → Prop), Sit C P H σ r → Cont C W σ P H r (f r) (fun b r' P' H' => Q b H') → t σ H Q
def tYesD (r : Env) : Out Bool := .ok true r
/-! ### the loop of a comprehension -/
def lcN (nx : Nxt) (G : D → Env → Option Env) (ft : Env → Out Bool) (fe : Env → Out Res) (vs : List Nat) : Nat → Nat → List D → Env → Out (List D)
  | 0, _, _, _ => .bad
  | n + 1, k, acc, r => match nx k r with
    | none => .bad
    | some none => .ok acc r
    | some (some d) => match G d r with
      | none => .bad
      | some r1 => match ft r1 with
        | .ok b r2 => if b = true then (match fe r2 with
            | .ok x r3 => match stl x r3 with
              | .ok e r4 => if acc.length < 100000 then lcN nx G ft fe vs n (k + 1) (acc ++ [e]) (wipeE vs r4) else .bad
              | _ => .bad
            | _ => .bad) else lcN nx G ft fe vs n (k + 1) acc (wipeE vs r2)
        | _ => .bad
def eLcN (vs : List Nat) (fi : Env → Out (Nxt × Nat)) (G : D → Env → Option Env) (ft : Env → Out Bool) (fe : Env → Out Res) (r : Env) : Out Res := (fi r).bind fun nx r1 => if clearB vs r1 = true then (match lcN nx.1 G ft fe vs nx.2 0 [] (wipeE vs r1) with
    | .ok ds r2 => .ok (.ow (.list ds)) (backE vs r1 r2)
    | _ => .bad) else .bad
section
variable {C : Cfg} {P H : Hp} {σ : St} {r : Env}
/-- a list that nobody knows is changed -/
theorem sit_poke {a : Addr} {o o' : HO} (S : Sit C P H σ r) (ho : H a = some o) (po : plainO o = true) (pn : P a = none) (h0 : C.H0 a = none) (no : ∀ i, ¬ Owns σ r i a) : Sit C P (L2.upd H a o') σ r := by
  refine ⟨S.tabs.write ho po, fun b u e => ?_, fun b u e nt nm => ?_, fun b e => ?_, fun j s es => ?_, S.len, S.own, S.newP⟩
  · have nb : b ≠ a := fun z => by rw [z, pn] at e; cases e
    rw [upd_ne nb]; exact S.part b u e
  · have nb : b ≠ a := fun z => by rw [z, h0] at e; cases e
    rw [upd_ne nb]; exact S.keep b u e nt nm
  · by_cases q : b = a
    · subst q; exact h0
    · rw [upd_ne q] at e; exact S.old b e
  · have k := S.slot j s es
    cases s with
    | un => trivial
    | hid => exact k
    | fz d => exact k
    | ow d =>
      obtain ⟨b, e, n, n0, q⟩ := k
      have nb : b ≠ a := fun z => no j (z ▸ ⟨e, d, .inl es⟩)
      exact ⟨b, e, n, n0, q.sub (Sub.refl P) (upd_ne nb)⟩
    | io d =>
      obtain ⟨b, e, n, n0, n1, q⟩ := k
      have nb : b ≠ a := fun z => no j (z ▸ ⟨e, d, .inr es⟩)
      exact ⟨b, e, n, n0, n1, q.sub (Sub.refl P) (upd_ne nb)⟩
/-- a step goes on over a poke of what was not there at its start -/
theorem tr_poke {P' H' : Hp} {r' : Env} {a : Addr} {o o' : HO} (t : Tr C σ P H r P' H' r') (hn : H a = none) (ho : H' a = some o) (po : plainO o = true) (pn : P' a = none) (h0 : C.H0 a = none) (no : ∀ i, ¬ Owns σ r' i a) : Tr C σ P H r P' (L2.upd H' a o') r' := by
  refine ⟨sit_poke t.sit ho po pn h0 no, t.sub, fun b u e nt nw => ?_, t.froz, t.owns, fun b u e => ?_⟩
  · rw [upd_ne (ne_of_none e hn)]; exact t.keep b u e nt nw
  · rw [upd_ne (ne_of_none e hn)]; exact t.some b u e
theorem tr_froz_none {P' H' : Hp} {r' : Env} {a : Addr} {o : HO} (t : Tr C σ P H r P' H' r') (ho : H a = some o) (pn : P a = none) (no : ∀ i, ¬ Owns σ r i a) (co : canOwn o = true := by rfl) : P' a = none := by
  cases q : P' a with
  | none => rfl
  | some u =>
    rcases t.froz a (by rw [q]; simp) with z | z | ⟨i, z⟩
    · exact (z pn).elim
    · have := z o ho
      rw [co] at this; cases this
    · exact (no i z).elim
end
section
variable {Γ : Tx} {W W0 : WX} {X : Cx} {elt tg iter : Expr} {ifs : List Expr} {scope : Scope} {own : List (Str × Nat)} {pos : Pos} {js is : List Nat} {fi : Env → Out (Nxt × Nat)} {G : D → Env → Option Env} {ft : Env → Out Bool} {fe : Env → Out Res}
/-- what the three walks of a comprehension share: no context in sight -/
theorem lc_body {C : Cfg} {g : TG} {tt : TT} {te : TE} (vs : List Nat)
    (kg : ∀ (v : V) (σ : St) (H P : Hp) (r r' : Env) (d : D) (Q : St → Hp → Prop), Sit C P H σ r → Rp P v d → G d r = some r' → (∀ σ', Sit C P H σ' r' → (∀ j, j ∉ is → σ'[j]? = σ[j]?) → Q σ' H) → g v σ H Q)
    (go : ∀ d r r', G d r = some r' → ∀ j, j ∉ is → r'[j]? = r[j]?) (gw : ∀ d r r', G d r = some r' → ∀ j, j ∈ is → ∀ s, r'[j]? = some s → ∃ e, s = .fz e) (gl : ∀ d r r', G d r = some r' → r'.length = r.length)
    (kt : ∀ (σ : St) (H P : Hp) (r : Env) (Q : Bool → Hp → Prop), Sit C P H σ r → Cont C W0 σ P H r (ft r) (fun b r' P' H' => Q b H') → tt σ H Q)
    (ke : ∀ (σ : St) (H P : Hp) (r : Env) (Q : VK), Sit C P H σ r → Cont C W0 σ P H r (fe r) (fun x r' P' H' => ∀ v, ResOk C P' H' σ r' v x → Fresh H v x → Q v H') → te σ H Q)
    (hj : ∀ j ∈ js, j ∉ vs) (hi : ∀ j ∈ is, j ∈ vs) {σ : St} {H P H1 P1 : Hp} {r r1 : Env} {Q : VK} {nx : Nxt × Nat} {J : It} (S : Sit C P H σ r) (t1 : Tr C σ P H r P1 H1 r1) (hJ : ItG C P1 σ js J nx.1)
    (q1 : Cont C W σ P1 H1 r1 (if clearB vs r1 = true then (match lcN nx.1 G ft fe vs nx.2 0 [] (wipeE vs r1) with
    | .ok ds r2 => .ok (.ow (.list ds)) (backE vs r1 r2)
    | _ => .bad) else .bad) (fun x r' P' H' => ∀ v, ResOk C P' H' σ r' v x → Fresh H v x → Q v H')) : tLc (fun _ H0 R => R J H0) g tt te vs σ H1 Q := by
  intro D hD
  by_cases hc : clearB vs r1 = true
  rotate_left
  · rw [if_neg hc] at q1; exact q1.elim
  rw [if_pos hc] at q1
  have cl : ∀ j, j ∈ vs → ∀ s, r1[j]? = some s → freeS s = true := fun j hj s es => by
    have := List.all_eq_true.mp hc j hj
    rw [es] at this
    exact this
  have S1 := t1.sit
  have h0 : C.H0 D = none := S1.old D hD
  have Sw := S1.block vs
  have Lw : Like vs σ r1 (wipe σ vs) (wipeE vs r1) := ⟨fun j h => by rw [wipe_get, if_neg h], fun j h => wipeE_out h, cl, fun j h s es => by rw [wipeE_in h es]; rfl, wipe_length ..⟩
  -- the invariant
  refine ⟨fun i m H2 => ∃ P2 r2 acc ds f, Tr C (wipe σ vs) P1 H1 (wipeE vs r1) P2 H2 r2 ∧ (∀ j ∈ vs, ∀ s, r2[j]? = some s → s = .un) ∧ H2 D = some (.lst acc) ∧ RpAll P2 acc ds ∧ P2 D = none ∧ m = f ∧
    Cont C W σ P1 H1 r1 (match lcN nx.1 G ft fe vs f i ds r2 with
      | .ok ds r2 => .ok (.ow (.list ds)) (backE vs r1 r2)
      | _ => .bad) (fun x r' P' H' => ∀ v, ResOk C P' H' σ r' v x → Fresh H v x → Q v H'), ?_, ?_⟩
  · have tn := Tr.new (o := .lst []) Sw hD
    exact ⟨nx.2, P1, wipeE vs r1, [], [], nx.2, tn, fun j h s es => wipeE_in h es, upd_same, .nil, S1.part.non hD, rfl, q1⟩
  · rintro i m H2 ⟨P2, r2, acc, ds, f, t2, un2, hDl, racc, pD, rfl, q2⟩
    have nD : ∀ j, ¬ Owns (wipe σ vs) r2 j D := fun j z => Sw.slotN hD j (t2.owns j D z)
    cases m with
    | zero => exact q2.elim
    | succ f =>
      unfold lcN at q2
      have pin : ∀ j ∈ js, (wipe σ vs)[j]? = σ[j]? := fun j h => by rw [wipe_get, if_neg (hj j h)]
      cases en : nx.1 i r2 with
      | none => simp only [en] at q2; exact q2.elim
      | some o =>
        cases o with
        | none =>
          simp only [en] at q2
          refine .inl ⟨hJ.stop i H2 P2 _ r2 t2.sit t2.sub pin en, ?_⟩
          have T := Lw.tr S1 t2
          refine q2 P2 H2 T (.ref D) ⟨D, rfl, pD, h0, ⟨acc, hDl, racc⟩, fun j z => ?_⟩ fun a e => ?_
          · exact S1.slotN hD j (T.owns j D z)
          · cases e
            cases q : H D with
            | none => rfl
            | some u => obtain ⟨u', z⟩ := t1.some D u q; rw [hD] at z; cases z
        | some d =>
          simp only [en] at q2
          obtain ⟨hgo, hy⟩ := hJ.item i H2 P2 _ r2 d t2.sit t2.sub pin en
          cases eg : G d r2 with
          | none => simp only [eg] at q2; exact q2.elim
          | some r3 =>
            simp only [eg] at q2
            refine .inr ⟨hgo, fun H' => ∃ m', m' = f ∧ ∃ P2 r2 acc ds, Tr C (wipe σ vs) P1 H1 (wipeE vs r1) P2 H' r2 ∧ (∀ j ∈ vs, ∀ s, r2[j]? = some s → s = .un) ∧ H' D = some (.lst acc) ∧ RpAll P2 acc ds ∧ P2 D = none ∧
              Cont C W σ P1 H1 r1 (match lcN nx.1 G ft fe vs f (i + 1) ds r2 with
                | .ok ds r2 => .ok (.ow (.list ds)) (backE vs r1 r2)
                | _ => .bad) (fun x r' P' H' => ∀ v, ResOk C P' H' σ r' v x → Fresh H v x → Q v H'), ?_, fun x H3 hyl => ?_⟩
            · rintro H' ⟨m', rfl, P2, r2, acc, ds, a1, a2, a3, a4, a5, a6⟩
              exact ⟨m', Nat.lt_succ_self _, P2, r2, acc, ds, m', a1, a2, a3, a4, a5, rfl, a6⟩
            · obtain ⟨P3, t3, rx⟩ := hy x H3 hyl
              refine kg x (wipe σ vs) H3 P3 r2 r3 d _ t3.sit rx eg fun σ3 S3 o3 => ?_
              have l3 : σ3.length = σ.length := by rw [S3.len, gl _ _ _ eg, ← t3.sit.len, wipe_length]
              refine ⟨wipe_eq l3 fun j hjv => o3 j fun z => hjv (hi j z), ?_⟩
              -- σ3, r3 are like wipe σ vs, r2
              have L3 : Like vs (wipe σ vs) r2 σ3 r3 := ⟨fun j h => o3 j fun z => h (hi j z), fun j h => go _ _ _ eg j fun z => h (hi j z), fun j h s es => by rw [un2 j h s es]; rfl, fun j h s es => by
                by_cases hjs : j ∈ is
                · obtain ⟨e, rfl⟩ := gw _ _ _ eg j hjs s es; rfl
                · rw [go _ _ _ eg j hjs] at es; rw [un2 j h s es]; rfl, by rw [l3, wipe_length]⟩
              have nD3 : ∀ j, ¬ Owns σ3 r3 j D := fun j z => nD j ((L3.own j D).mp z)
              have hD3 : H3 D = some (.lst acc) := t3.keep D _ hDl (fun ps e => by cases e) nD
              have pD3 : P3 D = none := tr_froz_none t3 hDl pD nD
              -- a state at σ3 behind, back to the block's start
              have back : ∀ P4 H4 r4, Tr C σ3 P3 H3 r3 P4 H4 r4 → Tr C (wipe σ vs) P1 H1 (wipeE vs r1) P4 H4 (wipeE vs r4) ∧ (∀ j ∈ vs, ∀ s, (wipeE vs r4)[j]? = some s → s = .un) ∧ H4 D = some (.lst acc) ∧ P4 D = none ∧ ∀ j, ¬ Owns σ3 r4 j D := fun P4 H4 r4 t4 => by
                have T := L3.tr t3.sit t4
                have ll : r2.length = r4.length := by rw [← t3.sit.len, ← t4.sit.len, L3.sl]
                have ee : backE vs r2 r4 = wipeE vs r4 := List.ext_getElem? fun j => by
                  by_cases h : j ∈ vs
                  · rw [backE_in ll h]
                    rcases Nat.lt_or_ge j r4.length with l | l
                    · have e2 : r2[j]? = some r2[j] := List.getElem?_eq_getElem (by omega)
                      have l' : j < (wipeE vs r4).length := by rw [wipeE_len]; exact l
                      have e4 : (wipeE vs r4)[j]? = some ((wipeE vs r4)[j]'l') := List.getElem?_eq_getElem l'
                      rw [e4, wipeE_in h e4, e2, un2 j h _ e2]
                    · rw [List.getElem?_eq_none (by omega), List.getElem?_eq_none (by rw [wipeE_len]; exact l)]
                  · rw [backE_out ll h, wipeE_out h]
                rw [ee] at T
                exact ⟨(t2.trans t3).trans T, fun j h s es => wipeE_in h es, t4.keep D _ hD3 (fun ps e => by cases e) nD3, tr_froz_none t4 hD3 pD3 nD3, fun j z => nD3 j (t4.owns j D z)⟩
              have ra3 : RpAll P3 acc ds := dpa_sub t3.sub _ _ racc
              refine kt σ3 H3 P3 r3 _ S3 ?_
              cases eft : ft r3 with
              | bad => simp only [eft] at q2; exact q2.elim
              | exn e r4 => simp only [eft] at q2; exact q2.elim
              | ok b r4 =>
                simp only [eft] at q2
                intro P4 H4 t4
                cases b with
                | false =>
                  rw [if_neg (by decide)] at q2
                  obtain ⟨b1, b2, b3, b4, _⟩ := back P4 H4 r4 t4
                  show if false = true then _ else _
                  rw [if_neg (by decide)]
                  exact ⟨f, rfl, P4, wipeE vs r4, acc, ds, b1, b2, b3, dpa_sub t4.sub _ _ ra3, b4, q2⟩
                | true =>
                  rw [if_pos rfl] at q2
                  show if true = true then _ else _
                  rw [if_pos rfl]
                  refine ke σ3 H4 P4 r4 _ t4.sit ?_
                  cases efe : fe r4 with
                  | bad => simp only [efe] at q2; exact q2.elim
                  | exn e r5 => simp only [efe] at q2; exact q2.elim
                  | ok y r5 =>
                    simp only [efe] at q2
                    intro P5 H5 t5 v hv fv
                    cases est : stl y r5 with
                    | bad => simp only [est] at q2; exact q2.elim
                    | exn e r6 => simp only [est] at q2; exact q2.elim
                    | ok e r6 =>
                      simp only [est] at q2
                      by_cases hl : ds.length < 100000
                      · rw [if_pos hl] at q2
                        have e1 : settle r5 y = some (e, r6) ∧ isDic e = false := by
                          unfold stl at est
                          cases ez : settle r5 y with
                          | none => rw [ez] at est; cases est
                          | some z =>
                            obtain ⟨d', r7⟩ := z
                            rw [ez] at est
                            cases nd : isDic d' with
                            | true => simp only [nd] at est; cases est
                            | false => simp only [nd] at est; cases est; exact ⟨rfl, nd⟩
                        obtain ⟨P6, t6, s6, rp⟩ := t5.settle hv fv e1.1
                        obtain ⟨b1, b2, b3, b4, b5⟩ := back P6 H5 r6 (t4.trans t6)
                        refine ⟨acc, b3, by rw [RpAll.len racc]; exact Nat.lt_of_lt_of_le hl (by decide), ?_⟩
                        refine ⟨f, rfl, P6, wipeE vs r6, acc ++ [v], ds ++ [e], tr_poke b1 hD b3 rfl b4 h0 (fun j z => Sw.slotN hD j (b1.owns j D z)), b2, upd_same, RpAll.app (dpa_sub (t4.sub.trans t6.sub) _ _ ra3) (.cons (rp_of rp e1.2) .nil), b4, q2⟩
                      · rw [if_neg hl] at q2; exact q2.elim
theorem lc_runC {C : Cfg} {wi : TI} {g : TG} {tt : TT} {te : TE} (vs : List Nat)
    (ki : ∀ (σ : St) (H P : Hp) (r : Env) (R : It → Hp → Prop), Sit C P H σ r → Cont C W σ P H r (fi r) (fun nx r' P' H' => ∀ J, ItG C P' σ js J nx.1 → R J H') → wi σ H R)
    (kg : ∀ (v : V) (σ : St) (H P : Hp) (r r' : Env) (d : D) (Q : St → Hp → Prop), Sit C P H σ r → Rp P v d → G d r = some r' → (∀ σ', Sit C P H σ' r' → (∀ j, j ∉ is → σ'[j]? = σ[j]?) → Q σ' H) → g v σ H Q)
    (go : ∀ d r r', G d r = some r' → ∀ j, j ∉ is → r'[j]? = r[j]?) (gw : ∀ d r r', G d r = some r' → ∀ j, j ∈ is → ∀ s, r'[j]? = some s → ∃ e, s = .fz e) (gl : ∀ d r r', G d r = some r' → r'.length = r.length)
    (kt : ∀ (σ : St) (H P : Hp) (r : Env) (Q : Bool → Hp → Prop), Sit C P H σ r → Cont C W0 σ P H r (ft r) (fun b r' P' H' => Q b H') → tt σ H Q)
    (ke : ∀ (σ : St) (H P : Hp) (r : Env) (Q : VK), Sit C P H σ r → Cont C W0 σ P H r (fe r) (fun x r' P' H' => ∀ v, ResOk C P' H' σ r' v x → Fresh H v x → Q v H') → te σ H Q)
    (hj : ∀ j ∈ js, j ∉ vs) (hi : ∀ j ∈ is, j ∈ vs) :
    ∀ (σ : St) (H P : Hp) (r : Env) (Q : VK), Sit C P H σ r → Cont C W σ P H r (eLcN vs fi G ft fe r) (fun x r' P' H' => ∀ v, ResOk C P' H' σ r' v x → Fresh H v x → Q v H') → tLc wi g tt te vs σ H Q := by
  intro σ H P r Q S q
  exact ki σ H P r _ S (q.bind fun nx r1 P1 H1 t1 q1 J hJ => lc_body vs kg go gw gl kt ke hj hi S t1 hJ q1)
theorem lc_run {wi : TI} {g : TG} {tt : TT} {te : TE} (vs : List Nat)
    (ki : ∀ (C : Cfg), C.Of Γ → ∀ (σ : St) (H P : Hp) (r : Env) (R : It → Hp → Prop), Sit C P H σ r → Cont C W σ P H r (fi r) (fun nx r' P' H' => ∀ J, ItG C P' σ js J nx.1 → R J H') → wi σ H R)
    (kg : ∀ (C : Cfg), C.Of Γ → ∀ (v : V) (σ : St) (H P : Hp) (r r' : Env) (d : D) (Q : St → Hp → Prop), Sit C P H σ r → Rp P v d → G d r = some r' → (∀ σ', Sit C P H σ' r' → (∀ j, j ∉ is → σ'[j]? = σ[j]?) → Q σ' H) → g v σ H Q)
    (go : ∀ d r r', G d r = some r' → ∀ j, j ∉ is → r'[j]? = r[j]?) (gw : ∀ d r r', G d r = some r' → ∀ j, j ∈ is → ∀ s, r'[j]? = some s → ∃ e, s = .fz e) (gl : ∀ d r r', G d r = some r' → r'.length = r.length)
    (kt : ∀ (C : Cfg), C.Of Γ → ∀ (σ : St) (H P : Hp) (r : Env) (Q : Bool → Hp → Prop), Sit C P H σ r → Cont C W0 σ P H r (ft r) (fun b r' P' H' => Q b H') → tt σ H Q)
    (ke : ∀ (C : Cfg), C.Of Γ → ∀ (σ : St) (H P : Hp) (r : Env) (Q : VK), Sit C P H σ r → Cont C W0 σ P H r (fe r) (fun x r' P' H' => ∀ v, ResOk C P' H' σ r' v x → Fresh H v x → Q v H') → te σ H Q)
    (hj : ∀ j ∈ js, j ∉ vs) (hi : ∀ j ∈ is, j ∈ vs) :
    ∀ (C : Cfg), C.Of Γ → ∀ (σ : St) (H P : Hp) (r : Env) (Q : VK), Sit C P H σ r → Cont C W σ P H r (eLcN vs fi G ft fe r) (fun x r' P' H' => ∀ v, ResOk C P' H' σ r' v x → Fresh H v x → Q v H') → tLc wi g tt te vs σ H Q := fun C hC => lc_runC vs (ki C hC) (kg C hC) go gw gl (kt C hC) (ke C hC) hj hi
end
/-! ### many contexts at once -/
section
variable {Γ : Tx} {W : WX} {ι : Type} {X : ι → Cx} {e : Expr}
theorem QE.all {f : Env → Out Res} (h : ∀ i, QE Γ W (X i) e f) : ∃ t, (∀ i, PE (X i) e t) ∧ ((∃ _ : ι, True) → ∀ (C : Cfg), C.Of Γ → ∀ (σ : St) (H P : Hp) (r : Env) (Q : VK), Sit C P H σ r → Cont C W σ P H r (f r) (fun x r' P' H' => ∀ v, ResOk C P' H' σ r' v x → Fresh H v x → Q v H') → t σ H Q) := by
  refine ⟨fun σ H Q => ∀ i, Classical.choose (h i).ex σ H Q, fun i => ⟨fun pins s σ H Q I q => (Classical.choose_spec (h i).ex).1.run pins s σ H Q I (q i)⟩, fun _ C hC σ H P r Q S q i => (Classical.choose_spec (h i).ex).2 C hC σ H P r Q S q⟩
theorem QTs.all {es : List Expr} {f : Env → Out Bool} (h : ∀ i, QTs Γ W (X i) es f) : ∃ t, (∀ i, PTs (X i) es t) ∧ ∀ (C : Cfg), C.Of Γ → ∀ (σ : St) (H P : Hp) (r : Env) (Q : Bool → Hp → Prop), Sit C P H σ r → Cont C W σ P H r (f r) (fun b r' P' H' => Q b H') → t σ H Q := by
  refine ⟨fun σ H Q => ∀ i, Classical.choose (h i).ex σ H Q, fun i => ⟨fun pins s σ H Q I q => (Classical.choose_spec (h i).ex).1.run pins s σ H Q I (q i)⟩, fun C hC σ H P r Q S q i => (Classical.choose_spec (h i).ex).2 C hC σ H P r Q S q⟩
theorem QG.all {is : List Nat} {G : D → Env → Option Env} (h : ∀ i, QG Γ (X i) e is G) : ∃ g, (∀ i, PG (X i) e g) ∧ ∀ (C : Cfg), C.Of Γ → ∀ (v : V) (σ : St) (H P : Hp) (r r' : Env) (d : D) (Q : St → Hp → Prop), Sit C P H σ r → Rp P v d → G d r = some r' → (∀ σ', Sit C P H σ' r' → (∀ j, j ∉ is → σ'[j]? = σ[j]?) → Q σ' H) → g v σ H Q := by
  refine ⟨fun v σ H Q => ∀ i, Classical.choose (h i).ex v σ H Q, fun i => ⟨fun pins s σ H v u Q I r q => (Classical.choose_spec (h i).ex).1.run pins s σ H v u Q I r (q i)⟩, fun C hC v σ H P r r' d Q S rp e q i => (Classical.choose_spec (h i).ex).2 C hC v σ H P r r' d Q S rp e q⟩
theorem QIG.all {tg it : Expr} {js : List Nat} {f : Env → Out (Nxt × Nat)} (h : ∀ i, QIG Γ W (X i) tg it js f) : ∃ wi, (∀ i, PI (X i) tg it wi) ∧ ∀ (C : Cfg), C.Of Γ → ∀ (σ : St) (H P : Hp) (r : Env) (R : It → Hp → Prop), Sit C P H σ r → Cont C W σ P H r (f r) (fun nx r' P' H' => ∀ J, ItG C P' σ js J nx.1 → R J H') → wi σ H R := by
  refine ⟨fun σ H R => ∀ i, Classical.choose (h i).ex σ H R, fun i => ⟨fun pins s σ H R I q => (Classical.choose_spec (h i).ex).1.run pins s σ H R I (q i)⟩, fun C hC σ H P r R S q i => (Classical.choose_spec (h i).ex).2 C hC σ H P r R S q⟩
end
/-- nothing is let out -/
def WN : WX := fun _ _ _ _ => False
theorem takes_N {X : Cx} : Takes X WN := fun u s' ⟨a, B, sI, pins, σ, H, cls, d, e, I, nb, up, sky, na, os, ag, w⟩ => w.elim
/-- within a comprehension's block -/
abbrev Ctx5 := Shared × Hp × Addr × List (Str × Addr) × List Addr
abbrev bx (X : Cx) (scope : Scope) (i : Ctx5) : Cx := X.blk i.1 i.2.1 scope (compEnvC scope i.2.2.2.1 i.2.2.1 X.env) i.2.2.2.2
section
variable {Γ : Tx} {W : WX} {X : Cx} {elt tg iter : Expr} {ifs : List Expr} {scope : Scope} {own : List (Str × Nat)} {pos : Pos} {js is : List Nat} {fi : Env → Out (Nxt × Nat)} {G : D → Env → Option Env} {ft : Env → Out Bool} {fe : Env → Out Res}
theorem qts_nil : QTs Γ W X [] tYesD := ⟨_, pts_nil, fun C hC σ H P r Q S q => q P H (Tr.refl S)⟩
theorem qts_one {c : Expr} {f : Env → Out Bool} (h : QT Γ W X c f) : QTs Γ W X [c] f := by
  obtain ⟨t, p, k⟩ := h.ex
  exact ⟨t, pts_one p, k⟩
theorem qe_lcN (hc : X.calm = true) (hN : X.N.Nodup) (hi : QIG Γ W X tg iter js fi) (ok : BlkOk X.N X.env.scope scope own)
    (hg : ∀ i : Ctx5, QG Γ (bx X scope i) tg is G) (ht : ∀ i : Ctx5, QTs Γ WN (bx X scope i) ifs ft) (he : ∀ i : Ctx5, QE Γ WN (bx X scope i) elt fe)
    (hj : ∀ j ∈ js, j ∉ own.map (·.2)) (hs : ∀ j ∈ is, j ∈ own.map (·.2)) (hf : ∀ x, foldedSetIterable iter X.env x = pure x := by intro _; rfl) :
    QE Γ W X (.ListComp elt [⟨tg, iter, ifs, 0⟩] scope pos) (eLcN (own.map (·.2)) fi G ft fe) := by
  obtain ⟨wi, p, ki⟩ := hi.ex
  obtain ⟨g, pg, kg⟩ := QG.all hg
  obtain ⟨tt, pt, kt⟩ := QTs.all ht
  obtain ⟨te, pe, ke⟩ := QE.all he
  have one : ∃ _ : Ctx5, True := ⟨(⟨X.s_0, X.H_0, 0, [], []⟩ : Ctx5), trivial⟩
  refine ⟨_, pe_lc hc hN p ok (fun s H C cl fp => pg (s, H, C, cl, fp)) (fun s H C cl fp => pt (s, H, C, cl, fp)) (fun s H C cl fp => pe (s, H, C, cl, fp)) hf, ?_⟩
  have q0 := hg (X.s_0, X.H_0, 0, [], [])
  exact lc_run (own.map (·.2)) ki kg q0.out q0.own q0.len kt (ke one) hj hs
theorem qs_setLcN {i : Nat} {y : Str} {py spos : Pos} (hc : X.calm = true) (hN : X.N.Nodup) (hy : X.N[i]? = some y) (hyl : X.env.scope.names.lookup y = some .local) (hsw : swapsWith (.ListComp elt [⟨tg, iter, ifs, 0⟩] scope pos) (some (.Name y py)) spos.line X.env = pure true)
    (hi : QIG Γ W X tg iter js fi) (ok : BlkOk X.N X.env.scope scope own)
    (hg : ∀ i : Ctx5, QG Γ (bx X scope i) tg is G) (ht : ∀ i : Ctx5, QTs Γ WN (bx X scope i) ifs ft) (he : ∀ i : Ctx5, QE Γ WN (bx X scope i) elt fe)
    (hj : ∀ j ∈ js, j ∉ own.map (·.2)) (hs : ∀ j ∈ is, j ∈ own.map (·.2)) (hf : ∀ x, foldedSetIterable iter X.env x = pure x := by intro _; rfl) :
    QS Γ W X (.Assign [.Name y py] (.ListComp elt [⟨tg, iter, ifs, 0⟩] scope pos) spos) (sSet i (eLcN (own.map (·.2)) fi G ft fe)) := by
  obtain ⟨wi, p, ki⟩ := hi.ex
  obtain ⟨g, pg, kg⟩ := QG.all hg
  obtain ⟨tt, pt, kt⟩ := QTs.all ht
  obtain ⟨te, pe, ke⟩ := QE.all he
  have one : ∃ _ : Ctx5, True := ⟨(⟨X.s_0, X.H_0, 0, [], []⟩ : Ctx5), trivial⟩
  refine ⟨_, ps_setLc hc hN hy hyl hsw p ok (fun s H C cl fp => pg (s, H, C, cl, fp)) (fun s H C cl fp => pt (s, H, C, cl, fp)) (fun s H C cl fp => pe (s, H, C, cl, fp)) hf, fun C hC σ H P r D S h => ?_⟩
  have q0 := hg (X.s_0, X.H_0, 0, [], [])
  exact lc_run (own.map (·.2)) ki kg q0.out q0.own q0.len kt (ke one) hj hs C hC σ H P r _ S (SCont.expr (o := eLcN (own.map (·.2)) fi G ft fe r) (g := fun x r1 => put i x r1) (E := D) h fun y r1 P1 H1 t1 q v hv fv => put_ok t1 hv q)
end
/-! ### over a list that does not change -/
def lcD (G : D → Env → Option Env) (ft : Env → Out Bool) (fe : Env → Out Res) (vs : List Nat) : List D → List D → Env → Out (List D)
  | [], acc, r => .ok acc r
  | d :: ds, acc, r => match G d r with
    | none => .bad
    | some r1 => match ft r1 with
      | .ok b r2 => if b = true then (match fe r2 with
          | .ok x r3 => match stl x r3 with
            | .ok e r4 => if acc.length < 100000 then lcD G ft fe vs ds (acc ++ [e]) (wipeE vs r4) else .bad
            | _ => .bad
          | _ => .bad) else lcD G ft fe vs ds acc (wipeE vs r2)
      | _ => .bad
def eLc (vs : List Nat) (fi : Env → Out (List D)) (G : D → Env → Option Env) (ft : Env → Out Bool) (fe : Env → Out Res) (r : Env) : Out Res := (fi r).bind fun ds r1 => if clearB vs r1 = true then (match lcD G ft fe vs ds [] (wipeE vs r1) with
    | .ok ds r2 => .ok (.ow (.list ds)) (backE vs r1 r2)
    | _ => .bad) else .bad
theorem lcN_D {G : D → Env → Option Env} {ft : Env → Out Bool} {fe : Env → Out Res} {vs : List Nat} {ds : List D} : ∀ (n k : Nat) (acc : List D) (r : Env), n + k = ds.length + 1 → lcN (nxL ds) G ft fe vs n k acc r = if k ≤ ds.length then lcD G ft fe vs (ds.drop k) acc r else .bad
  | 0, k, acc, r, h => by rw [if_neg (by omega)]; rfl
  | n + 1, k, acc, r, h => by
    rw [if_pos (by omega)]
    unfold lcN
    rcases Nat.lt_or_ge k ds.length with l | l
    · rw [List.drop_eq_getElem_cons l]
      have en : nxL ds k r = some (some ds[k]) := by unfold nxL; rw [List.getElem?_eq_getElem l]
      rw [en]
      simp only [lcD]
      have ih := fun acc r => lcN_D (G := G) (ft := ft) (fe := fe) (vs := vs) (ds := ds) n (k + 1) acc r (by omega)
      simp only [ih, if_pos (show k + 1 ≤ ds.length from l)]
    · rw [List.drop_of_length_le l]
      have en : nxL ds k r = some none := by unfold nxL; rw [List.getElem?_eq_none l]
      rw [en]
      rfl
theorem eLcN_D {vs : List Nat} {fi : Env → Out (List D)} {G : D → Env → Option Env} {ft : Env → Out Bool} {fe : Env → Out Res} : eLcN vs (fzIt fi) G ft fe = eLc vs fi G ft fe := by
  funext r
  unfold eLcN eLc fzIt
  cases fi r with
  | bad => rfl
  | exn e r1 => rfl
  | ok ds r1 =>
    show (if clearB vs r1 = true then (match lcN (nxL ds) G ft fe vs (ds.length + 1) 0 [] (wipeE vs r1) with
      | .ok ds r2 => (.ok (.ow (.list ds)) (backE vs r1 r2) : Out Res)
      | _ => .bad) else .bad) = _
    rw [lcN_D (ds.length + 1) 0 [] _ rfl, if_pos (Nat.zero_le _)]
    rfl
section
variable {Γ : Tx} {W : WX} {X : Cx} {elt tg iter : Expr} {ifs : List Expr} {scope : Scope} {own : List (Str × Nat)} {pos : Pos} {is : List Nat} {fi : Env → Out (List D)} {G : D → Env → Option Env} {ft : Env → Out Bool} {fe : Env → Out Res}
theorem qe_lc (hc : X.calm = true) (hN : X.N.Nodup) (hi : QI Γ W X tg iter fi) (ok : BlkOk X.N X.env.scope scope own)
    (hg : ∀ i : Ctx5, QG Γ (bx X scope i) tg is G) (ht : ∀ i : Ctx5, QTs Γ WN (bx X scope i) ifs ft) (he : ∀ i : Ctx5, QE Γ WN (bx X scope i) elt fe)
    (hs : ∀ j ∈ is, j ∈ own.map (·.2)) (hf : ∀ x, foldedSetIterable iter X.env x = pure x := by intro _; rfl) :
    QE Γ W X (.ListComp elt [⟨tg, iter, ifs, 0⟩] scope pos) (eLc (own.map (·.2)) fi G ft fe) := by
  rw [← eLcN_D]
  exact qe_lcN hc hN hi.gen ok hg ht he (fun j h => by cases h) hs hf
theorem qs_setLc {i : Nat} {y : Str} {py spos : Pos} (hc : X.calm = true) (hN : X.N.Nodup) (hy : X.N[i]? = some y) (hyl : X.env.scope.names.lookup y = some .local) (hsw : swapsWith (.ListComp elt [⟨tg, iter, ifs, 0⟩] scope pos) (some (.Name y py)) spos.line X.env = pure true)
    (hi : QI Γ W X tg iter fi) (ok : BlkOk X.N X.env.scope scope own)
    (hg : ∀ i : Ctx5, QG Γ (bx X scope i) tg is G) (ht : ∀ i : Ctx5, QTs Γ WN (bx X scope i) ifs ft) (he : ∀ i : Ctx5, QE Γ WN (bx X scope i) elt fe)
    (hs : ∀ j ∈ is, j ∈ own.map (·.2)) (hf : ∀ x, foldedSetIterable iter X.env x = pure x := by intro _; rfl) :
    QS Γ W X (.Assign [.Name y py] (.ListComp elt [⟨tg, iter, ifs, 0⟩] scope pos) spos) (sSet i (eLc (own.map (·.2)) fi G ft fe)) := by
  rw [← eLcN_D]
  exact qs_setLcN hc hN hy hyl hsw hi.gen ok hg ht he (fun j h => by cases h) hs hf
end
end Dn

end
section
/-! Dn14: what may be walked. -/
namespace Dn
open PySem L2
open PyProof.Rows hiding St
/-! ### a list or a tuple, as it comes -/
def iSeq (K : PySem.W.Frag) (tl : TE) : TI := fun σ H R => tl σ H fun x H1 => ∃ a, x = .ref a ∧ (((∃ xs, SqL K H1 a xs) ∧ R (Itl K a) H1) ∨ ((∃ xs, SqT K H1 a xs) ∧ R (Itt K a) H1))
theorem pi_seq {X : Cx} {tg l : Expr} {tl : TE} (hl : PE X l tl) : PI X tg l (iSeq X.K tl) := by
  refine ⟨fun pins s σ H R I h => ?_⟩
  refine thn (hl.run pins s σ H _ I h) fun v s1 ⟨x, H1, I1, r1, q1⟩ => ?_
  obtain ⟨a, e, q1⟩ := q1
  subst e
  cases r1
  rcases q1 with ⟨⟨xs, hq⟩, q⟩ | ⟨⟨xs, hq⟩, q⟩
  · obtain ⟨its, rv, p, hz⟩ := I1.list hq
    refine wpAny_pyIter_list p.isList ?_
    refine ⟨s1.heap.objs.size, [s1.heap.objs.size], _, _, H1, rfl, I1.kept (t' := s1.toks) fun b o e => Heap.get?_push_of_some _ e, turn_list a _, ⟨_, Heap.get?_push_size _ rfl, rfl, rfl⟩, fun b hb => ?_, q⟩
    have e : b = s1.heap.objs.size := by simpa using hb
    subst e
    exact I1.fpOk (Nat.le_refl _) (I1.hok.fresh (Nat.le_refl _))
  · obtain ⟨its, rv, p, hz⟩ := I1.tuple hq
    refine wpAny_pyIter_tuple (show s1.heap.IsTuple a its.toArray from p) ?_
    refine ⟨s1.heap.objs.size, [s1.heap.objs.size], _, _, H1, rfl, I1.kept (t' := s1.toks) fun b o e => Heap.get?_push_of_some _ e, turn_tuple a _, ⟨_, Heap.get?_push_size _ rfl, rfl, rfl⟩, fun b hb => ?_, q⟩
    have e : b = s1.heap.objs.size := by simpa using hb
    subst e
    exact I1.fpOk (Nat.le_refl _) (I1.hok.fresh (Nat.le_refl _))
section
variable {C : Cfg} {P : Hp} {K : PySem.W.Frag}
theorem it_list {a : Addr} {ds : List D} (h : Rp P (.ref a) (.list ds)) : ItOk C P (Itl K a) ds := by
  cases h with
  | lst r1 r2 =>
    rename_i vs
    have at' : ∀ {H P' : Hp} {σ : St} {r : Env}, Sit C P' H σ r → Sub P P' → SqL K H a vs := fun S s => SqL.of (S.part.lst (s _ _ r1))
    refine ⟨fun i H P' σ r S s hi => ?_, fun i H P' σ r d x H' S s e y => ?_, fun i H P' σ r S s hi => ?_⟩
    · exact ⟨vs, vs[i]'(by rw [RpAll.len r2]; exact hi), at' S s, List.getElem?_eq_getElem _⟩
    · obtain ⟨rfl, y⟩ := y
      have hx := y vs (at' S s)
      obtain ⟨v, e1, e2⟩ := RpAll.get r2 e
      rw [hx] at e1; cases e1
      exact ⟨P', Tr.refl S, dp_sub s _ _ e2⟩
    · exact ⟨vs, at' S s, by rw [RpAll.len r2]; exact hi⟩
theorem it_tup {a : Addr} {ds : List D} (h : Rp P (.ref a) (.tuple ds)) : ItOk C P (Itt K a) ds := by
  cases h with
  | tup r1 r2 =>
    rename_i vs
    have at' : ∀ {H P' : Hp} {σ : St} {r : Env}, Sit C P' H σ r → Sub P P' → SqT K H a vs := fun S s => SqT.of (S.part.tup (s _ _ r1))
    refine ⟨fun i H P' σ r S s hi => ?_, fun i H P' σ r d x H' S s e y => ?_, fun i H P' σ r S s hi => ?_⟩
    · exact ⟨vs, vs[i]'(by rw [RpAll.len r2]; exact hi), at' S s, List.getElem?_eq_getElem _⟩
    · obtain ⟨rfl, y⟩ := y
      have hx := y vs (at' S s)
      obtain ⟨v, e1, e2⟩ := RpAll.get r2 e
      rw [hx] at e1; cases e1
      exact ⟨P', Tr.refl S, dp_sub s _ _ e2⟩
    · exact ⟨vs, at' S s, by rw [RpAll.len r2]; exact hi⟩
end
section
variable {Γ : Tx} {W : WX} {X : Cx} {tg a b : Expr} {fa fb : Env → Out Res} {p pos : Pos}
def wSeq (f : Env → Out Res) (r : Env) : Out (List D) := (f r).bind fun x r1 => (stl x r1).bind fun d r2 => match seqD d with
  | some ds => .ok ds r2
  | none => .bad
theorem qi_seq (h : QE Γ W X a fa) : QI Γ W X tg a (wSeq fa) := by
  obtain ⟨t, p, k⟩ := h.ex
  refine ⟨_, pi_seq p, fun C hC σ H P r R S q => ?_⟩
  refine k C hC σ H P r _ S (Cont.expr q fun x r1 P1 H1 v t1 hv fv q1 => ?_)
  obtain ⟨d, r2, P2, t2, s2, rp, q2⟩ := Cont.stl t1 hv fv q1
  cases d with
  | list ds =>
    have q3 : Cont C W σ P2 H1 r2 (.ok ds r2) _ := q2
    cases rp with
    | lst r1 r3 => exact ⟨_, rfl, .inl ⟨⟨_, SqL.of (t2.sit.part.lst r1)⟩, q3 P2 H1 (Tr.refl t2.sit) _ (it_list (.lst r1 r3))⟩⟩
  | tuple ds =>
    have q3 : Cont C W σ P2 H1 r2 (.ok ds r2) _ := q2
    cases rp with
    | tup r1 r3 => exact ⟨_, rfl, .inr ⟨⟨_, SqT.of (t2.sit.part.tup r1)⟩, q3 P2 H1 (Tr.refl t2.sit) _ (it_tup (.tup r1 r3))⟩⟩
  | _ => exact q2.elim
/-! ### ranges -/
def rngL : Int → Nat → List D
  | _, 0 => []
  | lo, n + 1 => .int lo :: rngL (lo + 1) n
theorem rngL_len : ∀ (lo : Int) (n : Nat), (rngL lo n).length = n
  | _, 0 => rfl
  | lo, n + 1 => by rw [rngL, List.length_cons, rngL_len]
theorem rngL_get : ∀ (lo : Int) (n i : Nat), i < n → (rngL lo n)[i]? = some (.int (lo + i))
  | _, 0, i, h => by omega
  | lo, n + 1, 0, _ => by simp [rngL]
  | lo, n + 1, i + 1, h => by
    rw [rngL, List.getElem?_cons_succ, rngL_get (lo + 1) n i (by omega)]
    congr 2
    omega
theorem it_rng {C : Cfg} {P : Hp} (lo : Int) (n : Nat) : ItOk C P (Itr lo n) (rngL lo n) := by
  refine ⟨fun i H P' σ r S s hi => ?_, fun i H P' σ r d x H' S s e y => ?_, fun i H P' σ r S s hi => ?_⟩
  · rw [rngL_len] at hi; exact hi
  · obtain ⟨rfl, rfl⟩ := y
    have hi : i < n := by rw [← rngL_len lo n]; exact (List.getElem?_eq_some_iff.mp e).1
    rw [rngL_get lo n i hi] at e
    cases e
    exact ⟨P', Tr.refl S, .int _⟩
  · rw [rngL_len] at hi; exact hi
def smallI (i : Int) : Bool := decide (-1000000 ≤ i) && decide (i ≤ 1000000)
theorem smallI_of {i : Int} (h : smallI i = true) : -(2 ^ 62) ≤ i ∧ i < 2 ^ 62 := by
  unfold smallI at h
  simp only [Bool.and_eq_true, decide_eq_true_eq] at h
  omega
def wRng1 (f : Env → Out (List D)) (r : Env) : Out (List D) := (f r).bind fun ds r1 => match ds with
  | [.int j] => if smallI j = true then .ok (rngL 0 j.toNat) r1 else .bad
  | _ => .bad
def wRng2 (f : Env → Out (List D)) (r : Env) : Out (List D) := (f r).bind fun ds r1 => match ds with
  | [.int i, .int j] => if smallI i = true ∧ smallI j = true then .ok (rngL i (j - i).toNat) r1 else .bad
  | _ => .bad
theorem qi_range1 {f : Env → Out (List D)} (hg : Gl X "range") (hm : X.mg "range" = none) (h : QF Γ W X [a] f) (hs : starEach [a] X.env = [(false, eval a X.env)] := by rfl) : QI Γ W X tg (.Call (.Name "range" p) [a] [] pos) (wRng1 f) := by
  obtain ⟨t, p, k⟩ := h.ex
  refine ⟨_, pi_range1 hg hm p hs, fun C hC σ H P r R S q => ?_⟩
  refine k C hC σ H P r _ S (q.bind fun ds r1 P1 H1 t1 q1 vs hvs => ?_)
  replace q1 : Cont C W σ P1 H1 r1 (match ds with
    | [.int j] => if smallI j = true then .ok (rngL 0 j.toNat) r1 else .bad
    | _ => .bad) _ := q1
  split at q1
  · rename_i j
    obtain ⟨v, rfl, rv⟩ := rp_one (v := .non) hvs
    cases rv
    by_cases hj : smallI j = true
    · rw [if_pos hj] at q1
      have hb := smallI_of hj
      exact ⟨j, rfl, hb.1, hb.2, q1 P1 H1 (Tr.refl t1.sit) _ (it_rng 0 j.toNat)⟩
    · rw [if_neg hj] at q1; exact q1.elim
  · exact q1.elim
theorem qi_range2 {f : Env → Out (List D)} (hg : Gl X "range") (hm : X.mg "range" = none) (h : QF Γ W X [a, b] f) (hs : starEach [a, b] X.env = [(false, eval a X.env), (false, eval b X.env)] := by rfl) (hs2 : starEach [b] X.env = [(false, eval b X.env)] := by rfl) :
    QI Γ W X tg (.Call (.Name "range" p) [a, b] [] pos) (wRng2 f) := by
  obtain ⟨t, p, k⟩ := h.ex
  refine ⟨_, pi_range2 hg hm p hs hs2, fun C hC σ H P r R S q => ?_⟩
  refine k C hC σ H P r _ S (q.bind fun ds r1 P1 H1 t1 q1 vs hvs => ?_)
  replace q1 : Cont C W σ P1 H1 r1 (match ds with
    | [.int i, .int j] => if smallI i = true ∧ smallI j = true then .ok (rngL i (j - i).toNat) r1 else .bad
    | _ => .bad) _ := q1
  split at q1
  · rename_i i j
    cases hvs with
    | cons r0 hvs =>
      obtain ⟨v, rfl, rv⟩ := rp_one (v := .non) hvs
      cases rv
      cases r0
      by_cases hj : smallI i = true ∧ smallI j = true
      · rw [if_pos hj] at q1
        have hb := smallI_of hj.1
        have hb2 := smallI_of hj.2
        exact ⟨i, j, rfl, ⟨hb.1, hb.2, hb2.1, hb2.2⟩, q1 P1 H1 (Tr.refl t1.sit) _ (it_rng i (j - i).toNat)⟩
      · rw [if_neg hj] at q1; exact q1.elim
  · exact q1.elim
/-! ### the list of a slot, as it stands at each turn (m turns more than items at the start) -/
def nxO (i : Nat) : Nxt := fun k r => match mutC r i with
  | some (.list ds) => some ds[k]?
  | _ => none
def wLive (m i : Nat) (r : Env) : Out (Nxt × Nat) := match mutC r i with
  | some (.list ds) => .ok (nxO i, ds.length + 1 + m) r
  | _ => .bad
theorem it_live {C : Cfg} {P H : Hp} {σ : St} {r : Env} {i : Nat} {a : Addr} {K : PySem.W.Frag} (e : σ[i]? = some (some (.ref a))) : ItG C P σ [i] (Itl K a) (nxO i) := by
  have at' : ∀ {H P' : Hp} {σ' : St} {r : Env} {c : D}, Sit C P' H σ' r → (∀ j ∈ [i], σ'[j]? = σ[j]?) → mutC r i = some c → Holds P' H a c := fun S hp hc => by
    have := hp i (List.mem_singleton.mpr rfl)
    rw [e] at this
    exact (own_addr S this hc).1
  refine ⟨fun k H P' σ' r d S s hp en => ?_, fun k H P' σ' r S s hp en => ?_⟩
  · unfold nxO at en
    split at en
    · rename_i ds em
      have ed : ds[k]? = some d := Option.some.inj en
      obtain ⟨vs, h1, h2⟩ := at' S hp em
      obtain ⟨v, e1, e2⟩ := RpAll.get h2 ed
      refine ⟨⟨vs, v, SqL.of h1, e1⟩, fun x H' y => ?_⟩
      obtain ⟨rfl, y⟩ := y
      have := y vs (SqL.of h1)
      rw [e1] at this; cases this
      exact ⟨P', Tr.refl S, e2⟩
    · cases en
  · unfold nxO at en
    split at en
    · rename_i ds em
      have ed : ds[k]? = none := Option.some.inj en
      obtain ⟨vs, h1, h2⟩ := at' S hp em
      exact ⟨vs, SqL.of h1, by rw [RpAll.len h2]; exact List.getElem?_eq_none_iff.mp ed⟩
    · cases en
theorem qi_live (m i : Nat) {x : Str} (hN : X.N[i]? = some x := by rfl) (hv : Vis X.env.scope x := by first | exact Or.inl rfl | exact Or.inr (Or.inl rfl) | exact Or.inr (Or.inr rfl)) (hd : (x == ("__debug__" : Str)) = false := by decide)
    (hcd : (x == ("__classdict__" : Str)) = false := by decide) : QIG Γ W X tg (.Name x p) [i] (wLive m i) := by
  refine ⟨_, pi_list (pe_var hN hv hd hcd), fun C hC σ H P r R S q => ?_⟩
  unfold wLive at q
  split at q
  · rename_i ds em
    obtain ⟨a, e, _, hh, O, _⟩ := mutC_own S em
    obtain ⟨vs, h1, h2⟩ := hh
    exact ⟨.ref a, e, a, rfl, ⟨vs, SqL.of h1⟩, q P H (Tr.refl S) _ (it_live (P := P) (H := H) (r := r) e)⟩
  · exact q.elim
end
end Dn

end
section
/-! Dn15: raise, try; loops over a list that changes. -/
namespace Dn
open PySem L2
section
variable {Γ : Tx} {W : WX} {X : Cx}
def sRaise (e : Ex) (r : Env) : Out Fl := .exn e r
theorem qs_raise (e : Ex) {x m : Str} {Ca : Addr} {B newId initId : String} {bmB : List Value} {j : Nat} {p p2 pos rpos : Pos} (hc : X.calm = true) (tk : Takes X W) (F : ExcBaseFacts B newId initId bmB) (q : PySem.W.excIn X.K Ca bmB newId = true) (gC : X.mg x = some (.ref Ca)) (kC : PySem.W.keepIn X.K (.ref Ca) = true)
    (rs : Raises X (.ref Ca)) (hg : Gl X x) (hcls : Γ.cls e = .ref Ca) (hdb : (x == ("__debug__" : Str)) = false := by decide) : QS Γ W X (.Raise (some (.Call (.Name x p) [.Constant (.str m) j p2] [] pos)) none rpos) (sRaise e) := by
  refine ⟨_, ps_raise hc tk (pmk_own F q gC kC rs hg hdb), fun C hC σ H P r D S h => ?_⟩
  have := h P H σ S (Sub.refl P) none
  rw [hC.2.2, hcls] at this
  exact this
/-! ### try: one clause without a name -/
def sTry (catch_ : Ex → Bool) (f g : Env → Out Fl) (r : Env) : Out Fl := match f r with
  | .exn e r1 => if catch_ e = true then (match g r1 with
      | .exn _ _ => .bad
      | o => o) else .exn e r1
  | o => o
theorem SCont.calm {C : Cfg} {W W' : WX} {P : Hp} {o : Out Fl} {E : Ends} (h : SCont C W P (match o with
      | .exn _ _ => .bad
      | o => o) E) : SCont C W' P o E := by
  cases o with
  | ok fl r => cases fl <;> exact h
  | exn e r => exact h.elim
  | bad => exact h.elim
theorem qs_try (catch_ : Ex → Bool) {x : Str} {c : Value} {body suite : List Stmt} {b₀ : Stmt} {np pos pos' : Pos} {f g : Env → Out Fl} (hs : X.stack = X.env :: X.outer) (hf : X.env.frame = some X.env.locals) (hn : Names X x c) (tk : Takes X W) (hx : ∀ e, PySem.W.exmOne X.K (Γ.cls e) c = some (catch_ e))
    (hb : ∀ (W' : WX) (pn : List (Addr × Obj)) (xe : Value → Shared → Prop), Takes (X.tr pn xe) W' → PassesOwn (model X.prog X.w) X.A X.env xe → QSs Γ W' (X.tr pn xe) body f)
    (hsu : ∀ (a : Addr) (pn : List (Addr × Obj)), QSs Γ WN (X.suite a pn) (b₀ :: suite) g) : QS Γ W X (.Try body [.ExceptHandler (some (.Name x np)) none (b₀ :: suite) pos'] [] [] pos) (sTry catch_ f g) := by
  refine ⟨_, ps_try_only (tb := fun W' D σ H => ∀ (pn : List (Addr × Obj)) (xe : Value → Shared → Prop) (h1 : Takes (X.tr pn xe) W') (h2 : PassesOwn (model X.prog X.w) X.A X.env xe), Classical.choose (hb W' pn xe h1 h2).ex D σ H)
    (ts := fun a _ _ D σ H => ∀ pn : List (Addr × Obj), Classical.choose (hsu a pn).ex D σ H) (Wout := W) hs hf hn tk
    (fun W' pn xe h1 h2 => ⟨fun pins s σ H D I q => (Classical.choose_spec (hb W' pn xe h1 h2).ex).1.run pins s σ H D I (q pn xe h1 h2)⟩)
    (fun a oe cls d pn _ _ => ⟨fun pins s σ H D I q => (Classical.choose_spec (hsu a ((a, oe) :: pn)).ex).1.run pins s σ H D I (q _)⟩), fun C hC σ H P r D S h => ?_⟩
  intro pn xe h1 h2
  refine (Classical.choose_spec (hb _ pn xe h1 h2).ex).2 C hC σ H P r D S ?_
  have h' : SCont C W P (match f r with
    | .exn e r1 => if catch_ e = true then (match g r1 with
      | .exn _ _ => .bad
      | o => o) else .exn e r1
    | o => o) D := h
  cases o : f r with
  | bad => rw [o] at h'; exact h'.elim
  | ok fl r1 =>
    rw [o] at h'
    cases fl with
    | nx => exact h'
    | bk => exact h'
    | ct => exact h'
    | rt x => exact h'
  | exn e r1 =>
    rw [o] at h'
    intro P' H' σ' S' s' dd
    refine ⟨catch_ e, by rw [hC.2.2]; exact hx e, fun hy a ha pn2 => ?_, fun hno => ?_⟩
    · have h2 : SCont C W P (if catch_ e = true then (match g r1 with
        | .exn _ _ => .bad
        | o => o) else .exn e r1) D := h'
      rw [if_pos hy] at h2
      exact (Classical.choose_spec (hsu a pn2).ex).2 C hC σ' H' P' r1 D S' (SCont.calm (SCont.from h2 s'))
    · have h2 : SCont C W P (if catch_ e = true then (match g r1 with
        | .exn _ _ => .bad
        | o => o) else .exn e r1) D := h'
      rw [if_neg (by rw [hno]; decide)] at h2
      exact h2 P' H' σ' S' s' dd
end
end Dn

end
section
/-! Dn16: for over the list of a slot, as it stands at each turn. -/
namespace Dn
open PySem L2
def loopL (i : Nat) (G : D → Env → Option Env) (b : Env → Out Fl) : Nat → Nat → Env → Out Fl
  | 0, _, _ => .bad
  | n + 1, k, r => match r[i]? with
    | some (.io (.list ds)) => match ds[k]? with
      | none => .ok .nx r
      | some d => match G d r with
        | none => .bad
        | some r1 => match b r1 with
          | .ok .nx r2 => loopL i G b n (k + 1) r2
          | .ok .ct r2 => loopL i G b n (k + 1) r2
          | .ok .bk r2 => .ok .nx r2
          | .ok (.rt x) r2 => .ok (.rt x) r2
          | .exn e r2 => .exn e r2
          | .bad => .bad
    | _ => .bad
def unpin (i : Nat) (r : Env) : Option Env := match r[i]? with
  | some (.io d) => some (r.set i (.ow d))
  | _ => none
def unpinO (i : Nat) (o : Out Fl) : Out Fl := match o with
  | .ok fl r => match unpin i r with
    | some r' => .ok fl r'
    | none => .bad
  | .exn e r => match unpin i r with
    | some r' => .exn e r'
    | none => .bad
  | .bad => .bad
def sForL (m i : Nat) (G : D → Env → Option Env) (b : Env → Out Fl) (r : Env) : Out Fl := match r[i]? with
  | some (.ow (.list ds)) => unpinO i (loopL i G b (ds.length + 1 + m) 0 (r.set i (.io (.list ds))))
  | some (.io (.list ds)) => loopL i G b (ds.length + 1 + m) 0 r
  | _ => .bad
/-- slot i is at a, by the configuration -/
def Cfg.pin (C : Cfg) (i : Nat) (a : Addr) : Cfg := { C with M := a :: C.M, hid := fun k => if k = i then .ref a else C.hid k }
section
variable {C : Cfg} {P H : Hp} {σ : St} {r : Env} {i : Nat} {a : Addr} {d : D}
theorem kd_set_ow (hi : i < r.length) (d' : D) (j : Nat) : kd (r.set i (.ow d'))[j]? = if j = i then 2 else kd r[j]? := by
  by_cases e : j = i
  · subst e; rw [if_pos rfl, List.getElem?_set_self hi]; rfl
  · rw [if_neg e, List.getElem?_set_ne (Ne.symm e)]
theorem kd_set_io (hi : i < r.length) (d' : D) (j : Nat) : kd (r.set i (.io d'))[j]? = if j = i then 4 else kd r[j]? := by
  by_cases e : j = i
  · subst e; rw [if_pos rfl, List.getElem?_set_self hi]; rfl
  · rw [if_neg e, List.getElem?_set_ne (Ne.symm e)]
theorem owns_set_io (h : r[i]? = some (.ow d)) {j : Nat} {b : Addr} : Owns σ (r.set i (.io d)) j b ↔ Owns σ r j b := by
  have hi : i < r.length := (List.getElem?_eq_some_iff.mp h).1
  rw [owns_kd, owns_kd, kd_set_io hi]
  by_cases e : j = i
  · subst e; rw [if_pos rfl, h]; simp [kd]
  · rw [if_neg e]
theorem owns_set_ow (h : r[i]? = some (.io d)) {j : Nat} {b : Addr} : Owns σ (r.set i (.ow d)) j b ↔ Owns σ r j b := by
  have hi : i < r.length := (List.getElem?_eq_some_iff.mp h).1
  rw [owns_kd, owns_kd, kd_set_ow hi]
  by_cases e : j = i
  · subst e; rw [if_pos rfl, h]; simp [kd]
  · rw [if_neg e]
theorem Sit.pin (S : Sit C P H σ r) (h : r[i]? = some (.ow d)) (e : σ[i]? = some (some (.ref a))) : Sit (C.pin i a) P H σ (r.set i (.io d)) := by
  have hi : i < r.length := (List.getElem?_eq_some_iff.mp h).1
  refine ⟨S.tabs, S.part, fun b o eb nt nm => S.keep b o eb nt fun z => nm (List.mem_cons_of_mem _ z), S.old, fun j s es => ?_, by rw [List.length_set]; exact S.len, fun j k b x y => S.own j k b ((owns_set_io h).mp x) ((owns_set_io h).mp y), fun b hb => (S.newP b hb).imp id (Or.imp (List.mem_cons_of_mem _) id)⟩
  by_cases hj : j = i
  · subst hj
    rw [List.getElem?_set_self hi] at es
    cases es
    obtain ⟨b, e2, n, n0, q⟩ := S.slot j _ h
    rw [e] at e2; cases e2
    exact ⟨a, e, n, if_pos rfl, List.mem_cons_self, q⟩
  · rw [List.getElem?_set_ne (Ne.symm hj)] at es
    have k := S.slot j s es
    cases s with
    | un => trivial
    | hid => show σ[j]? = some (some (if j = i then V.ref a else C.hid j)); rw [if_neg hj]; exact k
    | fz d => exact k
    | ow d => exact k
    | io d =>
      obtain ⟨b, e2, n, n0, n1, q⟩ := k
      exact ⟨b, e2, n, by show (if j = i then V.ref a else C.hid j) = _; rw [if_neg hj]; exact n0, List.mem_cons_of_mem _ n1, q⟩
theorem Sit.unpin (S : Sit (C.pin i a) P H σ r) (h0 : C.H0 a = none) (h : r[i]? = some (.io d)) : Sit C P H σ (r.set i (.ow d)) := by
  have hi : i < r.length := (List.getElem?_eq_some_iff.mp h).1
  obtain ⟨b, e2, n, n0, n1, q⟩ := S.slot i _ h
  have eb : b = a := by
    have : (if i = i then V.ref a else C.hid i) = .ref b := n0
    rw [if_pos rfl] at this
    cases this; rfl
  subst eb
  refine ⟨S.tabs, S.part, fun c o ec nt nm => S.keep c o ec nt fun z => ?_, S.old, fun j s es => ?_, by rw [List.length_set]; exact S.len, fun j k c x y => S.own j k c ((owns_set_ow h).mp x) ((owns_set_ow h).mp y), fun c hc => by
    rcases S.newP c hc with z | z | z
    · exact .inl z
    · rcases List.mem_cons.mp z with z | z
      · exact .inr (.inr (NewT.no (by rw [z]; exact h0)))
      · exact .inr (.inl z)
    · exact .inr (.inr z)⟩
  · rcases List.mem_cons.mp z with z | z
    · rw [z, h0] at ec; cases ec
    · exact nm z
  · by_cases hj : j = i
    · subst hj
      rw [List.getElem?_set_self hi] at es
      cases es
      exact ⟨b, e2, n, h0, q⟩
    · rw [List.getElem?_set_ne (Ne.symm hj)] at es
      have k := S.slot j s es
      cases s with
      | un => trivial
      | hid =>
        have k : σ[j]? = some (some (if j = i then V.ref b else C.hid j)) := k
        rw [if_neg hj] at k; exact k
      | fz d => exact k
      | ow d => exact k
      | io d' =>
        obtain ⟨c, e3, m, m0, m1, q'⟩ := k
        have m0 : (if j = i then V.ref b else C.hid j) = .ref c := m0
        rw [if_neg hj] at m0
        refine ⟨c, e3, m, m0, ?_, q'⟩
        rcases List.mem_cons.mp m1 with z | z
        · exact (hj (S.own j i b ⟨z ▸ e3, d', .inr es⟩ ⟨e2, d, .inr h⟩)).elim
        · exact z
theorem unpin_some {r' : Env} (h : unpin i r = some r') : ∃ d, r[i]? = some (.io d) ∧ r' = r.set i (.ow d) := by
  unfold unpin at h
  split at h
  · rename_i d e; cases h; exact ⟨d, e, rfl⟩
  · cases h
/-- what is wished behind, for the pinned configuration -/
theorem SCont.pin {W : WX} {o : Out Fl} {E : Ends} (h0 : C.H0 a = none) (h : SCont C W P (unpinO i o) E) : SCont (C.pin i a) W P o E := by
  cases o with
  | bad => exact h.elim
  | exn e r =>
    unfold unpinO at h
    cases u : Dn.unpin i r with
    | none => simp only [u] at h; exact h.elim
    | some r2 =>
      simp only [u] at h
      obtain ⟨d, e1, rfl⟩ := unpin_some u
      exact fun P' H' σ' S s => h P' H' σ' (S.unpin h0 e1) s
  | ok fl r =>
    unfold unpinO at h
    cases u : Dn.unpin i r with
    | none => simp only [u] at h; exact h.elim
    | some r2 =>
      simp only [u] at h
      obtain ⟨d, e1, rfl⟩ := unpin_some u
      cases fl with
      | nx => exact fun P' H' σ' S s => h P' H' σ' (S.unpin h0 e1) s
      | bk => exact fun P' H' σ' S s => h P' H' σ' (S.unpin h0 e1) s
      | ct => exact fun P' H' σ' S s => h P' H' σ' (S.unpin h0 e1) s
      | rt x =>
        intro P' H' σ' v S s hv
        refine h P' H' σ' v (S.unpin h0 e1) s ?_
        cases x with
        | fz d => exact hv
        | bw j => exact hv
        | ow d =>
          obtain ⟨b, e, n, n0, q, no⟩ := hv
          exact ⟨b, e, n, n0, q, fun j z => no j ((owns_set_ow e1).mp z)⟩
end
section
variable {Γ : Tx} {W : WX} {X : Cx}
theorem forL_run {C : Cfg} (hC : C.Of Γ) {a : Addr} {i : Nat} {is : List Nat} {g : TG} {tb : TS} {G : D → Env → Option Env} {f : Env → Out Fl} {P H : Hp} {σ : St} {r : Env} {E : Ends} {n : Nat}
    (kg : ∀ (C : Cfg), C.Of Γ → ∀ (v : V) (σ : St) (H P : Hp) (r r' : Env) (d : D) (Q : St → Hp → Prop), Sit C P H σ r → Rp P v d → G d r = some r' → (∀ σ', Sit C P H σ' r' → (∀ j, j ∉ is → σ'[j]? = σ[j]?) → Q σ' H) → g v σ H Q)
    (kb : ∀ (C : Cfg), C.Of Γ → ∀ (σ : St) (H P : Hp) (r : Env) (D : Ends), Sit C P H σ r → SCont C W P (f r) D → tb D σ H)
    (hid : C.hid i = .ref a) (S : Sit C P H σ r) (h : SCont C W P (loopL i G f n 0 r) E) : ∃ W' : Nat → Nat → St → Hp → Prop, (∃ m, W' 0 m σ H) ∧ ∀ k m σ H, W' k m σ H →
  ((Itl X.K a).stop k H ∧ E.nx σ H) ∨ ((Itl X.K a).go k H ∧ ∃ N : St → Hp → Prop, (∀ σ' H', N σ' H' → ∃ m', m' < m ∧ W' (k + 1) m' σ' H') ∧ ∀ x H', (Itl X.K a).yld k H x H' → g x σ H' fun σ2 H2 => tb { E with nx := N, ct := N, bk := E.nx } σ2 H2) := by
  refine ⟨fun k m σ H => ∃ P' r', Sit C P' H σ r' ∧ SCont C W P' (loopL i G f m k r') E, ⟨n, P, r, S, h⟩, ?_⟩
  rintro k m σ2 H2 ⟨P2, r2, S2, h2⟩
  cases m with
  | zero => exact h2.elim
  | succ m =>
    unfold loopL at h2
    split at h2
    rotate_left
    · exact h2.elim
    rename_i ds ei
    obtain ⟨b, e2, _, n0, _, q⟩ := S2.slot i _ ei
    rw [hid] at n0
    cases n0
    obtain ⟨vs, q1, q2⟩ := q
    cases ed : ds[k]? with
    | none =>
      simp only [ed] at h2
      exact .inl ⟨⟨vs, SqL.of q1, by rw [RpAll.len q2]; exact List.getElem?_eq_none_iff.mp ed⟩, h2 P2 H2 σ2 S2 (Sub.refl _)⟩
    | some d =>
      simp only [ed] at h2
      obtain ⟨v, e3, rv⟩ := RpAll.get q2 ed
      refine .inr ⟨⟨vs, v, SqL.of q1, e3⟩, fun σ H => ∃ P' r', Sit C P' H σ r' ∧ SCont C W P' (loopL i G f m (k + 1) r') E, fun σ' H' z => ⟨m, Nat.lt_succ_self m, z⟩, fun x H' hy => ?_⟩
      obtain ⟨rfl, hy⟩ := hy
      have ex := hy vs (SqL.of q1)
      rw [e3] at ex
      cases ex
      cases eg : G d r2 with
      | none => simp only [eg] at h2; exact h2.elim
      | some r3 =>
        simp only [eg] at h2
        refine kg C hC v σ2 H' P2 r2 r3 d _ S2 rv eg fun σ4 S4 _ => ?_
        refine kb C hC σ4 H' P2 r3 _ S4 ?_
        cases o : f r3 with
        | ok fl r4 =>
          simp only [o] at h2
          cases fl with
          | nx => exact fun P' H' σ' S' s' => ⟨P', r4, S', SCont.from h2 s'⟩
          | ct => exact fun P' H' σ' S' s' => ⟨P', r4, S', SCont.from h2 s'⟩
          | bk => exact h2
          | rt x => exact h2
        | exn e r4 => simp only [o] at h2; exact h2
        | bad => simp only [o] at h2; exact h2.elim
theorem qs_forL (m i : Nat) {x : Str} {tg : Expr} {p : Pos} {is : List Nat} {body : List Stmt} {G : D → Env → Option Env} {f : Env → Out Fl} {pos : Pos} (hp : PassesOwn (model X.prog X.w) X.A X.env X.xe) (hc : X.calm = true) (hg : QG Γ X tg is G) (hb : QSs Γ W X body f)
    (hN : X.N[i]? = some x := by rfl) (hv : Vis X.env.scope x := by first | exact Or.inl rfl | exact Or.inr (Or.inl rfl) | exact Or.inr (Or.inr rfl)) (hd : (x == ("__debug__" : Str)) = false := by decide)
    (hcd : (x == ("__classdict__" : Str)) = false := by decide) (hs : ∀ y, foldedSetIterable (.Name x p) X.env y = pure y := by intro _; rfl) : QS Γ W X (.For tg (.Name x p) body [] pos) (sForL m i G f) := by
  obtain ⟨g, pg, kg⟩ := hg.ex
  obtain ⟨tb, pb, kb⟩ := hb.ex
  refine ⟨_, ps_for hp hc (pi_list (pe_var hN hv hd hcd)) pg pb hs, fun C hC σ H P r E S h => ?_⟩
  unfold sForL at h
  split at h
  · rename_i ds ei
    obtain ⟨a, e, _, h0, q⟩ := S.slot i _ ei
    obtain ⟨vs, q1, q2⟩ := q
    refine ⟨.ref a, e, a, rfl, ⟨vs, SqL.of q1⟩, ?_⟩
    exact forL_run (C := C.pin i a) hC kg kb (if_pos rfl) (S.pin ei e) (SCont.pin h0 h)
  · rename_i ds ei
    obtain ⟨a, e, _, n0, _, q⟩ := S.slot i _ ei
    obtain ⟨vs, q1, q2⟩ := q
    refine ⟨.ref a, e, a, rfl, ⟨vs, SqL.of q1⟩, ?_⟩
    exact forL_run hC kg kb n0 S h
  · exact h.elim
end
end Dn

end
section
/-! Dn17: quiet expressions: those of a generator expression, over what its frame holds. -/
namespace Dn
open PySem L2
open PyProof.Rows hiding St
/-- all that stood, stands -/
def HExt (h h' : Heap) : Prop := ∀ b o, h.get? b = some o → h'.get? b = some o
theorem HExt.refl (h : Heap) : HExt h h := fun _ _ e => e
theorem HExt.trans {a b c : Heap} (x : HExt a b) (y : HExt b c) : HExt a c := fun d o e => y d o (x d o e)
/-- the frame of a generator expression, by its names M and data ρ; Bl: the built-ins that may be called -/
structure GEnv (prog : Program) (w : World) (cenv : PySem.Env) (Bl : Str → Option Value) (M : List Str) (h : Heap) (ρ : List D) : Prop where
  var : ∀ (j : Nat) (x : Str) (d : D), M[j]? = some x → ρ[j]? = some d → ∃ (v : Value) (as : List Addr), Reads h v d as ∧ ∀ (A : Around) (Q E : Value → Shared → Prop) (s : Shared), HExt h s.heap → Q v s → wpAny (model prog w) A (loadName cenv x) Q E s
  blt : ∀ (x : Str) (v : Value), Bl x = some v → ∀ (pos : Pos) (A : Around) (Q E : Value → Shared → Prop) (s : Shared), HExt h s.heap → Q v s → wpAny (model prog w) A (eval (.Name x pos) cenv) Q E s
/-- v reads as d in s, and s comes of s0 quietly -/
def QV (s0 : Shared) (d : D) (v : Value) (s : Shared) : Prop := (∃ as, Reads s.heap v d as) ∧ Keeps s0 s
def QOkA (A : Around) : Prop := A.handled = none ∧ A.units + 70 < cLine
structure PX (prog : Program) (w : World) (Bl : Str → Option Value) (M : List Str) (e : Expr) (f : List D → Option D) : Prop where
  run : ∀ (cenv : PySem.Env) (h : Heap) (ρ : List D) (d : D) (A : Around) (E : Value → Shared → Prop) (s : Shared), GEnv prog w cenv Bl M h ρ → QOkA A → HExt h s.heap → f ρ = some d → wpAny (model prog w) A (eval e cenv) (QV s d) E s
structure PXT (prog : Program) (w : World) (Bl : Str → Option Value) (M : List Str) (e : Expr) (f : List D → Option Bool) : Prop where
  run : ∀ (cenv : PySem.Env) (h : Heap) (ρ : List D) (b : Bool) (A : Around) (E : Value → Shared → Prop) (s : Shared), GEnv prog w cenv Bl M h ρ → QOkA A → HExt h s.heap → f ρ = some b → wpAny (model prog w) A (PySem.isTrue e cenv (eval e cenv)) (fun c s' => c = b ∧ Keeps s s') E s
theorem _root_.PySem.Keeps.ext {s s' : Shared} (k : Keeps s s') : HExt s.heap s'.heap := by
  obtain ⟨h, tk, rfl, k⟩ := k
  exact k
theorem _root_.PySem.Keeps.tr {a b c : Shared} (x : Keeps a b) (y : Keeps b c) : Keeps a c := by
  obtain ⟨h, tk, rfl, k⟩ := x
  obtain ⟨h', tk', rfl, k'⟩ := y
  exact ⟨h', tk', rfl, fun b o e => k' b o (k b o e)⟩
theorem QV.mono {s0 s1 s : Shared} {d : D} {v : Value} (k : Keeps s0 s1) (q : QV s1 d v s) : QV s0 d v s := ⟨q.1, k.tr q.2⟩
theorem _root_.PySem.Reads.ext {h h' : Heap} {v : Value} {d : D} {as : List Addr} (r : Reads h v d as) (k : HExt h h') : Reads h' v d as := PyProof.Rows.Reads.keeps k r
/-- a two-place operation -/
def OpX (prog : Program) (w : World) (f : Value → Value → Sem Value) (g : D → D → Option D) : Prop := ∀ (A : Around) (E : Value → Shared → Prop) (s : Shared) (v u : Value) (d e z : D) (as bs : List Addr), QOkA A → Reads s.heap v d as → Reads s.heap u e bs → g d e = some z → wpAny (model prog w) A (f v u) (QV s z) E s
section
variable {prog : Program} {w : World} {Bl : Str → Option Value} {M : List Str} {a b c : Expr} {fa fb fc : List D → Option D} {pos : Pos}
theorem px_var (j : Nat) {x : Str} (hM : M[j]? = some x := by rfl) (hd : (x == ("__debug__" : Str)) = false := by decide) : PX prog w Bl M (.Name x pos) (fun ρ => ρ[j]?) := by
  refine ⟨fun cenv h ρ d A E s G hA k e => ?_⟩
  obtain ⟨v, as, r, ld⟩ := G.var j x d hM e
  exact wpAny_Name (ld A _ E s k ⟨⟨as, r.ext k⟩, GxR.keeps_refl _⟩) hd
theorem px_int {i : Int} {j : Nat} : PX prog w Bl M (.Constant (.int i) j pos) (fun _ => some (.int i)) :=
  ⟨fun cenv h ρ d A E s G hA k e => by cases e; exact wpAny_Constant_int ⟨⟨_, .int _ _⟩, GxR.keeps_tok _ _⟩⟩
theorem px_bl {i : Bool} {j : Nat} : PX prog w Bl M (.Constant (.bool i) j pos) (fun _ => some (.bool i)) :=
  ⟨fun cenv h ρ d A E s G hA k e => by cases e; exact Constant_bool ⟨⟨_, .bool _⟩, GxR.keeps_refl _⟩⟩
theorem px_non {j : Nat} : PX prog w Bl M (.Constant .none j pos) (fun _ => some .none) :=
  ⟨fun cenv h ρ d A E s G hA k e => by cases e; exact Constant_none ⟨⟨_, .none⟩, GxR.keeps_refl _⟩⟩
theorem px_str {x : Str} {j : Nat} : PX prog w Bl M (.Constant (.str x) j pos) (fun _ => some (.str x)) :=
  ⟨fun cenv h ρ d A E s G hA k e => by cases e; exact Calls.Constant_str ⟨⟨_, .str _ _⟩, GxR.keeps_tok _ _⟩⟩
def x2 (g : D → D → Option D) (fa fb : List D → Option D) (ρ : List D) : Option D := (fa ρ).bind fun d => (fb ρ).bind fun e => g d e
theorem x2_inv {g : D → D → Option D} {ρ : List D} {z : D} (h : x2 g fa fb ρ = some z) : ∃ d e, fa ρ = some d ∧ fb ρ = some e ∧ g d e = some z := by
  unfold x2 at h
  simp only [Option.bind_eq_some_iff] at h
  obtain ⟨d, h1, e, h2, h3⟩ := h
  exact ⟨d, e, h1, h2, h3⟩
theorem run2 {g : D → D → Option D} {f : Value → Value → Sem Value} (ho : OpX prog w f g) (ha : PX prog w Bl M a fa) (hb : PX prog w Bl M b fb) {cenv : PySem.Env} {h : Heap} {ρ : List D} {z : D} {A : Around} {E : Value → Shared → Prop} {s : Shared} (G : GEnv prog w cenv Bl M h ρ) (hA : QOkA A) (k : HExt h s.heap) (e : x2 g fa fb ρ = some z) :
    wpAny (model prog w) A (eval a cenv) (fun v s₁ => wpAny (model prog w) A (eval b cenv) (fun u s₂ => wpAny (model prog w) A (f v u) (QV s z) E s₂) E s₁) E s := by
  obtain ⟨d, e', h1, h2, h3⟩ := x2_inv e
  refine thn (ha.run cenv h ρ d A E s G hA k h1) fun v s1 ⟨⟨as, r1⟩, k1⟩ => ?_
  refine thn (hb.run cenv h ρ e' A E s1 G hA (k.trans k1.ext) h2) fun u s2 ⟨⟨bs, r2⟩, k2⟩ => ?_
  exact thn (ho A E s2 v u d e' z as bs hA (r1.ext k2.ext) r2 h3) fun y s3 q => q.mono (k1.tr k2)
theorem px_op {op : Operator} {g : D → D → Option D} (ho : OpX prog w (binaryOp op) g) (ha : PX prog w Bl M a fa) (hb : PX prog w Bl M b fb) : PX prog w Bl M (.BinOp a op b pos) (x2 g fa fb) :=
  ⟨fun cenv h ρ d A E s G hA k e => wpAny_BinOp (run2 ho ha hb G hA k e)⟩
theorem px_cmp {op : CmpOp} {g : D → D → Option D} (ho : OpX prog w (compareOp op) g) (ha : PX prog w Bl M a fa) (hb : PX prog w Bl M b fb) (hm : behindInMarks op b = false := by first | exact nomark _ | rfl) : PX prog w Bl M (.Compare a [op] [b] pos) (x2 g fa fb) :=
  ⟨fun cenv h ρ d A E s G hA k e => wpAny_Compare1 (run2 ho ha hb G hA k e) hm⟩
/-- a bool -/
def xB : Option D → Option Bool
  | some (.bool b) => some b
  | _ => none
theorem xB_inv {o : Option D} {b : Bool} (h : xB o = some b) : o = some (.bool b) := by
  unfold xB at h
  split at h
  · cases h; rfl
  · cases h
theorem rd_bool {h : Heap} {v : Value} {b : Bool} {as : List Addr} (r : Reads h v (.bool b) as) : v = .bool b := by cases r; rfl
theorem rd_int {h : Heap} {v : Value} {i : Int} {as : List Addr} (r : Reads h v (.int i) as) : ∃ t, v = .int i t := by cases r; exact ⟨_, rfl⟩
theorem pxt_cmp {op : CmpOp} {g : D → D → Option D} (ho : OpX prog w (compareOp op) g) (ha : PX prog w Bl M a fa) (hb : PX prog w Bl M b fb) (hm : behindInMarks op b = false := by first | exact nomark _ | rfl) : PXT prog w Bl M (.Compare a [op] [b] pos) (fun ρ => xB (x2 g fa fb ρ)) := by
  refine ⟨fun cenv h ρ d A E s G hA k e => wpAny_isTrue_Compare1 ?_ hm⟩
  obtain ⟨d1, e', h1, h2, h3⟩ := x2_inv (xB_inv e)
  refine thn (ha.run cenv h ρ d1 A E s G hA k h1) fun v s1 ⟨⟨as, r1⟩, k1⟩ => ?_
  refine thn (hb.run cenv h ρ e' A E s1 G hA (k.trans k1.ext) h2) fun u s2 ⟨⟨bs, r2⟩, k2⟩ => ?_
  refine thn (ho A E s2 v u d1 e' _ as bs hA (r1.ext k2.ext) r2 h3) fun y s3 ⟨⟨cs, q⟩, k3⟩ => ?_
  rw [rd_bool q]
  exact wpAny_truthy_bool ⟨rfl, (k1.tr k2).tr k3⟩
/-- and, or, not of bools -/
def xAnd (fa fb : List D → Option D) (ρ : List D) : Option D := match xB (fa ρ) with
  | some true => fb ρ
  | some false => some (.bool false)
  | none => none
def xOr (fa fb : List D → Option D) (ρ : List D) : Option D := match xB (fa ρ) with
  | some true => some (.bool true)
  | some false => fb ρ
  | none => none
def xNot (fa : List D → Option D) (ρ : List D) : Option D := (xB (fa ρ)).map fun b => .bool (!b)
theorem px_one {op : BoolOp} (ha : PX prog w Bl M a fa) : PX prog w Bl M (.BoolOp op [a] pos) fa := ⟨fun cenv h ρ d A E s G hA k e => BoolOp_one (ha.run cenv h ρ d A E s G hA k e)⟩
theorem px_and {rest : List Expr} (ha : PX prog w Bl M a fa) (hb : PX prog w Bl M (.BoolOp .And (b :: rest) pos) fb) : PX prog w Bl M (.BoolOp .And (a :: b :: rest) pos) (xAnd fa fb) := by
  refine ⟨fun cenv h ρ d A E s G hA k e => BoolOp_and ?_⟩
  unfold xAnd at e
  cases eb : xB (fa ρ) with
  | none => simp only [eb] at e; cases e
  | some c =>
    simp only [eb] at e
    refine thn (ha.run cenv h ρ _ A E s G hA k (xB_inv eb)) fun v s1 ⟨⟨as, r1⟩, k1⟩ => ?_
    rw [rd_bool r1]
    refine wpAny_truthy_bool ?_
    cases c with
    | true => exact thn (hb.run cenv h ρ d A E s1 G hA (k.trans k1.ext) e) fun y s3 q => q.mono k1
    | false => cases e; exact ⟨⟨_, .bool _⟩, k1⟩
theorem px_or {rest : List Expr} (ha : PX prog w Bl M a fa) (hb : PX prog w Bl M (.BoolOp .Or (b :: rest) pos) fb) : PX prog w Bl M (.BoolOp .Or (a :: b :: rest) pos) (xOr fa fb) := by
  refine ⟨fun cenv h ρ d A E s G hA k e => BoolOp_or ?_⟩
  unfold xOr at e
  cases eb : xB (fa ρ) with
  | none => simp only [eb] at e; cases e
  | some c =>
    simp only [eb] at e
    refine thn (ha.run cenv h ρ _ A E s G hA k (xB_inv eb)) fun v s1 ⟨⟨as, r1⟩, k1⟩ => ?_
    rw [rd_bool r1]
    refine wpAny_truthy_bool ?_
    cases c with
    | false => exact thn (hb.run cenv h ρ d A E s1 G hA (k.trans k1.ext) e) fun y s3 q => q.mono k1
    | true => cases e; exact ⟨⟨_, .bool _⟩, k1⟩
theorem px_not (ha : PX prog w Bl M a fa) : PX prog w Bl M (.UnaryOp .Not a pos) (xNot fa) := by
  refine ⟨fun cenv h ρ d A E s G hA k e => UnaryOp_ ?_⟩
  obtain ⟨c, eb, rfl⟩ := Option.map_eq_some_iff.mp e
  refine thn (ha.run cenv h ρ _ A E s G hA k (xB_inv eb)) fun v s1 ⟨⟨as, r1⟩, k1⟩ => ?_
  rw [rd_bool r1]
  exact not_of (wpAny_truthy_bool ⟨⟨_, .bool _⟩, k1⟩)
/-- a op b op' c -/
def xChain (g g' : D → D → Option D) (fa fb fc : List D → Option D) (ρ : List D) : Option D := (fa ρ).bind fun x => (fb ρ).bind fun y => match xB (g x y) with
  | some true => (fc ρ).bind fun z => g' y z
  | some false => some (.bool false)
  | none => none
theorem px_chain {op op' : CmpOp} {g g' : D → D → Option D} (ho : OpX prog w (compareOp op) g) (ho' : OpX prog w (compareOp op') g') (ha : PX prog w Bl M a fa) (hb : PX prog w Bl M b fb) (hc : PX prog w Bl M c fc)
    (hm : lastMarks [op, op'] [b, c] = false := by with_unfolding_all rfl) : PX prog w Bl M (.Compare a [op, op'] [b, c] pos) (xChain g g' fa fb fc) := by
  refine ⟨fun cenv h ρ d A E s G hA k e => ?_⟩
  unfold xChain at e
  simp only [Option.bind_eq_some_iff] at e
  obtain ⟨x, h1, y, h2, e⟩ := e
  refine Compare_chain (thn (ha.run cenv h ρ x A E s G hA k h1) fun v s1 ⟨⟨as, r1⟩, k1⟩ => chain_link (thn (hb.run cenv h ρ y A E s1 G hA (k.trans k1.ext) h2) fun u s2 ⟨⟨bs, r2⟩, k2⟩ => ?_)) hm
  cases eb : xB (g x y) with
  | none => simp only [eb] at e; cases e
  | some q =>
    simp only [eb] at e
    refine thn (ho A E s2 v u x y _ as bs hA (r1.ext k2.ext) r2 (xB_inv eb)) fun t s3 ⟨⟨cs, r3⟩, k3⟩ => ?_
    rw [rd_bool r3]
    refine wpAny_truthy_bool ?_
    cases q with
    | false => cases e; exact ite_ff ⟨⟨_, .bool _⟩, (k1.tr k2).tr k3⟩
    | true =>
      simp only [Option.bind_eq_some_iff] at e
      obtain ⟨z, h4, h5⟩ := e
      refine ite_tt (chain_last (thn (hc.run cenv h ρ z A E s3 G hA (((k.trans k1.ext).trans k2.ext).trans k3.ext) h4) fun t' s4 ⟨⟨ds, r4⟩, k4⟩ => ?_))
      exact thn (ho' A E s4 u t' y z d bs ds hA (r2.ext (k3.ext.trans k4.ext)) r4 h5) fun y5 s5 q5 => q5.mono (((k1.tr k2).tr k3).tr k4)
/-! ### the operations -/
def xI (f : Int → Int → Option D) : D → D → Option D
  | .int i, .int j => f i j
  | _, _ => none
theorem xI_inv {f : Int → Int → Option D} {d e z : D} (h : xI f d e = some z) : ∃ i j, d = .int i ∧ e = .int j ∧ f i j = some z := by
  unfold xI at h
  split at h
  · exact ⟨_, _, rfl, rfl, h⟩
  · cases h
theorem ox_I {f : Value → Value → Sem Value} {g : Int → Int → Int} (rule : ∀ (A : Around) (i j : Int) (t u : Tok) (s : Shared) (Q : Value → Shared → Prop) (E : Value → Shared → Prop), Q (.int (g i j) s.toks) { s with toks := s.toks + 1 } → wpAny (model prog w) A (f (.int i t) (.int j u)) Q E s) : OpX prog w f (xI fun i j => some (.int (g i j))) := by
  intro A E s v u d e z as bs hA r1 r2 h
  obtain ⟨i, j, rfl, rfl, hz⟩ := xI_inv h
  obtain ⟨t, rfl⟩ := rd_int r1
  obtain ⟨t', rfl⟩ := rd_int r2
  cases hz
  exact rule A i j t t' s _ E ⟨⟨_, .int _ _⟩, GxR.keeps_tok _ _⟩
theorem ox_Ic {f : Value → Value → Sem Value} {c : Int → Int → Prop} [∀ i j, Decidable (c i j)] {g : Int → Int → Int} (rule : ∀ (A : Around) (i j : Int) (t u : Tok) (s : Shared) (Q : Value → Shared → Prop) (E : Value → Shared → Prop), c i j → Q (.int (g i j) s.toks) { s with toks := s.toks + 1 } → wpAny (model prog w) A (f (.int i t) (.int j u)) Q E s) : OpX prog w f (xI fun i j => if c i j then some (.int (g i j)) else none) := by
  intro A E s v u d e z as bs hA r1 r2 h
  obtain ⟨i, j, rfl, rfl, hz⟩ := xI_inv h
  obtain ⟨t, rfl⟩ := rd_int r1
  obtain ⟨t', rfl⟩ := rd_int r2
  by_cases hc : c i j
  · rw [if_pos hc] at hz
    cases hz
    exact rule A i j t t' s _ E hc ⟨⟨_, .int _ _⟩, GxR.keeps_tok _ _⟩
  · rw [if_neg hc] at hz; cases hz
theorem ox_B {f : Value → Value → Sem Value} {g : Int → Int → Bool} (rule : ∀ (A : Around) (i j : Int) (t u : Tok) (s : Shared) (Q : Value → Shared → Prop) (E : Value → Shared → Prop), Q (.bool (g i j)) s → wpAny (model prog w) A (f (.int i t) (.int j u)) Q E s) : OpX prog w f (xI fun i j => some (.bool (g i j))) := by
  intro A E s v u d e z as bs hA r1 r2 h
  obtain ⟨i, j, rfl, rfl, hz⟩ := xI_inv h
  obtain ⟨t, rfl⟩ := rd_int r1
  obtain ⟨t', rfl⟩ := rd_int r2
  cases hz
  exact rule A i j t t' s _ E ⟨⟨_, .bool _⟩, GxR.keeps_refl _⟩
def xElse (g g' : D → D → Option D) : D → D → Option D := fun d e => match g d e with
  | some z => some z
  | none => g' d e
theorem ox_or {f : Value → Value → Sem Value} {g g' : D → D → Option D} (h : OpX prog w f g) (h' : OpX prog w f g') : OpX prog w f (xElse g g') := by
  intro A E s v u d e z as bs hA r1 r2 q
  unfold xElse at q
  cases e1 : g d e with
  | some y => rw [e1] at q; cases q; exact h A E s v u d e z as bs hA r1 r2 e1
  | none => rw [e1] at q; exact h' A E s v u d e z as bs hA r1 r2 q
theorem ox_add : OpX prog w (binaryOp .Add) (xI fun i j => some (.int (i + j))) := ox_I fun _ _ _ _ _ _ _ _ q => add_int q
theorem ox_sub : OpX prog w (binaryOp .Sub) (xI fun i j => some (.int (i - j))) := ox_I fun _ _ _ _ _ _ _ _ q => sub_int q
theorem ox_mul : OpX prog w (binaryOp .Mult) (xI fun i j => if CMul i j then some (.int (i * j)) else none) := ox_Ic fun _ _ _ _ _ _ _ _ hc q => mul_int q hc.ok
theorem ox_fdiv : OpX prog w (binaryOp .FloorDiv) (xI fun i j => if CDivN i j then some (.int (i.fdiv j)) else none) := ox_Ic fun _ _ _ _ _ _ _ _ hc q => floordiv_int hc.1 q (.inl (PyProof.noPylong_small hc.2))
theorem ox_mod : OpX prog w (binaryOp .Mod) (xI fun i j => if j ≠ 0 then some (.int (i.fmod j)) else none) := ox_Ic fun _ _ _ _ _ _ _ _ hc q => mod_int' hc q
def xOrd (g : D → D → Bool) : D → D → Option D := fun d e => if PySem.W.alike d e = true ∧ isNone d = false ∧ d.depth ≤ 60 then some (.bool (g d e)) else none
theorem ox_ord {op : CmpOp} {g : D → D → Bool} (rule : ∀ (A : Around) (E : Value → Shared → Prop) (s : Shared) (v u : Value) (d e : D) (as bs : List Addr) (Q : Value → Shared → Prop), Reads s.heap v d as → Reads s.heap u e bs → PySem.W.alike d e = true → d ≠ .none → A.units + min d.depth e.depth < cLine → Q (.bool (g d e)) s → wpAny (model prog w) A (compareOp op v u) Q E s) : OpX prog w (compareOp op) (xOrd g) := by
  intro A E s v u d e z as bs hA r1 r2 h
  unfold xOrd at h
  split at h
  · rename_i hc
    cases h
    refine rule A E s v u d e as bs _ r1 r2 hc.1 (fun z => by rw [z] at hc; cases hc.2.1) ?_ ⟨⟨_, .bool _⟩, GxR.keeps_refl _⟩
    have : min d.depth e.depth ≤ d.depth := Nat.min_le_left _ _
    have := hA.2
    omega
  · cases h
def xLt : D → D → Option D := xElse (xI fun i j => some (.bool (decide (i < j)))) (xOrd fun d e => PySem.W.dataLt d e)
def xLe : D → D → Option D := xElse (xI fun i j => some (.bool (decide (i ≤ j)))) (xOrd fun d e => !PySem.W.dataLt e d)
def xGt : D → D → Option D := xElse (xI fun i j => some (.bool (decide (j < i)))) (xOrd fun d e => PySem.W.dataLt e d)
def xGe : D → D → Option D := xElse (xI fun i j => some (.bool (decide (j ≤ i)))) (xOrd fun d e => !PySem.W.dataLt d e)
theorem ox_lt : OpX prog w (compareOp .Lt) xLt := ox_or (ox_B fun _ _ _ _ _ _ _ _ q => lt_int q) (ox_ord fun _ _ _ _ _ _ _ _ _ _ r1 r2 h hn hu q => PySem.W.lt_data r1 r2 h hn hu q)
theorem ox_le : OpX prog w (compareOp .LtE) xLe := ox_or (ox_B fun _ _ _ _ _ _ _ _ q => le_int q) (ox_ord fun _ _ _ _ _ _ _ _ _ _ r1 r2 h hn hu q => PySem.W.le_data r1 r2 h hn hu q)
theorem ox_gt : OpX prog w (compareOp .Gt) xGt := ox_or (ox_B fun _ _ _ _ _ _ _ _ q => gt_int q) (ox_ord fun _ _ _ _ _ _ _ _ _ _ r1 r2 h hn hu q => PySem.W.gt_data r1 r2 h hn hu q)
theorem ox_ge : OpX prog w (compareOp .GtE) xGe := ox_or (ox_B fun _ _ _ _ _ _ _ _ q => ge_int q) (ox_ord fun _ _ _ _ _ _ _ _ _ _ r1 r2 h hn hu q => PySem.W.ge_data r1 r2 h hn hu q)
def xEqv (k : Bool) : D → D → Option D := fun d e => if SeqAt.shaped d = true ∧ SeqAt.shaped e = true then some (.bool (PyData.eqv d e == k)) else none
theorem ox_eqv : OpX prog w (compareOp .Eq) (xEqv true) := by
  intro A E s v u d e z as bs hA r1 r2 h
  unfold xEqv at h
  split at h
  · rename_i hc
    cases h
    rw [beq_true]
    exact SeqAt.compareEq_shaped r1 r2 hc.1 hc.2 (by have := hA.2; omega) ⟨⟨_, .bool _⟩, GxR.keeps_refl _⟩
  · cases h
theorem ox_nev : OpX prog w (compareOp .NotEq) (xEqv false) := by
  intro A E s v u d e z as bs hA r1 r2 h
  unfold xEqv at h
  split at h
  · rename_i hc
    cases h
    rw [beq_false]
    exact SeqAt.compareNe_shaped r1 r2 hc.1 hc.2 (by have := hA.2; omega) ⟨⟨_, .bool _⟩, GxR.keeps_refl _⟩
  · cases h
def xEq : D → D → Option D := xElse (xI fun i j => some (.bool (decide (i = j)))) (xEqv true)
def xNe : D → D → Option D := xElse (xI fun i j => some (.bool (!decide (i = j)))) (xEqv false)
theorem ox_eq : OpX prog w (compareOp .Eq) xEq := ox_or (ox_B fun _ _ _ _ _ _ _ _ h => PyProof.Rows.eq_int (by rw [Bool.beq_eq_decide_eq]; exact h)) ox_eqv
theorem ox_ne : OpX prog w (compareOp .NotEq) xNe := ox_or (ox_B fun _ _ _ _ _ _ _ _ h => PyProof.Rows.ne_int (by rw [bne, Bool.beq_eq_decide_eq]; exact h)) ox_nev
def xIn (k : Bool) (d e : D) : Option D := match seqD e with
  | some ds => if d.canLay0 = true ∧ PyData.canLayAll0 ds = true ∧ d.depth ≤ 60 then some (.bool ((ds.any fun z => PyData.eqv z d) == k)) else none
  | none => none
theorem in_roomX {A : Around} {d : D} {ds : List D} (hA : QOkA A) (h : d.depth ≤ 60) : A.units + 1 + min (PyData.depthAll ds) d.depth < cLine := by
  have : min (PyData.depthAll ds) d.depth ≤ d.depth := Nat.min_le_right _ _
  have := hA.2
  omega
theorem ox_in : OpX prog w (compareOp .In) (xIn true) := by
  intro A E s v u d e z as bs hA r1 r2 h
  unfold xIn at h
  split at h
  · rename_i ds es
    split at h
    · rename_i hc
      cases h
      rw [beq_true]
      cases e with
      | list xs => cases es; exact SeqAt.in_list_reads r2 r1 hc.2.1 hc.1 (in_roomX hA hc.2.2) ⟨⟨_, .bool _⟩, GxR.keeps_refl _⟩
      | tuple xs => cases es; exact SeqAt.in_tuple_reads r2 r1 hc.2.1 hc.1 (in_roomX hA hc.2.2) ⟨⟨_, .bool _⟩, GxR.keeps_refl _⟩
      | _ => cases es
    · cases h
  · cases h
theorem ox_notin : OpX prog w (compareOp .NotIn) (xIn false) := by
  intro A E s v u d e z as bs hA r1 r2 h
  unfold xIn at h
  split at h
  · rename_i ds es
    split at h
    · rename_i hc
      cases h
      rw [beq_false]
      cases e with
      | list xs => cases es; exact SeqAt.notIn_list_reads r2 r1 hc.2.1 hc.1 (in_roomX hA hc.2.2) ⟨⟨_, .bool _⟩, GxR.keeps_refl _⟩
      | tuple xs => cases es; exact SeqAt.notIn_tuple_reads r2 r1 hc.2.1 hc.1 (in_roomX hA hc.2.2) ⟨⟨_, .bool _⟩, GxR.keeps_refl _⟩
      | _ => cases es
    · cases h
  · cases h
end
end Dn

end
section
/-! Dn18: a generator expression with any target: its turns. -/
namespace Dn
open PySem
abbrev GE := PySem.Env
/-- the steps of what is walked together with the target: Bd i m: what the names hold at turn i -/
structure GStep (prog : Program) (w : World) (ce : GE) (tg : Expr) (I : Addr) (fp wr : List Addr) (n : Nat) (Bd : Nat → (Str → Option Value) → Prop) (href : Heap) (St : Nat → Heap → Prop) : Prop where
  sub : ∀ b ∈ wr, b ∈ fp
  frame : ∀ i h h', St i h → (∀ b ∈ fp, ∀ o, h.get? b = some o → h'.get? b = some o) → St i h'
  item : ∀ (A : Around) (E : Value → Shared → Prop) (i : Nat) (s : Shared) (m : Str → Option Value), A.handled = none → i < n → St i s.heap → s.heap.Ns ce.locals m → (∀ b ∈ fp, b ∉ wr → ∀ o, href.get? b = some o → s.heap.get? b = some o) →
    wpAny (model prog w) A (pyNext (.ref I)) (fun r s1 => ∃ v, r = some v ∧ wpAny (model prog w) A (letOwnedTupleGo tg (.ref I) v) (fun _ s2 => wpAny (model prog w) A (assign tg ce v) (fun _ s3 =>
      ∃ h' tk m', s3 = { s with heap := h', toks := tk } ∧ h'.Ns ce.locals m' ∧ Bd i m' ∧ St (i + 1) h' ∧ ∀ b o, b ≠ ce.locals → b ∉ wr → s.heap.get? b = some o → h'.get? b = some o) E s2) E s1) E s
  done : ∀ (A : Around) (E : Value → Shared → Prop) (s : Shared), A.handled = none → St n s.heap → wpAny (model prog w) A (pyNext (.ref I)) (fun r s1 => r = none ∧ ∃ h' tk, s1 = { s with heap := h', toks := tk } ∧ ∀ b o, b ∉ wr → s.heap.get? b = some o → h'.get? b = some o) E s
  self : ∀ (A : Around) (E : Value → Shared → Prop) (i : Nat) (s : Shared), A.handled = none → St i s.heap → wpAny (model prog w) A (pyIter (.ref I)) (fun v s1 => v = .ref I ∧ s1 = s) E s
/-- tests and element are quiet -/
structure GQuiet (prog : Program) (w : World) (ce : GE) (ifs : List Expr) (elt : Expr) (fp wr : List Addr) (Bd : Nat → (Str → Option Value) → Prop) (pz : Nat → Bool) (F : Nat → Value → Prop) (href : Heap) (U : Nat) : Prop where
  tests : ∀ (A : Around) (E : Value → Shared → Prop) (i : Nat) (s : Shared) (m : Str → Option Value), A.handled = none → A.units ≤ U → Bd i m → s.heap.Ns ce.locals m → (∀ b ∈ fp, b ∉ wr → ∀ o, href.get? b = some o → s.heap.get? b = some o) →
    wpAny (model prog w) A (forIn ifs true fun c r => if r = true then do let ok ← PySem.isTrue c ce (eval c ce); pure (ForInStep.yield ok) else pure (ForInStep.yield r)) (fun ok s' => ok = pz i ∧ Keeps s s') E s
  elt : ∀ (A : Around) (E : Value → Shared → Prop) (i : Nat) (s : Shared) (m : Str → Option Value), A.handled = none → A.units ≤ U → Bd i m → pz i = true → s.heap.Ns ce.locals m → (∀ b ∈ fp, b ∉ wr → ∀ o, href.get? b = some o → s.heap.get? b = some o) →
    wpAny (model prog w) A (eval elt ce) (fun y s' => F i y ∧ Keeps s s') E s
section
variable {prog : Program} {w : World} {A : Around} {elt iter tg : Expr} {ifs : List Expr} {scope : Scope} {pos : Pos} {I a : Addr} {g : Nat} {fp wr : List Addr} {n : Nat} {Bd : Nat → (Str → Option Value) → Prop} {St : Nat → Heap → Prop} {ce : GE} {pz : Nat → Bool} {F : Nat → Value → Prop} {href : Heap}
abbrev gexp (elt tg iter : Expr) (ifs : List Expr) (scope : Scope) (pos : Pos) : Expr := .GeneratorExp elt [⟨tg, iter, ifs, 0⟩] scope pos
abbrev gLoop (elt tg iter : Expr) (ifs : List Expr) (scope : Scope) (pos : Pos) (I : Addr) (ce : GE) : Code := .compLoop (gexp elt tg iter ifs scope pos) 0 (.ref I) .none ce
abbrev gFirst (elt tg iter : Expr) (ifs : List Expr) (scope : Scope) (pos : Pos) (I : Addr) (ce : GE) : Code := .compStart (gexp elt tg iter ifs scope pos) 0 (.ref I) .none ce
theorem segG_loop (hA : A.handled = none) (GS : GStep prog w ce tg I fp wr n Bd href St) (hco : ce.scope.isCoroutine = false) (hCf : ce.locals ∉ fp) (hq : GQuiet prog w ce ifs elt fp wr Bd pz F href (A.units + 3)) :
    ∀ (k i : Nat) (s₀ s : Shared) (m : Str → Option Value), i + k = n → St i s.heap → s.heap.Ns ce.locals m → GenSince ce.locals wr s₀ s → (∀ b ∈ fp, b ∉ wr → ∀ o, href.get? b = some o → s.heap.get? b = some o) →
      Seg (model prog w) A (fun n s₀ r s₁ => r = .ok .next ∧ (n = 0 ∧ GenSince ce.locals wr s₀ s₁)) (genProto ce.locals fp wr pz n F) (passing pz n i).length s₀ (gLoop elt tg iter ifs scope pos I ce) ((model prog w).den (gLoop elt tg iter ifs scope pos I ce)) [] s := by
  have oA : (A.over (gLoop elt tg iter ifs scope pos I ce) []).handled = none := hA
  have oU : (A.over (gLoop elt tg iter ifs scope pos I ce) []).units ≤ A.units + 3 := Nat.le_of_eq rfl
  have hCw : ce.locals ∉ wr := fun z => hCf (GS.sub _ z)
  intro k
  induction k with
  | zero =>
    intro i s₀ s m hik hst hn hs hkp
    rw [Nat.add_zero] at hik
    subst hik
    show Seg _ A _ _ _ s₀ _ ((compTurn (gexp elt tg iter ifs scope pos) 0 (.ref I) .none ce).onRaise (leaving ce)) [] s
    rw [compTurn_gen, Sem.onRaise_eq_wrap]
    refine seg_bind_wrap (wpAny_standAt (seg_bind_wrap (wpAny_mono (GS.done _ _ s oA hst) (fun r s1 hr => ?_) fun _ _ e => e)))
    obtain ⟨rfl, h', tk, rfl, hk⟩ := hr
    exact seg_end (.ok .next) ⟨rfl, by rw [passing_end]; rfl, hs.step fun b o _ z e => hk b o z e⟩
  | succ k ih =>
    intro i s₀ s m hik hst hn hs hkp
    have hlt : i < n := by omega
    show Seg _ A _ _ _ s₀ _ ((compTurn (gexp elt tg iter ifs scope pos) 0 (.ref I) .none ce).onRaise (leaving ce)) [] s
    rw [compTurn_gen, Sem.onRaise_eq_wrap]
    refine seg_bind_wrap (wpAny_standAt (seg_bind_wrap (wpAny_mono (GS.item _ _ i s m oA hlt hst hn hkp) (fun r s1 hr => ?_) fun _ _ e => e)))
    obtain ⟨v, rfl, h1⟩ := hr
    refine seg_bind_wrap (wpAny_mono h1 (fun _ s2 h2 => ?_) fun _ _ e => e)
    refine seg_bind_wrap (wpAny_mono h2 (fun _ s3 h3 => ?_) fun _ _ e => e)
    obtain ⟨h', tk, m', rfl, hn', hb, hst', up⟩ := h3
    have hkp2 : ∀ b ∈ fp, b ∉ wr → ∀ o, href.get? b = some o → h'.get? b = some o := fun b x y o e => up b o (fun z => hCf (z ▸ x)) y (hkp b x y o e)
    refine seg_bind_wrap (wpAny_mono (hq.tests _ _ i { s with heap := h', toks := tk } m' oA oU hb hn' hkp2) (fun ok s4 h4 => ?_) fun _ _ e => e)
    obtain ⟨rfl, h4, tk4, rfl, k4⟩ := h4
    have st4 : St (i + 1) h4 := GS.frame _ _ _ hst' fun b _ o e => k4 b o e
    have since4 : GenSince ce.locals wr s₀ { s with heap := h4, toks := tk4 } := hs.step fun b o x y e => k4 b o (up b o x y e)
    have hkp4 : ∀ b ∈ fp, b ∉ wr → ∀ o, href.get? b = some o → h4.get? b = some o := fun b x y o e => k4 b o (hkp2 b x y o e)
    cases hp : pz i with
    | false =>
      rw [passing_false hlt hp]
      simp only [Bool.false_eq_true, if_false]
      exact seg_again rfl (ih (i + 1) s₀ _ m' (by omega) st4 (hn'.keeps k4) since4 hkp4)
    | true =>
      rw [passing_true hlt hp, List.length_cons]
      simp only [if_true]
      have yo : ∀ v, yieldOut ce v = yieldValue v := fun v => by simp only [yieldOut, hco, Bool.false_eq_true, if_false]
      simp only [yo]
      rw [Sem.bind_eq_wrap', Sem.bind_eq_wrap', Sem.wrap_wrap, Sem.wrap_wrap]
      refine seg_wrap (wpAny_mono (hq.elt _ _ i { s with heap := h4, toks := tk4 } m' oA oU hb hp (hn'.keeps k4) hkp4) (fun y s5 h5 => ?_) fun _ _ e => e)
      obtain ⟨fy, h5, tk5, rfl, k5⟩ := h5
      refine seg_at (seg_yield rfl rfl rfl ⟨⟨i, passing_here hlt hp, fy⟩, since4.step fun b o _ _ e => k5 b o e, fun s6 al => ?_⟩)
      have up6 : ∀ b ∈ fp, ∀ o, h5.get? b = some o → s6.heap.get? b = some o := fun b z o e => al b (List.mem_cons_of_mem _ z) o e
      exact seg_again rfl (ih (i + 1) s6 s6 m' (by omega) (GS.frame _ _ _ st4 fun b z o e => up6 b z o (k5 b o e)) (((hn'.keeps k4).keeps k5).at' fun o e => al _ (List.mem_cons_self ..) o e) (GenSince.refl _ _ _)
        fun b x y o e => up6 b x o (k5 b o (hkp4 b x y o e)))
theorem segG_first (hA : A.handled = none) (GS : GStep prog w ce tg I fp wr n Bd href St) (hco : ce.scope.isCoroutine = false) (hCf : ce.locals ∉ fp) (hq : GQuiet prog w ce ifs elt fp wr Bd pz F href (A.units + 3))
    (s₀ s : Shared) (m : Str → Option Value) (hst : St 0 s.heap) (hn : s.heap.Ns ce.locals m) (hs : GenSince ce.locals wr s₀ s) (hkp : ∀ b ∈ fp, b ∉ wr → ∀ o, href.get? b = some o → s.heap.get? b = some o) :
    Seg (model prog w) A (fun n s₀ r s₁ => r = .ok .next ∧ (n = 0 ∧ GenSince ce.locals wr s₀ s₁)) (genProto ce.locals fp wr pz n F) (passing pz n 0).length s₀ (gFirst elt tg iter ifs scope pos I ce) ((model prog w).den (gFirst elt tg iter ifs scope pos I ce)) [] s := by
  have oA : (A.over (gFirst elt tg iter ifs scope pos I ce) []).handled = none := hA
  have L := segG_loop (iter := iter) (scope := scope) (pos := pos) hA GS hco hCf hq n 0 s₀ s m (Nat.zero_add _) hst hn hs hkp
  show Seg _ A _ _ _ s₀ _ ((compStart (gexp elt tg iter ifs scope pos) 0 (.ref I) .none ce).onRaise (leaving ce)) [] s
  unfold compStart
  rw [Sem.onRaise_eq_wrap]
  show Seg _ A _ _ _ s₀ _ ((ask >>= _).wrap _ _ _ _) [] s
  refine seg_bind_wrap (wpAny_askSetting ?_)
  split
  · exact seg_again rfl L
  · have fin : wpAny (model prog w) (A.over (gFirst elt tg iter ifs scope pos I ce) []) (pyIter (.ref I)) (fun v s1 => v = .ref I ∧ s1 = s) (fun _ _ => False) s := GS.self _ _ 0 s oA hst
    refine seg_bind_wrap (wpAny_rule ?_)
    show Seg _ A _ _ _ s₀ _ ((standAt iter.pos >>= _).wrap _ _ _ _) [] s
    refine seg_bind_wrap (wpAny_standAt (seg_bind_wrap (wpAny_mono fin (fun v s1 h1 => ?_) fun _ _ e => e.elim)))
    obtain ⟨rfl, rfl⟩ := h1
    exact seg_again rfl L
theorem genAtG (hA : A.handled = none) {s : Shared} {m : Str → Option Value} (GS : GStep prog w ce tg I fp wr n Bd s.heap St) (hco : ce.scope.isCoroutine = false) (hCf : ce.locals ∉ fp) (hq : GQuiet prog w ce ifs elt fp wr Bd pz F s.heap (A.units + 4))
    (hg : s.heap.IsGen a g) (hgs : s.gens[g]? = some (.fresh (gFirst elt tg iter ifs scope pos I ce))) (hst : St 0 s.heap) (hn : s.heap.Ns ce.locals m) (hl : s.heap.NoLimit) : GenAt prog w A a g ce.locals fp wr pz n F 0 s := by
  refine ⟨hg, hl, _, hgs, fun s2 al => ⟨rfl, ?_⟩⟩
  exact segG_first (A := A.in1) hA GS hco hCf hq s2 s2 m (GS.frame _ _ _ hst fun b z o e => al b (List.mem_cons_of_mem _ z) o e) (hn.at' fun o e => al _ (List.mem_cons_self ..) o e) (GenSince.refl _ _ _)
    fun b x _ o e => al b (List.mem_cons_of_mem _ x) o e
end
end Dn

end
section
/-! Dn19: a generator expression over data, ready to be walked. -/
namespace Dn
open PySem L2
open PyProof.Rows hiding St
/-! ### what comes out of it -/
def genD (ft : List D → Option Bool) (fe : List D → Option D) (caps : List D) : List (List D) → Option (List D)
  | [] => some []
  | row :: rows => match ft (row ++ caps) with
    | none => none
    | some false => genD ft fe caps rows
    | some true => match fe (row ++ caps) with
      | none => none
      | some d => (genD ft fe caps rows).map fun ds => d :: ds
/-- y is the scalar d -/
def ScalarIs : D → Value → Prop
  | .bool b, y => y = .bool b
  | .int i, y => ∃ t, y = .int i t
  | _, _ => False
def scalarB : D → Bool
  | .bool _ => true
  | .int _ => true
  | _ => false
theorem scalar_of {h : Heap} {v : Value} {d : D} {as : List Addr} (r : Reads h v d as) (s : scalarB d = true) : ScalarIs d v := by
  cases d with
  | bool b => exact rd_bool r
  | int i => exact rd_int r
  | _ => cases s
def pzOf (ft : List D → Option Bool) (caps : List D) (rows : List (List D)) (i : Nat) : Bool := match rows[i]? with
  | some row => ft (row ++ caps) == some true
  | none => false
theorem filter_range_succ (p : Nat → Bool) (n : Nat) : (List.range (n + 1)).filter p = (if p 0 = true then [0] else []) ++ ((List.range n).filter fun i => p (i + 1)).map (· + 1) := by
  rw [List.range_succ_eq_map]
  by_cases h : p 0 = true
  · rw [if_pos h, List.filter_cons_of_pos h, List.filter_map]; rfl
  · rw [if_neg h, List.filter_cons_of_neg h, List.filter_map]; rfl
theorem genD_pass {ft : List D → Option Bool} {fe : List D → Option D} {caps : List D} : ∀ {rows : List (List D)} {outs : List D}, genD ft fe caps rows = some outs →
    ((List.range rows.length).filter (pzOf ft caps rows)).length = outs.length ∧
    (∀ (j i : Nat), ((List.range rows.length).filter (pzOf ft caps rows))[j]? = some i → ∃ row d, rows[i]? = some row ∧ fe (row ++ caps) = some d ∧ outs[j]? = some d) ∧
    ∀ (i : Nat) (row : List D), rows[i]? = some row → ft (row ++ caps) = some (pzOf ft caps rows i)
  | [], outs, h => by
    cases h
    exact ⟨rfl, fun j i e => by simp at e, fun i row e => by simp at e⟩
  | row :: rows, outs, h => by
    unfold genD at h
    have sh : (fun i => pzOf ft caps (row :: rows) (i + 1)) = pzOf ft caps rows := by funext i; simp [pzOf]
    cases hf : ft (row ++ caps) with
    | none => simp only [hf] at h; cases h
    | some b =>
      simp only [hf] at h
      have p0 : pzOf ft caps (row :: rows) 0 = b := by
        show (ft (row ++ caps) == some true) = b
        rw [hf]; cases b <;> rfl
      have pt : ∀ (i : Nat) (r : List D), (row :: rows)[i]? = some r → (∀ (i : Nat) (row : List D), rows[i]? = some row → ft (row ++ caps) = some (pzOf ft caps rows i)) → ft (r ++ caps) = some (pzOf ft caps (row :: rows) i) := fun i r e ih => by
        cases i with
        | zero => simp at e; subst e; rw [p0, hf]
        | succ i =>
          have := ih i r (by simpa using e)
          rw [this, ← sh]
      rw [List.length_cons, filter_range_succ, p0, sh]
      cases b with
      | false =>
        obtain ⟨h1, h2, h3⟩ := genD_pass h
        rw [if_neg (by decide), List.nil_append]
        refine ⟨by rw [List.length_map]; exact h1, fun j i e => ?_, fun i r e => pt i r e h3⟩
        rw [List.getElem?_map, Option.map_eq_some_iff] at e
        obtain ⟨i', e1, rfl⟩ := e
        obtain ⟨r, d, q1, q2, q3⟩ := h2 j i' e1
        exact ⟨r, d, by simpa using q1, q2, q3⟩
      | true =>
        rw [if_pos rfl]
        cases he : fe (row ++ caps) with
        | none => simp only [he] at h; cases h
        | some d0 =>
          simp only [he] at h
          obtain ⟨ds, hd, rfl⟩ := Option.map_eq_some_iff.mp h
          obtain ⟨h1, h2, h3⟩ := genD_pass hd
          refine ⟨by rw [List.length_append, List.length_map, h1]; simp [Nat.add_comm], fun j i e => ?_, fun i r e => pt i r e h3⟩
          cases j with
          | zero => simp at e; subst e; exact ⟨row, d0, rfl, he, rfl⟩
          | succ j =>
            simp at e
            obtain ⟨i', e1, rfl⟩ := e
            obtain ⟨r, d, q1, q2, q3⟩ := h2 j i' e1
            exact ⟨r, d, by simpa using q1, q2, by simpa using q3⟩
/-! ### all but a table -/
def HB (P : Addr) (h h' : Heap) : Prop := ∀ b o, b ≠ P → h.get? b = some o → h'.get? b = some o
/-- a table stands at P -/
def TblO (P : Addr) (h : Heap) : Prop := ∃ (cl : Value) (ps : Array Value), ∃ o, h.get? P = some o ∧ o.data = .fields ps
theorem HB.data {P : Addr} {h h' : Heap} (k : HB P h h') (t : TblO P h) {b : Addr} {o : Obj} (e : h.get? b = some o) (d : ∀ ps, o.data ≠ .fields ps) : h'.get? b = some o :=
  k b o (fun z => by
    obtain ⟨_, ps, o', e', d'⟩ := t
    rw [z, e'] at e
    cases e
    exact d ps d') e
mutual
theorem reads_hb {P : Addr} {h h' : Heap} (k : HB P h h') (t : TblO P h) : ∀ (d : D) (v : Value) (as : List Addr), Reads h v d as → Reads h' v d as
  | .none, _, _, r => by cases r; exact .none
  | .bool _, _, _, r => by cases r; exact .bool _
  | .int _, _, _, r => by cases r; exact .int _ _
  | .str _, _, _, r => by cases r; exact .str _ _
  | .list ds, _, _, r => by
    cases r with
    | list e c d q => exact .list (k.data t e fun ps z => by rw [d] at z; cases z) c d (readsAll_hb k t ds _ _ q)
  | .tuple ds, _, _, r => by
    cases r with
    | tuple e c d q => exact .tuple (k.data t e fun ps z => by rw [d] at z; cases z) c d (readsAll_hb k t ds _ _ q)
  | .dict kvs, _, _, r => by
    cases r with
    | dict e c d q q' => exact .dict (k.data t e fun ps z => by rw [d] at z; cases z) c d (readsKs_hb k t kvs _ _ q) (readsVs_hb k t kvs _ _ q')
theorem readsAll_hb {P : Addr} {h h' : Heap} (k : HB P h h') (t : TblO P h) : ∀ (ds : List D) (vs : List Value) (as : List Addr), ReadsAll h vs ds as → ReadsAll h' vs ds as
  | [], _, _, r => by cases r; exact .nil
  | d :: ds, _, _, r => by
    cases r with
    | cons a b => exact .cons (reads_hb k t d _ _ a) (readsAll_hb k t ds _ _ b)
theorem readsKs_hb {P : Addr} {h h' : Heap} (k : HB P h h') (t : TblO P h) : ∀ (kvs : List (D × D)) (vs : List Value) (as : List Addr), ReadsAll h vs (kvs.map (·.1)) as → ReadsAll h' vs (kvs.map (·.1)) as
  | [], _, _, r => by cases r; exact .nil
  | d :: ds, _, _, r => by
    cases r with
    | cons a b => exact .cons (reads_hb k t d.1 _ _ a) (readsKs_hb k t ds _ _ b)
theorem readsVs_hb {P : Addr} {h h' : Heap} (k : HB P h h') (t : TblO P h) : ∀ (kvs : List (D × D)) (vs : List Value) (as : List Addr), ReadsAll h vs (kvs.map (·.2)) as → ReadsAll h' vs (kvs.map (·.2)) as
  | [], _, _, r => by cases r; exact .nil
  | d :: ds, _, _, r => by
    cases r with
    | cons a b => exact .cons (reads_hb k t d.2 _ _ a) (readsVs_hb k t ds _ _ b)
end
/-! ### what is walked -/
/-- the names tn at turn i hold the row i -/
def RowAt (h : Heap) (tn : List Str) (rows : List (List D)) (i : Nat) (m : Str → Option Value) : Prop := ∃ row, rows[i]? = some row ∧ row.length = tn.length ∧ ∀ (j : Nat) (x : Str) (d : D), tn[j]? = some x → row[j]? = some d → ∃ v as, m x = some v ∧ Reads h v d as
structure EnvT (ce : GE) (tn : List Str) : Prop where
  kind : ce.scope.kind = .function
  loc : ∀ x ∈ tn, ce.kindOf x = some .local
  nodup : tn.Nodup
theorem EnvT.cls {ce : GE} {tn : List Str} (h : EnvT ce tn) : (ce.scope.kind == .class || (ce.scope.kind == .module && ce.locals != ce.globals)) = false := by rw [h.kind]; rfl
/-- an iterator has come, at s2; s1: ahead of it -/
structure SrcAt (X : Cx) (pins : List (Addr × Obj)) (σ : St) (tg : Expr) (tn : List Str) (I : Addr) (rows : List (List D)) (H1 : Hp) (s1 s2 : Shared) (wr : List Addr) (Stt : Nat → Heap → Prop) : Prop where
  inv : Inv X pins σ H1 s1
  same : ∃ h2 tk, s2 = { s1 with heap := h2, toks := tk }
  ext : HExt s1.heap s2.heap
  sz : s1.heap.objs.size ≤ s2.heap.objs.size
  new : ∀ b ∈ wr, s1.heap.objs.size ≤ b ∧ b < s2.heap.objs.size
  start : ∀ (P : Addr) (h' : Heap), TblO P s1.heap → HB P s2.heap h' → Stt 0 h'
  step : ∀ (P : Addr) (ce : GE) (href : Heap) (N : Nat), TblO P s1.heap → EnvT ce tn → HB P s1.heap href → s2.heap.objs.size ≤ N → ce.locals ∉ List.range N → GStep X.prog X.w ce tg I (List.range N) wr rows.length (RowAt s1.heap tn rows) href Stt
structure GSrc (Γ : Tx) (W : WX) (X : Cx) (tg iter : Expr) (tn : List Str) (f : Env → Out (List (List D))) : Prop where
  ex : ∃ t : St → Hp → (List (List D) → Hp → Prop) → Prop,
    (∀ (pins : List (Addr × Obj)) (s : Shared) (σ : St) (H : Hp) (R : List (List D) → Hp → Prop), Inv X pins σ H s → t σ H R → wpAny (model X.prog X.w) X.A (eval iter X.env) (fun xv s1 => wpAny (model X.prog X.w) X.A (pyIter xv) (fun it s2 =>
      ∃ I rows H1 s1' wr Stt, it = .ref I ∧ SrcAt X pins σ tg tn I rows H1 s1' s2 wr Stt ∧ R rows H1) X.xe s1) X.xe s) ∧
    ∀ (C : Cfg), C.Of Γ → ∀ (σ : St) (H P : Hp) (r : Env) (R : List (List D) → Hp → Prop), Sit C P H σ r → Cont C W σ P H r (f r) (fun rows r' P' H' => R rows H') → t σ H R
/-- the generator expression's own scope -/
structure GScp (X : Cx) (scope : Scope) (tn cn : List Str) : Prop where
  kind : scope.kind = .function
  co : scope.isCoroutine = false
  cell : ∀ y ∈ scope.names, y.2 ≠ .cell
  dot : scope.names.lookup (".0" : Str) = some NameKind.local
  loc : ∀ x ∈ tn, scope.names.lookup x = some .local
  nodup : tn.Nodup
  free : ∀ y ∈ scope.names, y.2 = .free → X.env.scope.names.lookup y.1 = some .cell ∨ X.env.scope.names.lookup y.1 = some .free
  cap : ∀ x ∈ cn, scope.names.lookup x = some .free
  uniq : ∀ y ∈ scope.names, scope.names.lookup y.1 = some y.2
  cd : ∀ x ∈ cn, (x == ("__classdict__" : Str)) = false
/-- the captured names cn at the slots ci hold caps -/
def CapAt (X : Cx) (σ : St) (H : Hp) (cn : List Str) (ci : List Nat) (caps : List D) : Prop := ∀ (j : Nat) (d : D), caps[j]? = some d → ∃ x i v, cn[j]? = some x ∧ ci[j]? = some i ∧ X.N[i]? = some x ∧ σ[i]? = some (some v) ∧ Dp X.K H v d
/-- the built-ins that a generator expression may call -/
def BlOk (X : Cx) (scope : Scope) (Bl : Str → Option Value) : Prop := ∀ x v, Bl x = some v → scope.names.lookup x = some .globalImplicit ∧ X.mg x = none ∧ bootBuiltins x = some v ∧ x ≠ "__name__" ∧ (x == ("__debug__" : Str)) = false
/-- a generator over the outs, ready to be walked at s5 -/
def ReadyG (X : Cx) (pins : List (Addr × Obj)) (σ : St) (H1 : Hp) (P : Addr) (outs : List D) (g : Addr) (s5 : Shared) : Prop :=
  ∃ (fp wr : List Addr) (G : Array GenState → Array GenState → Prop) (F : Nat → Value → Prop) (Stt : Nat → Shared → Prop),
    WalksS X.prog X.w X.A.in1 g fp wr G outs.length F Stt ∧ Stt 0 s5 ∧ (∀ b ∈ fp, b < s5.heap.objs.size) ∧ (∀ j y, F j y → ∃ d, outs[j]? = some d ∧ ScalarIs d y) ∧
    ∀ s', Moved wr G s5 s' → ∃ H2, GxR.Tabbed P H1 H2 ∧ Inv X pins σ H2 s'
theorem cells_free {X : Cx} (ok : X.Ok) {scope : Scope} {tn cn : List Str} (S : GScp X scope tn cn) : ∀ y ∈ scope.names, y.2 = .free → ∃ c, X.env.cells.lookup y.1 = some c := fun y hy e => by
  rcases S.free y hy e with k | k
  · exact ok.has _ (.inl k)
  · exact ok.has _ (.inr k)
theorem clo_lookup {cells : List (Str × Addr)} {x : Str} {c : Addr} : ∀ {names : List (Str × NameKind)} {acc : List (Str × Addr)}, (x, NameKind.free) ∈ names → (∀ y ∈ names, y.1 = x → y.2 = .free) → cells.lookup x = some c → (∀ a, acc.lookup x = some a → a = c) → (cloFrom cells names acc).lookup x = some c
  | [], acc, h, _, _, _ => by cases h
  | (n, k) :: r, acc, h, hu, hc, ha => by
    have base : ∀ (acc : List (Str × Addr)), acc.lookup x = some c → ∀ (r : List (Str × NameKind)), (∀ y ∈ r, y.1 = x → y.2 = .free) → (cloFrom cells r acc).lookup x = some c := by
      intro acc e r
      induction r generalizing acc with
      | nil => intro _; exact e
      | cons y r ih =>
        intro hr
        obtain ⟨n, k⟩ := y
        unfold cloFrom
        by_cases hk : (k == .free) = true
        · rw [if_pos hk]
          refine ih _ ?_ fun y hy => hr y (List.mem_cons_of_mem _ hy)
          rw [List.lookup_cons]
          cases hb : x == n with
          | true =>
            have : x = n := eq_of_beq hb
            subst this
            show some ((cells.lookup x).getD 0) = some c
            rw [hc]; rfl
          | false => exact e
        · rw [if_neg hk]; exact ih _ e fun y hy => hr y (List.mem_cons_of_mem _ hy)
    unfold cloFrom
    rcases List.mem_cons.mp h with e | h
    · cases e
      rw [if_pos (by rfl)]
      refine base _ ?_ r fun y hy => hu y (List.mem_cons_of_mem _ hy)
      rw [List.lookup_cons]
      simp [hc]
    · by_cases hk : (k == .free) = true
      · rw [if_pos hk]
        refine clo_lookup h (fun y hy => hu y (List.mem_cons_of_mem _ hy)) hc fun a e => ?_
        rw [List.lookup_cons] at e
        cases hb : x == n with
        | true =>
          have : x = n := eq_of_beq hb
          subst this
          rw [hb] at e
          simp [hc] at e
          exact e.symm
        | false => rw [hb] at e; exact ha a e
      · rw [if_neg hk]
        exact clo_lookup h (fun y hy => hu y (List.mem_cons_of_mem _ hy)) hc ha
theorem look_mem {names : List (Str × NameKind)} {x : Str} {k : NameKind} (h : names.lookup x = some k) : (x, k) ∈ names := by
  induction names with
  | nil => cases h
  | cons y r ih =>
    obtain ⟨n, k'⟩ := y
    rw [List.lookup_cons] at h
    cases hb : x == n with
    | true =>
      rw [hb] at h
      have : x = n := eq_of_beq hb
      subst this
      cases h; exact List.mem_cons_self
    | false => rw [hb] at h; exact List.mem_cons_of_mem _ (ih h)
section
variable {X : Cx} {pins : List (Addr × Obj)} {σ : St} {scope : Scope} {tn cn : List Str} {ci : List Nat} {Bl : Str → Option Value}
/-- the frame of a generator expression holds the row and what is captured -/
theorem genv_of (ok : X.Ok) (S : GScp X scope tn cn) (hb : BlOk X scope Bl) {H1 : Hp} {s1 : Shared} (I1 : Inv X pins σ H1 s1) {caps row : List D} {s : Heap} {C P : Addr} {code : Value} {m : Str → Option Value} (hcap : CapAt X σ H1 cn ci caps) (hcl : caps.length = cn.length)
    (t : TblO P s1.heap) (hk : HB P s1.heap s) (gP : mainGlobals ≠ P) (hn : s.Ns C m) (hl : row.length = tn.length) (hrow : ∀ (j : Nat) (x : Str) (d : D), tn[j]? = some x → row[j]? = some d → ∃ v as, m x = some v ∧ Reads s1.heap v d as) :
    GEnv X.prog X.w (genEnv scope (cloFrom X.env.cells scope.names []) C code builtinsNs X.env) Bl (tn ++ cn) s (row ++ caps) := by
  refine ⟨fun j x d hM hρ => ?_, fun x v hB pos A Q E s' k q => ?_⟩
  · rcases Nat.lt_or_ge j tn.length with l | l
    · rw [List.getElem?_append_left l] at hM
      rw [List.getElem?_append_left (by rw [hl]; exact l)] at hρ
      obtain ⟨v, as, hm, r⟩ := hrow j x d hM hρ
      refine ⟨v, as, reads_hb hk t _ _ _ r, fun A Q E s' k q => ?_⟩
      exact wpAny_loadName_local S.kind (S.loc x (List.mem_of_getElem? hM)) (hn.keeps k) hm q
    · rw [List.getElem?_append_right l] at hM
      rw [List.getElem?_append_right (by rw [hl]; exact l), hl] at hρ
      obtain ⟨y, i, v, c1, c2, c3, c4, c5⟩ := hcap _ d hρ
      rw [hM] at c1
      cases c1
      have hf := S.cap x (List.mem_of_getElem? hM)
      have hfm := look_mem hf
      obtain ⟨mm, _, hloc⟩ := I1.loc
      have hv : Vis X.env.scope x := by
        rcases S.free _ hfm rfl with z | z
        · exact .inr (.inl z)
        · exact .inr (.inr z)
      obtain ⟨u, ru, lk⟩ := hloc i x v c3 c4 hv
      obtain ⟨as, rd⟩ := Dp.reads I1 d v u c5 ru
      have hcell : ∃ c, X.env.cells.lookup x = some c ∧ s1.heap.IsCell c (some u) := by
        rcases lk with ⟨q1, _⟩ | ⟨_, q⟩
        · rcases S.free _ hfm rfl with z | z
          · have q1 : X.env.scope.names.lookup x = some .local := q1
            rw [z] at q1; cases q1
          · have q1 : X.env.scope.names.lookup x = some .local := q1
            rw [z] at q1; cases q1
        · exact q
      obtain ⟨c, hc1, hc2⟩ := hcell
      refine ⟨u, as, reads_hb hk t _ _ _ rd, fun A Q E s' k q => ?_⟩
      have hu : ∀ y ∈ scope.names, y.1 = x → y.2 = .free := fun y hy e => by
        have := S.uniq y hy
        rw [e, hf] at this
        exact (Option.some.inj this).symm
      refine wpAny_loadName_free S.kind hf (clo_lookup hfm hu hc1 fun a e => by cases e) ?_ q ?_
      · obtain ⟨o, q1, q2⟩ := hc2
        exact ⟨o, k _ _ (hk.data t q1 fun ps z => by rw [q2] at z; cases z), q2⟩
      · exact S.cd x (List.mem_of_getElem? hM)
  · obtain ⟨b1, b2, b3, b4, b5⟩ := hb x v hB
    obtain ⟨mb, h1, h2⟩ := I1.mod.blt
    have kk : ∀ {a m}, s1.heap.Ns a m → s'.heap.Ns a m := fun {a m} hns => by
      obtain ⟨o, es, ep, q1, q2, q3⟩ := hns
      exact ⟨o, es, ep, k _ _ (hk.data t q1 fun ps z => by rw [q2] at z; cases z), q2, q3⟩
    exact Calls.Name_function_global S.kind b1 (Calls.loadGlobal_builtin (by show s'.heap.Ns X.env.globals _; rw [I1.ok.glob]; exact kk (I1.mod.glob.keeps I1.bk)) b2 (kk (h1.keeps I1.bk)) ((h2 x b4).trans b3) q) b5
end
/-- tests of a generator expression -/
def xYes (_ : List D) : Option Bool := some true
structure PXTs (prog : Program) (w : World) (Bl : Str → Option Value) (M : List Str) (es : List Expr) (f : List D → Option Bool) : Prop where
  run : ∀ (cenv : PySem.Env) (h : Heap) (ρ : List D) (b : Bool) (A : Around) (E : Value → Shared → Prop) (s : Shared), GEnv prog w cenv Bl M h ρ → QOkA A → HExt h s.heap → f ρ = some b →
    wpAny (model prog w) A (forIn es true fun c r => if r = true then do let ok ← PySem.isTrue c cenv (eval c cenv); pure (ForInStep.yield ok) else pure (ForInStep.yield r)) (fun c s' => c = b ∧ Keeps s s') E s
section
variable {prog : Program} {w : World} {Bl : Str → Option Value} {M : List Str}
theorem pxts_nil : PXTs prog w Bl M [] xYes := ⟨fun cenv h ρ b A E s G hA k e => by cases e; exact wpAny_tests_nil ⟨rfl, GxR.keeps_refl _⟩⟩
theorem pxts_one {c : Expr} {f : List D → Option Bool} (h : PXT prog w Bl M c f) : PXTs prog w Bl M [c] f := ⟨fun cenv h' ρ b A E s G hA k e => wpAny_tests_one (h.run cenv h' ρ b A E s G hA k e)⟩
end
theorem sh_same (s : Shared) {s' : Shared} (h : s'.os = s.os) : ({ s with heap := s'.heap, gens := s'.gens, drawn := s'.drawn, toks := s'.toks } : Shared) = s' := by
  cases s'
  cases h
  rfl
section
variable {X : Cx} {pins : List (Addr × Obj)} {σ : St} {H : Hp} {s : Shared} {scope : Scope} {tn cn : List Str} {ci : List Nat} {Bl : Str → Option Value} {elt tg iter : Expr} {ifs : List Expr} {gpos : Pos} {c P : Addr} {fe : List D → Option D} {ft : List D → Option Bool} {k : Nat}
/-- (elt for tg in iter if ifs): evaluated, not yet walked -/
theorem gen_data {t : St → Hp → (List (List D) → Hp → Prop) → Prop} {Q' : Value → Shared → Prop} {R : List (List D) → Hp → Prop} (hr : Room k X.A) (TB : GxR.TabB X.base X.mg c P) (hcode : X.env.code = .ref c) (S : GScp X scope tn cn) (hb : BlOk X scope Bl)
    (hsrc : ∀ (pins : List (Addr × Obj)) (s : Shared) (σ : St) (H : Hp) (R : List (List D) → Hp → Prop), Inv X pins σ H s → t σ H R → wpAny (model X.prog X.w) X.A (eval iter X.env) (fun xv s1 => wpAny (model X.prog X.w) X.A (pyIter xv) (fun it s2 =>
      ∃ I rows H1 s1' wr Stt, it = .ref I ∧ SrcAt X pins σ tg tn I rows H1 s1' s2 wr Stt ∧ R rows H1) X.xe s1) X.xe s)
    (he : PX X.prog X.w Bl (tn ++ cn) elt fe) (ht : PXTs X.prog X.w Bl (tn ++ cn) ifs ft) (hf : ∀ v, genFold iter X.env v = pure v) (I : Inv X pins σ H s)
    (h : t σ H R) (hR : ∀ rows H1, R rows H1 → GxR.TabG H1 P ∧ (∃ caps outs, caps.length = cn.length ∧ CapAt X σ H1 cn ci caps ∧ genD ft fe caps rows = some outs ∧ (∀ d ∈ outs, scalarB d = true) ∧ ∀ g s5, ReadyG X pins σ H1 P outs g s5 → Q' (.ref g) s5)) :
    wpAny (model X.prog X.w) X.A (eval (.GeneratorExp elt [⟨tg, iter, ifs, 0⟩] scope gpos) X.env) Q' X.xe s := by
  have okX := I.ok
  refine wpAny_GeneratorExp_make S.co (closure_ok (cells_free okX S)) S.cell S.dot S.kind (by have := hr.dp; omega) ?_ hf
  refine wpAny_mono (hsrc pins s σ H _ I h) (fun xv s1 q1 => wpAny_mono q1 (fun it s2 q2 => ?_) fun _ _ e => e) fun _ _ e => e
  obtain ⟨g0, rows, H1, s1', wr, Stt, rfl, A0, qR⟩ := q2
  obtain ⟨⟨ps, hP, htr⟩, caps, outs, hcl, hcap, hgen, hsc, hQ⟩ := hR rows H1 qR
  have I1 := A0.inv
  obtain ⟨h2, tk2, rfl⟩ := A0.same
  have hPs : s1'.heap.get? P = some { cls := .none, data := .fields ps } := I1.hok P _ hP
  have hP2 : h2.get? P = some { cls := .none, data := .fields ps } := A0.ext _ _ hPs
  have cd : PySem.W.CodeHd h2 c P := TB.code.keeps fun b u e => A0.ext b u (I1.bk b u e)
  have lim2 : h2.NoLimit := I1.nolimit.keeps A0.ext
  obtain ⟨hp1, hp2, hp3⟩ := genD_pass hgen
  have cont : ∀ (code : Value) (h3 : Heap) (tk : Nat) (ps' : Array Value), Heap.ExtBut P h2 h3 → h2.objs.size ≤ h3.objs.size → h3.get? P = some { cls := .none, data := .fields ps' } → (∃ more, ps' = ps ++ more) → TriplesOk ps'.toList →
      wpAny (model X.prog X.w) X.A (builtinsFor X.env.globals X.env.builtins) (fun bi s₄ =>
        ∀ h', h'.Ns s₄.heap.objs.size (fun y => if y = ".0" then some (.ref g0) else none) → Heap.SameBut s₄.heap.objs.size (s₄.heap.push { cls := .type "frame", data := .dict #[] }) h' →
          Q' (.ref h'.objs.size) { s₄ with
            gens := s₄.gens.push (.fresh (.compStart (.GeneratorExp elt [⟨tg, iter, ifs, 0⟩] scope gpos) 0 (.ref g0) .none (genEnv scope (cloFrom X.env.cells scope.names []) s₄.heap.objs.size code bi X.env))),
            toks := s₄.toks + 1 + 1 + 1,
            heap := h'.push { cls := .type "generator", data := .fields #[.int s₄.gens.size 0, .str "<genexpr>" (s₄.toks + 1), .str (X.env.qual ++ "<genexpr>") (s₄.toks + 1 + 1)] } }) X.xe { s1' with heap := h3, toks := tk } := by
    intro code h3 tk ps' hx hsz hP3 hmore ht3
    obtain ⟨bm, ob, e1, e2, e3, e4, e5, e6, e7, e8⟩ := TB.bm
    have hcP : cStatics ≠ P := fun e => by
      obtain ⟨_, hns, _⟩ := I1.nolimit
      obtain ⟨o', es, ep, ho, hd, _⟩ := hns
      rw [e, hPs] at ho
      cases ho
      cases hd
    have hcl0 : cStatics < s1'.heap.objs.size := let ⟨_, hns, _⟩ := I1.nolimit; hns.lt
    have sz12 : s1'.heap.objs.size ≤ h2.objs.size := A0.sz
    have sz13 : s1'.heap.objs.size ≤ h3.objs.size := Nat.le_trans sz12 hsz
    have clN : cStatics < h3.objs.size := Nat.lt_of_lt_of_le hcl0 sz13
    have keep3 : ∀ b u, b ≠ P → s1'.heap.get? b = some u → h3.get? b = some u := fun b u hb e => hx b u hb (A0.ext _ _ e)
    refine wpAny_builtinsFor (m := X.mg) (by rw [I1.ok.glob]; exact (((I1.mod.glob.keeps I1.bk).keeps A0.ext).extBut hx TB.gP)) e1 e2 (keep3 _ _ e4 (I1.bk _ _ e5)) e6 e7 e8 ?_
    intro h' hn' hs'
    have tP : TblO P s1'.heap := ⟨.none, ps, _, hPs, rfl⟩
    have hsz' : h'.objs.size = h3.objs.size + 1 := by rw [hs'.1, Heap.size_push]
    have keep' : ∀ b o, h3.get? b = some o → h'.get? b = some o := fun b o e => hs'.extBut b o (Nat.ne_of_lt (Heap.lt_size e)) (Heap.get?_push_of_some _ e)
    have keep5 : ∀ (ob : Obj) b o, h3.get? b = some o → (h'.push ob).get? b = some o := fun ob b o e => Heap.get?_push_of_some _ (keep' b o e)
    have hsub : ∀ b ∈ wr, b ∈ List.range h3.objs.size := fun b hb => List.mem_range.mpr (Nat.lt_of_lt_of_le (A0.new b hb).2 hsz)
    have haC : h'.objs.size ≠ h3.objs.size := by rw [hsz']; exact Nat.succ_ne_self _
    have haf : h'.objs.size ∉ List.range h3.objs.size := fun hm => by have := List.mem_range.mp hm; omega
    have hcs : cStatics ∈ List.range h3.objs.size := List.mem_range.mpr clN
    have hcC : cStatics ≠ h3.objs.size := Nat.ne_of_lt clN
    have hcw : cStatics ∉ wr := fun hm => Nat.lt_irrefl _ (Nat.lt_of_lt_of_le hcl0 (A0.new _ hm).1)
    have hCf : h3.objs.size ∉ List.range h3.objs.size := fun hm => Nat.lt_irrefl _ (List.mem_range.mp hm)
    have W5 := WalksS.genexpQ (prog := X.prog) (w := X.w) (A := X.A.in4) hr.hd h'.objs.size s1'.gens.size h3.objs.size (List.range h3.objs.size) wr (pzOf ft caps rows) rows.length
      (fun i y => ∃ row d, rows[i]? = some row ∧ fe (row ++ caps) = some d ∧ ScalarIs d y) haC haf hsub (by have := hr.dp; show X.A.depth < _; omega) hcs hcC hcw
    have pas : passing (pzOf ft caps rows) rows.length 0 = (List.range rows.length).filter (pzOf ft caps rows) := by unfold passing; rw [List.drop_zero]
    have plen : (passing (pzOf ft caps rows) rows.length 0).length = outs.length := by rw [pas]; exact hp1
    rw [plen] at W5
    have hU : X.A.units + 78 < cLine := by have := hr.un; omega
    refine hQ _ _ ⟨_, _, _, _, _, W5.in4_1, ?_, ?_, ?_, fun s' hm => ?_⟩
    · -- the generator at its start
      refine genAtG (A := X.A.in4) (ce := genEnv scope (cloFrom X.env.cells scope.names []) h3.objs.size code builtinsNs X.env) (m := fun y => if y = ".0" then some (.ref g0) else none) (Bd := RowAt s1'.heap tn rows) (St := Stt) hr.hd
        (A0.step P _ _ _ tP ⟨S.kind, S.loc, S.nodup⟩ (fun b o hb e => keep5 _ b o (keep3 b o hb e)) hsz hCf) S.co hCf ⟨fun A' E i s5 m hA hu hB hns hk => ?_, fun A' E i s5 m hA hu hB hp hns hk => ?_⟩
        ⟨_, _, _, Heap.get?_push_size _ rfl, rfl, rfl, rfl⟩ (Array.getElem?_push_size ..) (A0.start P _ tP fun b o hb e => keep5 _ b o (hx b o hb e)) (hn'.push _) ((lim2.extBut hx hcP).keeps (keep5 _))
      · obtain ⟨row, e1, e2, e3⟩ := hB
        have G := genv_of (code := code) okX S hb I1 hcap hcl tP (s := s5.heap) (fun b o hbP e => hk b (List.mem_range.mpr (Nat.lt_of_lt_of_le (Heap.lt_size e) (Nat.le_trans sz12 hsz))) (fun hw => absurd (Heap.lt_size e) (Nat.not_lt.mpr (A0.new b hw).1)) o (keep5 _ b o (keep3 b o hbP e))) TB.gP hns e2 e3
        exact ht.run _ s5.heap _ _ A' E s5 G ⟨hA, by have : A'.units ≤ X.A.units + 8 := hu; omega⟩ (HExt.refl _) (hp3 i row e1)
      · obtain ⟨row, e1, e2, e3⟩ := hB
        have G := genv_of (code := code) okX S hb I1 hcap hcl tP (s := s5.heap) (fun b o hbP e => hk b (List.mem_range.mpr (Nat.lt_of_lt_of_le (Heap.lt_size e) (Nat.le_trans sz12 hsz))) (fun hw => absurd (Heap.lt_size e) (Nat.not_lt.mpr (A0.new b hw).1)) o (keep5 _ b o (keep3 b o hbP e))) TB.gP hns e2 e3
        have hi : i < rows.length := (List.getElem?_eq_some_iff.mp e1).1
        have hmem : i ∈ (List.range rows.length).filter (pzOf ft caps rows) := List.mem_filter.mpr ⟨List.mem_range.mpr hi, hp⟩
        obtain ⟨j, hj, ej⟩ := List.getElem_of_mem hmem
        obtain ⟨row', d, q1, q2, q3⟩ := hp2 j i (by rw [List.getElem?_eq_getElem hj, ej])
        rw [e1] at q1
        cases q1
        have hA' : QOkA A' := ⟨hA, by have : A'.units ≤ X.A.units + 8 := hu; omega⟩
        refine wpAny_mono (he.run _ s5.heap _ _ A' E s5 G hA' (HExt.refl _) q2) (fun y s6 ⟨⟨as, r6⟩, k6⟩ => ?_) fun _ _ e => e
        exact ⟨⟨row, d, e1, q2, scalar_of r6 (hsc d (List.mem_of_getElem? q3))⟩, k6⟩
    · intro b hb
      have sz5 : ∀ (ob : Obj), (h'.push ob).objs.size = h'.objs.size + 1 := fun ob => Heap.size_push ..
      have l3 : h3.objs.size < h'.objs.size := by rw [hsz']; exact Nat.lt_succ_self _
      show b < (h'.push _).objs.size
      rw [sz5]
      rcases List.mem_cons.mp hb with z | z
      · rw [z]; exact Nat.lt_succ_self _
      · rcases List.mem_cons.mp z with z | z
        · rw [z]; exact Nat.lt_succ_of_lt l3
        · exact Nat.lt_succ_of_lt (Nat.lt_trans (List.mem_range.mp z) l3)
    · rintro j y ⟨i, hij, row, d, q1, q2, q3⟩
      rw [pas] at hij
      obtain ⟨row', d', p1, p2, p3⟩ := hp2 j i hij
      rw [q1] at p1
      cases p1
      rw [q2] at p2
      cases p2
      exact ⟨d, p3, q3⟩
    · obtain ⟨more, em⟩ := hmore
      have nwr : ∀ b u, s1'.heap.get? b = some u → b ∉ h3.objs.size :: wr := fun b u e hb => by
        have hl := Heap.lt_size e
        rcases List.mem_cons.mp hb with z | z
        · rw [z] at hl; exact absurd hl (Nat.not_lt.mpr sz13)
        · exact absurd hl (Nat.not_lt.mpr (A0.new b z).1)
      have J := GxR.inv_tab (more := more) (h' := s'.heap) (g' := s'.gens) (d' := s'.drawn) (t' := s'.toks) I1 hP (fun b u hbP e => hm.heap b u (nwr b u e) (keep5 _ b u (keep3 b u hbP e)))
        (by rw [← em]; exact hm.heap P _ (nwr P _ hPs) (keep5 _ P _ hP3)) (AllBare.movedS (I1.bare.push rfl) hm)
      rw [sh_same s1' hm.os] at J
      exact ⟨upd H1 P (.tbl (ps ++ more)), ⟨⟨ps ++ more, upd_same, by rw [← em]; exact ht3⟩, fun b hb => upd_ne hb⟩, J⟩
  refine ⟨lim2, ?_⟩
  cases hfc : codeAmong gpos ps.toList with
  | none =>
    refine wpAny_genexprCodeX hcode (cd.code hP2 htr) (cd.tab hP2) hfc fun c' h' tk hx hge hlt hco' _ htab' _ => ?_
    obtain ⟨o1, vs, f1, tf, fl, tg', inF, tx, tt, op, _, _, _, _, _, _, _, _, _, htr', _⟩ := hco'
    exact cont _ h' tk _ hx (Nat.le_trans hge (Nat.le_of_lt hlt)) htab'.2 ⟨_, rfl⟩ htr'
  | some cv =>
    refine wpAny_genexprCode_hit hcode (cd.code hP2 htr) hfc ?_
    exact cont cv h2 tk2 ps (Heap.ExtBut.refl _ _) (Nat.le_refl _) hP2 ⟨#[], by simp⟩ htr
end
end Dn

end
section
/-! Dn20: any, all, sum, min, max of a generator expression. -/
namespace Dn
open PySem L2
open PyProof.Rows hiding St
def capsOf (ci : List Nat) (r : Env) : Option (List D) := match ci with
  | [] => some []
  | i :: ci => match slotC r i, capsOf ci r with
    | some d, some ds => if isDic d = true then none else some (d :: ds)
    | _, _ => none
def eGen (agg : List D → Option D) (ci : List Nat) (fi : Env → Out (List (List D))) (ft : List D → Option Bool) (fe : List D → Option D) (r : Env) : Out Res := (fi r).bind fun rows r1 => match capsOf ci r1 with
  | none => .bad
  | some caps => match genD ft fe caps rows with
    | none => .bad
    | some outs => match agg outs with
      | none => .bad
      | some d => .ok (.fz d) r1
def boolsD : List D → Option (List Bool)
  | [] => some []
  | .bool b :: ds => (boolsD ds).map (b :: ·)
  | _ :: _ => none
def agAny (outs : List D) : Option D := (boolsD outs).map fun bs => .bool (bs.any id)
def agAll (outs : List D) : Option D := (boolsD outs).map fun bs => .bool (bs.all id)
def fitI (i : Int) : Bool := decide (-1000000000000 ≤ i) && decide (i ≤ 1000000000000)
def agSum (outs : List D) : Option D := match intsD outs with
  | some ns => if ns.all fitI = true ∧ ns.length ≤ 100000 then some (.int ns.sum) else none
  | none => none
def agMin (outs : List D) : Option D := match intsD outs with
  | some (n :: ns) => some (.int (ns.foldl (fun a y => if decide (y < a) then y else a) n))
  | _ => none
def agMax (outs : List D) : Option D := match intsD outs with
  | some (n :: ns) => some (.int (ns.foldl (fun a y => if decide (y > a) then y else a) n))
  | _ => none
theorem boolsD_get : ∀ {outs : List D} {bs : List Bool}, boolsD outs = some bs → outs.length = bs.length ∧ ∀ (j : Nat) (d : D), outs[j]? = some d → d = .bool (bs.getD j false)
  | [], bs, h => by cases h; exact ⟨rfl, fun j d e => by simp at e⟩
  | d0 :: outs, bs, h => by
    cases d0 with
    | bool b =>
      obtain ⟨cs, e, rfl⟩ := Option.map_eq_some_iff.mp (show (boolsD outs).map (b :: ·) = some bs from h)
      obtain ⟨l, g⟩ := boolsD_get e
      refine ⟨by rw [List.length_cons, List.length_cons, l], fun j d ed => ?_⟩
      cases j with
      | zero => simp at ed; subst ed; rfl
      | succ j => exact g j d (by simpa using ed)
    | _ => cases h
theorem intsD_get : ∀ {outs : List D} {ns : List Int}, intsD outs = some ns → outs.length = ns.length ∧ ∀ (j : Nat) (d : D), outs[j]? = some d → d = .int (ns.getD j 0)
  | [], bs, h => by cases h; exact ⟨rfl, fun j d e => by simp at e⟩
  | d0 :: outs, bs, h => by
    cases d0 with
    | int b =>
      obtain ⟨cs, e, rfl⟩ := Option.map_eq_some_iff.mp (show (intsD outs).map (b :: ·) = some bs from h)
      obtain ⟨l, g⟩ := intsD_get e
      refine ⟨by rw [List.length_cons, List.length_cons, l], fun j d ed => ?_⟩
      cases j with
      | zero => simp at ed; subst ed; rfl
      | succ j => exact g j d (by simpa using ed)
    | _ => cases h
theorem bools_scalar {outs : List D} {bs : List Bool} (h : boolsD outs = some bs) : ∀ d ∈ outs, scalarB d = true := fun d hd => by
  obtain ⟨j, hj, e⟩ := List.getElem_of_mem hd
  rw [(boolsD_get h).2 j d (by rw [List.getElem?_eq_getElem hj, e])]; rfl
theorem ints_scalar {outs : List D} {bs : List Int} (h : intsD outs = some bs) : ∀ d ∈ outs, scalarB d = true := fun d hd => by
  obtain ⟨j, hj, e⟩ := List.getElem_of_mem hd
  rw [(intsD_get h).2 j d (by rw [List.getElem?_eq_getElem hj, e])]; rfl
theorem preSum_sum : ∀ (ns : List Int), preSum (fun j => ns.getD j 0) ns.length = ns.sum := by
  intro ns
  have key : ∀ (ms : List Int) (k : Nat), k ≤ ms.length → preSum (fun j => ms.getD j 0) k = (ms.take k).sum := by
    intro ms k
    induction k with
    | zero => intro _; simp [preSum]
    | succ k ih =>
      intro h
      show preSum _ k + ms.getD k 0 = _
      rw [ih (by omega), List.take_succ, List.sum_append]
      have : ms[k]? = some ms[k] := List.getElem?_eq_getElem (by omega)
      simp [this, List.getD_eq_getElem?_getD]
  rw [key ns ns.length (Nat.le_refl _), List.take_length]
/-- a built-in that walks a generator -/
structure AggOk (X : Cx) (id : String) (agg : List D → Option D) : Prop where
  sc : ∀ outs d, agg outs = some d → ∀ z ∈ outs, scalarB z = true
  run : ∀ (pins : List (Addr × Obj)) (σ : St) (H1 : Hp) (P : Addr) (outs : List D) (g : Addr) (s5 : Shared) (d : D) (Q : Value → Shared → Prop), ReadyG X pins σ H1 P outs g s5 → agg outs = some d →
    (∀ H2 s' y, GxR.Tabbed P H1 H2 → Inv X pins σ H2 s' → ScalarIs d y → Q y s') → wpAny (model X.prog X.w) X.A (call (.builtin id) [.ref g]) Q X.xe s5
section
variable {X : Cx}
theorem truth_of {F : Nat → Value → Prop} {outs : List D} {bs : List Bool} {A : Around} (hF : ∀ j y, F j y → ∃ d, outs[j]? = some d ∧ ScalarIs d y) (e : boolsD outs = some bs) : TruthOf X.prog X.w A F (fun j => bs.getD j false) := by
  intro j y s Q E hy q
  obtain ⟨d, h1, h2⟩ := hF j y hy
  rw [(boolsD_get e).2 j d h1] at h2
  have h2 : y = .bool (bs.getD j false) := h2
  rw [h2]
  exact wpAny_truthy_bool q
theorem ag_any : AggOk X "any" agAny := by
  refine ⟨fun outs d h => ?_, fun pins σ H1 P outs g s5 d Q hG h k => ?_⟩
  · obtain ⟨bs, e, _⟩ := Option.map_eq_some_iff.mp h
    exact bools_scalar e
  · obtain ⟨bs, e, rfl⟩ := Option.map_eq_some_iff.mp h
    obtain ⟨fp, wr, G, F, Stt, W, hst, hfp, hF, hI⟩ := hG
    refine call_any_walkS (W.self 0 _ _ _ hst ⟨g, fp, wr, G, _, F, Stt, _, rfl, W, hst, truth_of hF e, fun s' hm => ?_⟩)
    obtain ⟨H2, hT, J⟩ := hI s' hm
    rw [(boolsD_get e).1, L2.any_range]
    exact k H2 s' _ hT J rfl
theorem ag_all : AggOk X "all" agAll := by
  refine ⟨fun outs d h => ?_, fun pins σ H1 P outs g s5 d Q hG h k => ?_⟩
  · obtain ⟨bs, e, _⟩ := Option.map_eq_some_iff.mp h
    exact bools_scalar e
  · obtain ⟨bs, e, rfl⟩ := Option.map_eq_some_iff.mp h
    obtain ⟨fp, wr, G, F, Stt, W, hst, hfp, hF, hI⟩ := hG
    refine call_all_walkS (W.self 0 _ _ _ hst ⟨g, fp, wr, G, _, F, Stt, _, rfl, W, hst, truth_of hF e, fun s' hm => ?_⟩)
    obtain ⟨H2, hT, J⟩ := hI s' hm
    rw [(boolsD_get e).1, L2.all_range]
    exact k H2 s' _ hT J rfl
theorem ints_of {F : Nat → Value → Prop} {outs : List D} {ns : List Int} (hF : ∀ j y, F j y → ∃ d, outs[j]? = some d ∧ ScalarIs d y) (e : intsD outs = some ns) : ∀ j y, F j y → ∃ t, y = .int (ns.getD j 0) t := fun j y hy => by
  obtain ⟨d, h1, h2⟩ := hF j y hy
  rw [(intsD_get e).2 j d h1] at h2
  exact h2
theorem fit_sum {ns : List Int} (h : ns.all fitI = true) : ∀ k, k ≤ ns.length → -(k * 1000000000000 : Int) ≤ preSum (fun j => ns.getD j 0) k ∧ preSum (fun j => ns.getD j 0) k ≤ k * 1000000000000 := by
  intro k
  induction k with
  | zero => intro _; simp [preSum]
  | succ k ih =>
    intro hk
    have i1 := ih (by omega)
    have hm : ns.getD k 0 ∈ ns := by
      rw [List.getD_eq_getElem?_getD, List.getElem?_eq_getElem (by omega)]
      exact List.getElem_mem _
    have := List.all_eq_true.mp h _ hm
    unfold fitI at this
    simp only [Bool.and_eq_true, decide_eq_true_eq] at this
    show -(((k + 1 : Nat) : Int) * 1000000000000) ≤ preSum _ k + ns.getD k 0 ∧ preSum _ k + ns.getD k 0 ≤ ((k + 1 : Nat) : Int) * 1000000000000
    omega
theorem ag_sum : AggOk X "sum" agSum := by
  refine ⟨fun outs d h => ?_, fun pins σ H1 P outs g s5 d Q hG h k => ?_⟩
  · unfold agSum at h
    split at h
    · rename_i ns e; exact ints_scalar e
    · cases h
  · unfold agSum at h
    split at h
    · rename_i ns e
      split at h
      · rename_i hb
        cases h
        obtain ⟨fp, wr, G, F, Stt, W, hst, hfp, hF, hI⟩ := hG
        have hl := (intsD_get e).1
        refine call_sum_walkS (W.self 0 _ _ _ hst ⟨g, fp, wr, G, _, F, Stt, fun j => ns.getD j 0, rfl, W, hst, hfp, ints_of hF e, fun j hj => ?_, fun s' t' hm => ?_⟩)
        · have i1 := fit_sum hb.1 (j + 1) (by omega)
          have hm : ns.getD j 0 ∈ ns := by
            rw [List.getD_eq_getElem?_getD, List.getElem?_eq_getElem (by omega)]
            exact List.getElem_mem _
          have := List.all_eq_true.mp hb.1 _ hm
          unfold fitI at this
          simp only [Bool.and_eq_true, decide_eq_true_eq] at this
          unfold InLong
          have hk : ((j + 1 : Nat) : Int) ≤ 100000 := by omega
          have e63 : (2 : Int) ^ 63 = 9223372036854775808 := by decide
          rw [e63]
          refine ⟨⟨by show _ ≤ ns.getD j 0; omega, by show ns.getD j 0 < _; omega⟩, by omega, by omega⟩
        · obtain ⟨H2, hT, J⟩ := hI s' hm
          rw [hl, preSum_sum]
          exact k H2 s' _ hT J ⟨_, rfl⟩
      · cases h
    · cases h
theorem cmp_ints {op : CmpOp} {F : Nat → Value → Prop} {ns : List Int} {A : Around} {f : Int → Int → Bool} (h : ∀ j y, F j y → ∃ t, y = .int (ns.getD j 0) t)
    (rule : ∀ (i j : Int) (t u : Tok) (s : Shared) (Q E : Value → Shared → Prop), Q (.bool (f i j)) s → wpAny (model X.prog X.w) A (richCompare op (.int i t) (.int j u)) Q E s) : CmpOf X.prog X.w A op F (fun i j => f (ns.getD i 0) (ns.getD j 0)) := by
  intro i j vi vj s Q E hi hj q
  obtain ⟨t, rfl⟩ := h i vi hi
  obtain ⟨u, rfl⟩ := h j vj hj
  exact rule _ _ _ _ _ _ _ q
theorem ag_min : AggOk X "min" agMin := by
  refine ⟨fun outs d h => ?_, fun pins σ H1 P outs g s5 d Q hG h k => ?_⟩
  · unfold agMin at h
    split at h
    · rename_i n ns e; exact ints_scalar e
    · cases h
  · unfold agMin at h
    split at h
    · rename_i n ns e
      cases h
      obtain ⟨fp, wr, G, F, Stt, W, hst, hfp, hF, hI⟩ := hG
      have hl := (intsD_get e).1
      rw [List.length_cons] at hl
      have hI' := ints_of hF e
      have fold := (PySem.W.argBest_fold (fun y a : Int => decide (y < a)) 0 n ns ns.length (Nat.le_refl _)).2
      rw [List.take_length] at fold
      refine call_min_walkS (W.self 0 _ _ _ hst ⟨g, fp, wr, G, _, F, Stt, _, rfl, W, hst, hfp, by omega, cmp_ints (X := X) (f := fun y a => decide (y < a)) hI' (fun i j t u s Q E q => (PyProof.Rows.lt_int q : wpAny (model X.prog X.w) _ (compareOp .Lt (.int i t) (.int j u)) Q E s)), fun v s' hv hm => ?_⟩)
      obtain ⟨H2, hT, J⟩ := hI s' hm
      obtain ⟨t, rfl⟩ := hI' _ _ hv
      have el : outs.length - 1 = ns.length := by omega
      rw [el, fold]
      exact k H2 s' _ hT J ⟨t, rfl⟩
    · cases h
theorem ag_max : AggOk X "max" agMax := by
  refine ⟨fun outs d h => ?_, fun pins σ H1 P outs g s5 d Q hG h k => ?_⟩
  · unfold agMax at h
    split at h
    · rename_i n ns e; exact ints_scalar e
    · cases h
  · unfold agMax at h
    split at h
    · rename_i n ns e
      cases h
      obtain ⟨fp, wr, G, F, Stt, W, hst, hfp, hF, hI⟩ := hG
      have hl := (intsD_get e).1
      rw [List.length_cons] at hl
      have hI' := ints_of hF e
      have fold := (PySem.W.argBest_fold (fun y a : Int => decide (y > a)) 0 n ns ns.length (Nat.le_refl _)).2
      rw [List.take_length] at fold
      refine call_max_walkS (W.self 0 _ _ _ hst ⟨g, fp, wr, G, _, F, Stt, _, rfl, W, hst, hfp, by omega, cmp_ints (X := X) (f := fun y a => decide (y > a)) hI' (fun i j t u s Q E q => (PyProof.Rows.gt_int q : wpAny (model X.prog X.w) _ (compareOp .Gt (.int i t) (.int j u)) Q E s)), fun v s' hv hm => ?_⟩)
      obtain ⟨H2, hT, J⟩ := hI s' hm
      obtain ⟨t, rfl⟩ := hI' _ _ hv
      have el : outs.length - 1 = ns.length := by omega
      rw [el, fold]
      exact k H2 s' _ hT J ⟨t, rfl⟩
    · cases h
end
/-! ### the rule -/
def scalV : D → V
  | .bool b => .bl b
  | .int i => .int i
  | _ => .non
theorem scal_rel {d : D} {y : Value} (h : ScalarIs d y) : RelV (scalV d) y := by
  cases d with
  | bool b => exact h
  | int i => exact h
  | _ => exact h.elim
theorem scal_rp {P : Hp} {d : D} {y : Value} (h : ScalarIs d y) : Rp P (scalV d) d := by
  cases d with
  | bool b => exact .bl b
  | int i => exact .int i
  | _ => exact h.elim
section
variable {C : Cfg} {P H : Hp} {σ : St} {r : Env}
/-- the table has grown -/
theorem tr_tab {T : Addr} {H2 : Hp} (S : Sit C P H σ r) (hT : T ∈ C.TG) (t : GxR.Tabbed T H H2) (hl : ∀ p ∈ C.T, p.1 ≠ T) : Tr C σ P H r P H2 r := by
  obtain ⟨ps, hp, _⟩ := S.tabs.2 T hT
  have st : ∀ b o, H b = some o → NoTbl o → H2 b = some o := fun b o e n => by
    rw [t.2 b (fun z => by rw [z, hp] at e; cases e; exact n _ rfl)]; exact e
  have st2 : ∀ b, H2 b = none → H b = none := fun b e => by
    by_cases hb : b = T
    · obtain ⟨ps', h', _⟩ := t.1; rw [hb, h'] at e; cases e
    · rw [← t.2 b hb]; exact e
  refine ⟨⟨⟨fun p hm => ?_, fun p hm => ?_⟩, fun b o e => ?_, fun b o e nt nm => st b o (S.keep b o e nt nm) nt, fun b e => S.old b (st2 b e), fun j s es => ?_, S.len, S.own, S.newP⟩, Sub.refl P, fun b o e nt _ => st b o e nt, fun b h => .inl h, fun _ _ h => h, fun b o e => ?_⟩
  · obtain ⟨qs, h1, h2, h3⟩ := S.tabs.1 p hm
    refine ⟨qs, by rw [t.2 _ (hl p hm)]; exact h1, h2, fun pos cv hc => ?_⟩
    obtain ⟨c, e1, e2⟩ := h3 pos cv hc
    exact ⟨c, e1, st c _ e2 fun ps e => by unfold LamX.CodeO at e; cases e⟩
  · by_cases hb : p = T
    · rw [hb]; exact t.1
    · obtain ⟨qs, h1, h2⟩ := S.tabs.2 p hm
      exact ⟨qs, by rw [t.2 _ hb]; exact h1, h2⟩
  · obtain ⟨po, z⟩ := S.part b o e
    refine ⟨po, ?_⟩
    rcases z with z | ⟨z1, ob, z2⟩
    · exact .inl (st b o z (plain_notbl po))
    · exact .inr ⟨z1, ob, st b _ z2 fun ps e => by cases e⟩
  · have k := S.slot j s es
    cases s with
    | un => trivial
    | hid => exact k
    | fz d => exact k
    | ow d =>
      obtain ⟨b, e, n, n0, q⟩ := k
      obtain ⟨o, ho, po⟩ := q.obj
      exact ⟨b, e, n, n0, q.sub (Sub.refl P) ((st b o ho (plain_notbl po)).trans ho.symm)⟩
    | io d =>
      obtain ⟨b, e, n, n0, n1, q⟩ := k
      obtain ⟨o, ho, po⟩ := q.obj
      exact ⟨b, e, n, n0, n1, q.sub (Sub.refl P) ((st b o ho (plain_notbl po)).trans ho.symm)⟩
  · cases q : H2 b with
    | some o' => exact ⟨o', rfl⟩
    | none => have := st2 b q; rw [e] at this; cases this
theorem caps_at {X : Cx} {cn : List Str} : ∀ {ci : List Nat} {caps : List D}, Sit C P H σ r → capsOf ci r = some caps → (∀ (j i : Nat), ci[j]? = some i → ∃ x, cn[j]? = some x ∧ X.N[i]? = some x) → caps.length = ci.length ∧ ∀ (j : Nat) (d : D), caps[j]? = some d → ∃ i v, ci[j]? = some i ∧ σ[i]? = some (some v) ∧ Dp X.K H v d
  | [], caps, S, h, _ => by cases h; exact ⟨rfl, fun j d e => by simp at e⟩
  | i :: ci, caps, S, h, hn => by
    unfold capsOf at h
    split at h
    · rename_i d ds h1 h2
      split at h
      · cases h
      · rename_i nd
        cases h
        obtain ⟨l, g⟩ := caps_at (X := X) (cn := cn.tail) S h2 (fun j i e => by
          obtain ⟨x, a, b⟩ := hn (j + 1) i (by simpa using e)
          exact ⟨x, by simpa using a, b⟩)
        refine ⟨by rw [List.length_cons, List.length_cons, l], fun j d' e => ?_⟩
        cases j with
        | zero =>
          simp at e
          subst e
          obtain ⟨v, ev⟩ := slotC_val S h1
          have hc : ResOk C P H σ r v (.bw i) := ev
          exact ⟨i, v, rfl, ev, (hc.ct S h1).dp S.part fun kvs z => nd (by rw [z]; rfl)⟩
        | succ j =>
          obtain ⟨i', v, q1, q2, q3⟩ := g j d' (by simpa using e)
          exact ⟨i', v, by simpa using q1, q2, q3⟩
    · cases h
end
section
variable {Γ : Tx} {W : WX} {X : Cx} {scope : Scope} {tn cn : List Str} {ci : List Nat} {Bl : Str → Option Value} {elt tg iter : Expr} {ifs : List Expr} {gpos p pos : Pos} {c T : Addr} {fe : List D → Option D} {ft : List D → Option Bool} {fi : Env → Out (List (List D))} {k : Nat} {agg : List D → Option D} {nm : Str} {id : String}
theorem qe_gen (ci : List Nat) (ag : AggOk X id agg) (hg : Gl X nm) (hm : X.mg nm = none) (hbt : bootBuiltins nm = some (.builtin id)) (hr : Room k X.A) (TB : GxR.TabB X.base X.mg c T) (hcode : X.env.code = .ref c) (hT : T ∈ Γ.TG) (hTl : ∀ p ∈ Γ.T, p.1 ≠ T)
    (S : GScp X scope tn cn) (hb : BlOk X scope Bl) (hci : ∀ (j i : Nat), ci[j]? = some i → ∃ x, cn[j]? = some x ∧ X.N[i]? = some x) (hcl : ci.length = cn.length)
    (hsrc : GSrc Γ W X tg iter tn fi) (he : PX X.prog X.w Bl (tn ++ cn) elt fe) (ht : PXTs X.prog X.w Bl (tn ++ cn) ifs ft) (hf : ∀ v, genFold iter X.env v = pure v := by intro _; rfl) (hn : nm ≠ "__name__" := by decide) (hd : (nm == ("__debug__" : Str)) = false := by decide)
    (hs : starEach [.GeneratorExp elt [⟨tg, iter, ifs, 0⟩] scope gpos] X.env = (false, eval (.GeneratorExp elt [⟨tg, iter, ifs, 0⟩] scope gpos) X.env) :: starEach [] X.env := by rfl) :
    QE Γ W X (.Call (.Name nm p) [.GeneratorExp elt [⟨tg, iter, ifs, 0⟩] scope gpos] [] pos) (eGen agg ci fi ft fe) := by
  obtain ⟨t, run, kt⟩ := hsrc.ex
  refine ⟨fun σ H Q => t σ H fun rows H1 => GxR.TabG H1 T ∧ ∃ caps outs d, caps.length = cn.length ∧ CapAt X σ H1 cn ci caps ∧ genD ft fe caps rows = some outs ∧ agg outs = some d ∧ ∀ H2 y, GxR.Tabbed T H1 H2 → ScalarIs d y → Q (scalV d) H2, ⟨fun pins s σ H Q I q => ?_⟩, fun C hC σ H P r Q S0 q => ?_⟩
  · refine wpAny_Call_Name_kw (ld_blt I hg hm hbt ?_ hn hd)
    refine PyProof.Rows.callWith_builtin1 ?_ hs (by rfl)
    rw [hs]
    show wpAny _ _ (spliced ((false, eval (.GeneratorExp elt [⟨tg, iter, ifs, 0⟩] scope gpos) X.env) :: backTo pos (starEach [] X.env))) _ _ s
    refine Calls.spliced_cons (gen_data (ci := ci) hr TB hcode S hb run he ht hf I q fun rows H1 hR => ?_)
    obtain ⟨tab, caps, outs, d, hl, hcap, hgen, hag, hk⟩ := hR
    refine ⟨tab, caps, outs, hl, hcap, hgen, ag.sc outs d hag, fun g s5 G5 => Calls.spliced_nil (ag.run pins σ H1 T outs g s5 d _ G5 hag fun H2 s' y hT2 J sy => ?_)⟩
    exact ⟨scalV d, H2, J, scal_rel sy, hk H2 y hT2 sy⟩
  · refine kt C hC σ H P r _ S0 (q.bind fun rows r1 P1 H1 t1 q1 => ?_)
    cases e1 : capsOf ci r1 with
    | none => simp only [e1] at q1; exact q1.elim
    | some caps =>
      simp only [e1] at q1
      cases e2 : genD ft fe caps rows with
      | none => simp only [e2] at q1; exact q1.elim
      | some outs =>
        simp only [e2] at q1
        cases e3 : agg outs with
        | none => simp only [e3] at q1; exact q1.elim
        | some d =>
          simp only [e3] at q1
          have hTC : T ∈ C.TG := by rw [hC.2.1]; exact hT
          obtain ⟨l, g⟩ := caps_at (X := X) (cn := cn) t1.sit e1 hci
          refine ⟨t1.sit.tabs.2 T hTC, caps, outs, d, l.trans hcl, fun j d' ed => ?_, e2, e3, fun H2 y hT2 sy => ?_⟩
          · obtain ⟨i, v, a1, a2, a3⟩ := g j d' ed
            obtain ⟨x, b1, b2⟩ := hci j i a1
            exact ⟨x, i, v, b1, a1, b2, a2, a3⟩
          · have t2 := tr_tab t1.sit hTC hT2 (by rw [hC.1]; exact hTl)
            exact q1 P1 H2 t2 (scalV d) (RepT.of (scal_rp sy)) trivial
end
end Dn

end
section
/-! Dn21: what a generator expression walks. -/
namespace Dn
open PySem L2
open PyProof.Rows hiding St
section
variable {prog : Program} {w : World} {ce : GE} {tg : Expr} {I : Addr} {fp0 wr : List Addr} {n N : Nat} {Bd : Nat → (Str → Option Value) → Prop} {href : Heap} {Stt : Nat → Heap → Prop} {Pv : Nat → Value → Prop}
/-- a store of an item in the target -/
def StoreOk (prog : Program) (w : World) (ce : GE) (tg : Expr) (N : Nat) (wr : List Addr) (Bd : Nat → (Str → Option Value) → Prop) (href : Heap) (Pv : Nat → Value → Prop) : Prop :=
  ∀ (A : Around) (E : Value → Shared → Prop) (i : Nat) (v : Value) (s : Shared) (m : Str → Option Value), A.handled = none → Pv i v → s.heap.Ns ce.locals m → (∀ b ∈ List.range N, b ∉ wr → ∀ o, href.get? b = some o → s.heap.get? b = some o) →
    wpAny (model prog w) A (assign tg ce v) (fun _ s3 => ∃ h' tk m', s3 = { s with heap := h', toks := tk } ∧ h'.Ns ce.locals m' ∧ Bd i m' ∧ ∀ b o, b ≠ ce.locals → s.heap.get? b = some o → h'.get? b = some o) E s
def notOwner (nm : String) : Bool := !["enumerate", "zip", "dict_itemiterator", "dict_reverseitemiterator", "odict_iterator", "itertools.zip_longest", "itertools.pairwise"].contains nm
theorem gstep_walk (W : ∀ A : Around, A.handled = none → Walks prog w A I fp0 wr n Pv Stt) (hfp : ∀ b ∈ fp0, b ∈ List.range N) (hC : ce.locals ∉ List.range N) (hcl : ∀ i h, Stt i h → ∃ o nm vs, h.get? I = some o ∧ o.cls = .type nm ∧ o.data = .fields vs ∧ notOwner nm = true)
    (hst : StoreOk prog w ce tg N wr Bd href Pv) (A0 : Around) (hA0 : A0.handled = none) : GStep prog w ce tg I (List.range N) wr n Bd href Stt := by
  have fr : ∀ i h h', Stt i h → (∀ b ∈ List.range N, ∀ o, h.get? b = some o → h'.get? b = some o) → Stt i h' := fun i h h' st k => (W A0 hA0).frame i h h' st fun b hb o e => k b (hfp b hb) o e
  have hCw : ce.locals ∉ wr := fun z => hC (hfp _ ((W A0 hA0).sub _ z))
  refine ⟨fun b hb => hfp b ((W A0 hA0).sub b hb), fr, fun A E i s m hA hi st hn hk => ?_, fun A E s hA st => ?_, fun A E i s hA st => ?_⟩
  · refine (W A hA).item i s _ E hi st fun v h' tk hv st' up => ⟨v, rfl, ?_⟩
    obtain ⟨o, nm, vs, e1, e2, e3, e4⟩ := hcl _ _ st'
    refine go_of (s := { s with heap := h', toks := tk }) e1 e2 e3 (by unfold notOwner at e4; simpa using e4) ?_
    refine wpAny_mono (hst A E i v { s with heap := h', toks := tk } m hA hv (hn.at' fun o e => up _ o hCw e) fun b hb hw o e => up b o hw (hk b hb hw o e)) (fun _ s3 h3 => ?_) fun _ _ e => e
    obtain ⟨h4, tk4, m', rfl, hn', hb, k4⟩ := h3
    exact ⟨h4, tk4, m', rfl, hn', hb, fr _ _ _ st' fun b hb o e => k4 b o (fun z => hC (z ▸ hb)) e, fun b o hbC hbw e => k4 b o hbC (up b o hbw e)⟩
  · exact (W A hA).done s _ E st fun h' tk up => ⟨rfl, h', tk, rfl, up⟩
  · exact (W A hA).self i s _ E st ⟨rfl, rfl⟩
/-! ### stores -/
theorem store_name {h0 : Heap} {rows : List (List D)} {x : Str} {px : Pos} (hE : EnvT ce [x]) (hv : ∀ i v, Pv i v → ∃ d as, rows[i]? = some [d] ∧ Reads h0 v d as) : StoreOk prog w ce (.Name x px) N wr (RowAt h0 [x] rows) href Pv := by
  intro A E i v s m hA hi hn hk
  obtain ⟨d, as, e1, r⟩ := hv i v hi
  refine wpAny_assign_Name (wpAny_storeName_local (hE.loc x List.mem_cons_self) hn (fun h2 hn2 hs2 => ?_) hE.cls)
  refine ⟨h2, _, _, rfl, hn2, ⟨[d], e1, rfl, fun j y d' ey ed => ?_⟩, fun b o hb e => hs2.extBut b o hb e⟩
  cases j with
  | zero => simp at ey ed; subst ey; subst ed; exact ⟨v, as, by simp, r⟩
  | succ j => simp at ey
/-- a tuple of two, of three -/
theorem store_tup2 {h0 : Heap} {P : Addr} {rows : List (List D)} {x y : Str} {px py pt : Pos} {kt : Nat} (hE : EnvT ce [x, y]) (hC : ce.locals ∉ List.range N) (tP : TblO P h0) (hb : HB P h0 href) (hN : h0.objs.size ≤ N) (hw : ∀ b ∈ wr, h0.objs.size ≤ b)
    (hv : ∀ i v, Pv i v → ∃ d e as, rows[i]? = some [d, e] ∧ Reads h0 v (.tuple [d, e]) as) : StoreOk prog w ce (.Tuple [.Name x px, .Name y py] kt pt) N wr (RowAt h0 [x, y] rows) href Pv := by
  intro A E i v s m hA hi hn hk
  obtain ⟨d, e, as, e1, r⟩ := hv i v hi
  cases r with
  | tuple q1 q2 q3 q4 =>
    rename_i T o vs n'
    have hT : s.heap.get? T = some o := hk T (List.mem_range.mpr (Nat.lt_of_lt_of_le (Heap.lt_size q1) hN)) (fun z => absurd (Heap.lt_size q1) (Nat.not_lt.mpr (hw _ z))) o (hb.data tP q1 fun ps z => by rw [q3] at z; cases z)
    generalize hvs : vs.toList = us at q4
    cases q4 with
    | cons r1 q4 =>
      cases q4 with
      | cons r2 q4 =>
        cases q4
        rename_i va as1 vb as2
        have evs : vs = #[va, vb] := by apply Array.toList_inj.mp; rw [hvs]
        subst evs
        have xy : x ≠ y := by
          have := hE.nodup
          intro z
          rw [z] at this
          simp at this
        refine wpAny_assign_Tuple hA ⟨o, hT, q2, _, q3⟩ rfl rfl fun h1 hx1 => ?_
        have old1 : ∀ b o, s.heap.get? b = some o → h1.get? b = some o := fun b o e => hx1 b o (Nat.ne_of_lt (Heap.lt_size e)) e
        show wpAny _ _ (do holding [vb] (assign (.Name x px) ce va); holding [] (assign (.Name y py) ce vb); pure ()) _ _ _
        refine wpAny_bind (wpAny_holding (wpAny_assign_Name (wpAny_storeName_local (hE.loc x (by simp)) (hn.at' fun o e => old1 _ o e) (fun h2 hn2 hs2 => ?_) hE.cls)))
        refine wpAny_bind (wpAny_holding (wpAny_assign_Name (wpAny_storeName_local (hE.loc y (by simp)) hn2 (fun h3 hn3 hs3 => wpAny_pure ?_) hE.cls)))
        refine ⟨h3, _, _, rfl, hn3, ⟨[d, e], e1, rfl, fun j z d' ez ed => ?_⟩, fun b o hb e => ?_⟩
        · match j, ez, ed with
          | 0, ez, ed => simp at ez ed; subst ez; subst ed; exact ⟨va, as1, by simp [xy], r1⟩
          | 1, ez, ed => simp at ez ed; subst ez; subst ed; exact ⟨vb, as2, by simp, r2⟩
          | j + 2, ez, ed => simp at ez
        · have h2' : h2.get? b = some o := hs2.extBut b o hb (old1 b o e)
          exact hs3.extBut b o hb h2'
theorem store_tup3 {h0 : Heap} {P : Addr} {rows : List (List D)} {x y z : Str} {px py pz pt : Pos} {kt : Nat} (hE : EnvT ce [x, y, z]) (hC : ce.locals ∉ List.range N) (tP : TblO P h0) (hb : HB P h0 href) (hN : h0.objs.size ≤ N) (hw : ∀ b ∈ wr, h0.objs.size ≤ b)
    (hv : ∀ i v, Pv i v → ∃ d e f as, rows[i]? = some [d, e, f] ∧ Reads h0 v (.tuple [d, e, f]) as) : StoreOk prog w ce (.Tuple [.Name x px, .Name y py, .Name z pz] kt pt) N wr (RowAt h0 [x, y, z] rows) href Pv := by
  intro A E i v s m hA hi hn hk
  obtain ⟨d, e, f, as, e1, r⟩ := hv i v hi
  cases r with
  | tuple q1 q2 q3 q4 =>
    rename_i T o vs n'
    have hT : s.heap.get? T = some o := hk T (List.mem_range.mpr (Nat.lt_of_lt_of_le (Heap.lt_size q1) hN)) (fun z => absurd (Heap.lt_size q1) (Nat.not_lt.mpr (hw _ z))) o (hb.data tP q1 fun ps z => by rw [q3] at z; cases z)
    generalize hvs : vs.toList = us at q4
    cases q4 with
    | cons r1 q4 =>
      cases q4 with
      | cons r2 q4 =>
        cases q4 with
        | cons r3 q4 =>
          cases q4
          rename_i va as1 vb as2 vc as3
          have evs : vs = #[va, vb, vc] := by apply Array.toList_inj.mp; rw [hvs]
          subst evs
          have nd := hE.nodup
          have xy : x ≠ y := fun z => by rw [z] at nd; simp at nd
          have xz : x ≠ z := fun z => by rw [z] at nd; simp at nd
          have yz : y ≠ z := fun z => by rw [z] at nd; simp at nd
          refine wpAny_assign_Tuple hA ⟨o, hT, q2, _, q3⟩ rfl rfl fun h1 hx1 => ?_
          have old1 : ∀ b o, s.heap.get? b = some o → h1.get? b = some o := fun b o e => hx1 b o (Nat.ne_of_lt (Heap.lt_size e)) e
          show wpAny _ _ (do holding [vb, vc] (assign (.Name x px) ce va); holding [vc] (assign (.Name y py) ce vb); holding [] (assign (.Name z pz) ce vc); pure ()) _ _ _
          refine wpAny_bind (wpAny_holding (wpAny_assign_Name (wpAny_storeName_local (hE.loc x (by simp)) (hn.at' fun o e => old1 _ o e) (fun h2 hn2 hs2 => ?_) hE.cls)))
          refine wpAny_bind (wpAny_holding (wpAny_assign_Name (wpAny_storeName_local (hE.loc y (by simp)) hn2 (fun h3 hn3 hs3 => ?_) hE.cls)))
          refine wpAny_bind (wpAny_holding (wpAny_assign_Name (wpAny_storeName_local (hE.loc z (by simp)) hn3 (fun h4 hn4 hs4 => wpAny_pure ?_) hE.cls)))
          refine ⟨h4, _, _, rfl, hn4, ⟨[d, e, f], e1, rfl, fun j u d' ez ed => ?_⟩, fun b o hb e => ?_⟩
          · match j, ez, ed with
            | 0, ez, ed => simp at ez ed; subst ez; subst ed; exact ⟨va, as1, by simp [xy, xz], r1⟩
            | 1, ez, ed => simp at ez ed; subst ez; subst ed; exact ⟨vb, as2, by simp [yz], r2⟩
            | 2, ez, ed => simp at ez ed; subst ez; subst ed; exact ⟨vc, as3, by simp, r3⟩
            | j + 3, ez, ed => simp at ez
          · have h2' : h2.get? b = some o := hs2.extBut b o hb (old1 b o e)
            have h3' : h3.get? b = some o := hs3.extBut b o hb h2'
            exact hs4.extBut b o hb h3'
end
/-! ### lists and tuples -/
/-- the rows of k names -/
def rowOf (k : Nat) (d : D) : Option (List D) := match k with
  | 1 => some [d]
  | k => match d with
    | .tuple ds => if ds.length = k then some ds else none
    | _ => none
def rowsOf (k : Nat) : List D → Option (List (List D))
  | [] => some []
  | d :: ds => match rowOf k d, rowsOf k ds with
    | some row, some rows => some (row :: rows)
    | _, _ => none
theorem rowsOf_get {k : Nat} : ∀ {ds : List D} {rows : List (List D)}, rowsOf k ds = some rows → rows.length = ds.length ∧ ∀ (i : Nat) (d : D), ds[i]? = some d → ∃ row, rows[i]? = some row ∧ rowOf k d = some row
  | [], rows, h => by cases h; exact ⟨rfl, fun i d e => by simp at e⟩
  | d0 :: ds, rows, h => by
    unfold rowsOf at h
    split at h
    · rename_i row rows' h1 h2
      cases h
      obtain ⟨l, g⟩ := rowsOf_get h2
      refine ⟨by rw [List.length_cons, List.length_cons, l], fun i d e => ?_⟩
      cases i with
      | zero => simp at e; subst e; exact ⟨row, rfl, h1⟩
      | succ i => exact g i d (by simpa using e)
    · cases h
/-- targets that can be stored: the names tn -/
inductive Tgt : Expr → List Str → Prop where
  | name {x : Str} {px : Pos} : Tgt (.Name x px) [x]
  | two {x y : Str} {px py pt : Pos} {kt : Nat} : Tgt (.Tuple [.Name x px, .Name y py] kt pt) [x, y]
  | three {x y z : Str} {px py pz pt : Pos} {kt : Nat} : Tgt (.Tuple [.Name x px, .Name y py, .Name z pz] kt pt) [x, y, z]
section
variable {prog : Program} {w : World} {ce : GE} {tg : Expr} {wr : List Addr} {N : Nat} {href : Heap} {Pv : Nat → Value → Prop} {h0 : Heap} {P : Addr} {tn : List Str} {rows : List (List D)} {ds : List D}
theorem store_of (ht : Tgt tg tn) (hE : EnvT ce tn) (hC : ce.locals ∉ List.range N) (tP : TblO P h0) (hb : HB P h0 href) (hN : h0.objs.size ≤ N) (hw : ∀ b ∈ wr, h0.objs.size ≤ b) (hr : rowsOf tn.length ds = some rows)
    (hv : ∀ i v, Pv i v → ∃ d as, ds[i]? = some d ∧ Reads h0 v d as) : StoreOk prog w ce tg N wr (RowAt h0 tn rows) href Pv := by
  have g := (rowsOf_get hr).2
  cases ht with
  | name =>
    refine store_name hE fun i v hi => ?_
    obtain ⟨d, as, e1, r⟩ := hv i v hi
    obtain ⟨row, e2, e3⟩ := g i d e1
    have e3 : some [d] = some row := e3
    cases e3
    exact ⟨d, as, e2, r⟩
  | two =>
    refine store_tup2 hE hC tP hb hN hw fun i v hi => ?_
    obtain ⟨d, as, e1, r⟩ := hv i v hi
    obtain ⟨row, e2, e3⟩ := g i d e1
    cases d with
    | tuple xs =>
      have e3 : (if xs.length = 2 then some xs else none) = some row := e3
      split at e3
      · rename_i hl
        cases e3
        match row, hl with
        | [a, b], _ => exact ⟨a, b, as, e2, r⟩
      · cases e3
    | _ => cases e3
  | three =>
    refine store_tup3 hE hC tP hb hN hw fun i v hi => ?_
    obtain ⟨d, as, e1, r⟩ := hv i v hi
    obtain ⟨row, e2, e3⟩ := g i d e1
    cases d with
    | tuple xs =>
      have e3 : (if xs.length = 3 then some xs else none) = some row := e3
      split at e3
      · rename_i hl
        cases e3
        match row, hl with
        | [a, b, c], _ => exact ⟨a, b, c, as, e2, r⟩
      · cases e3
    | _ => cases e3
end
theorem readsAll_at' {h : Heap} : ∀ {vs : List Value} {ds : List D} {as : List Addr}, ReadsAll h vs ds as → vs.length = ds.length ∧ ∀ (i : Nat) (v : Value), vs[i]? = some v → ∃ d bs, ds[i]? = some d ∧ Reads h v d bs
  | _, _, _, .nil => ⟨rfl, fun i v e => by simp at e⟩
  | _, _, _, .cons r q => by
    obtain ⟨l, g⟩ := readsAll_at' q
    refine ⟨by rw [List.length_cons, List.length_cons, l], fun i v e => ?_⟩
    cases i with
    | zero => simp at e; subst e; exact ⟨_, _, rfl, r⟩
    | succ i => exact g i v (by simpa using e)
section
variable {Γ : Tx} {W : WX} {X : Cx} {tg a : Expr} {tn : List Str} {fa : Env → Out Res}
def gSeq (k : Nat) (fa : Env → Out Res) (r : Env) : Out (List (List D)) := (fa r).bind fun x r1 => match cont r1 x with
  | some d => match seqD d with
    | some ds => match rowsOf k ds with
      | some rows => .ok rows r1
      | none => .bad
    | none => .bad
  | none => .bad
theorem tbl_lt {P : Addr} {h : Heap} (t : TblO P h) : P < h.objs.size := by
  obtain ⟨_, _, o, e, _⟩ := t
  exact Heap.lt_size e
theorem gsrc_seq (ht : Tgt tg tn) (h : QE Γ W X a fa) (hr : X.A.handled = none) : GSrc Γ W X tg a tn (gSeq tn.length fa) := by
  obtain ⟨ta, pa, ka⟩ := h.ex
  refine ⟨fun σ H R => ta σ H fun v H1 => ∃ a vs ds rows, v = .ref a ∧ (SqL X.K H1 a vs ∨ SqT X.K H1 a vs) ∧ DpAll X.K H1 vs ds ∧ rowsOf tn.length ds = some rows ∧ R rows H1, fun pins s σ H R I q => ?_, fun C hC σ H P r R S q => ?_⟩
  · refine wpAny_mono (pa.run pins s σ H _ I q) (fun xv s1 h1 => ?_) fun _ _ e => e
    obtain ⟨x, H1, I1, rx, l, vs, ds, rows, rfl, hs, hd, hrows, hR⟩ := h1
    cases rx
    have szp : ∀ ob : Obj, s1.heap.objs.size < (s1.heap.push ob).objs.size := fun ob => by rw [Heap.size_push]; exact Nat.lt_succ_self _
    rcases hs with hs | hs
    · obtain ⟨its, rv, pl, hz⟩ := I1.list hs
      obtain ⟨as, ra⟩ := Dp.readsAll I1 _ _ _ hd rv
      obtain ⟨rl, rg⟩ := readsAll_at' ra
      have hne : l ≠ s1.heap.objs.size := Nat.ne_of_lt pl.lt
      have hL := pl.isList
      refine wpAny_pyIter_list hL ?_
      refine ⟨s1.heap.objs.size, rows, H1, s1, [s1.heap.objs.size], fun i h => h.IsListIter s1.heap.objs.size l i ∧ h.IsList l its.toArray, rfl, ⟨I1, ⟨_, _, rfl⟩, fun b o e => Heap.get?_push_of_some _ e, Nat.le_of_lt (szp _), fun b hb => ?_, fun P h' tP hk => ⟨?_, ?_⟩, fun P ce href N tP hE hB hN hC => ?_⟩, hR⟩
      · rw [List.mem_singleton] at hb
        subst hb
        exact ⟨Nat.le_refl _, szp _⟩
      · exact ⟨_, hk _ _ (Nat.ne_of_gt (tbl_lt tP)) (Heap.get?_push_size _ rfl), rfl, rfl⟩
      · obtain ⟨o, e1, e2, n, e3⟩ := hL
        refine ⟨o, hk _ _ (fun z => ?_) (Heap.get?_push_of_some _ e1), e2, n, e3⟩
        obtain ⟨_, ps, o', f1, f2⟩ := tP
        rw [z, f1] at e1
        cases e1
        rw [f2] at e3; cases e3
      · have hlen : its.toArray.size = rows.length := by rw [List.size_toArray, rl, (rowsOf_get hrows).1]
        rw [← hlen]
        have hN1 : s1.heap.objs.size < N := Nat.lt_of_lt_of_le (szp _) hN
        refine gstep_walk (fun A hA => Walks.list hA s1.heap.objs.size l hne its.toArray) (fun b hb => ?_) hC (fun i h st => ?_) (store_of ht hE hC tP hB (Nat.le_of_lt hN1) (fun b hb => ?_) hrows fun i v hi => ?_) X.A hr
        · rcases List.mem_cons.mp hb with z | z
          · rw [z]; exact List.mem_range.mpr hN1
          · rw [List.mem_singleton] at z
            rw [z]; exact List.mem_range.mpr (Nat.lt_trans pl.lt hN1)
        · obtain ⟨⟨o, e1, e2, e3⟩, _⟩ := st
          exact ⟨o, _, _, e1, e2, e3, by decide⟩
        · rw [List.mem_singleton] at hb; rw [hb]; exact Nat.le_refl _
        · exact rg i v (by simpa using hi)
    · obtain ⟨its, rv, pl, hz⟩ := I1.tuple hs
      obtain ⟨as, ra⟩ := Dp.readsAll I1 _ _ _ hd rv
      obtain ⟨rl, rg⟩ := readsAll_at' ra
      have hL : s1.heap.IsTuple l its.toArray := pl
      have hlt : l < s1.heap.objs.size := by obtain ⟨_, e, _⟩ := id hL; exact Heap.lt_size e
      have hne : l ≠ s1.heap.objs.size := Nat.ne_of_lt hlt
      refine wpAny_pyIter_tuple hL ?_
      refine ⟨s1.heap.objs.size, rows, H1, s1, [s1.heap.objs.size], fun i h => h.IsTupleIter s1.heap.objs.size l i ∧ h.IsTuple l its.toArray, rfl, ⟨I1, ⟨_, _, rfl⟩, fun b o e => Heap.get?_push_of_some _ e, Nat.le_of_lt (szp _), fun b hb => ?_, fun P h' tP hk => ⟨?_, ?_⟩, fun P ce href N tP hE hB hN hC => ?_⟩, hR⟩
      · rw [List.mem_singleton] at hb
        subst hb
        exact ⟨Nat.le_refl _, szp _⟩
      · exact ⟨_, hk _ _ (Nat.ne_of_gt (tbl_lt tP)) (Heap.get?_push_size _ rfl), rfl, rfl⟩
      · obtain ⟨o, e1, e2, n, e3⟩ := hL
        refine ⟨o, hk _ _ (fun z => ?_) (Heap.get?_push_of_some _ e1), e2, n, e3⟩
        obtain ⟨_, ps, o', f1, f2⟩ := tP
        rw [z, f1] at e1
        cases e1
        rw [f2] at e3; cases e3
      · have hlen : its.toArray.size = rows.length := by rw [List.size_toArray, rl, (rowsOf_get hrows).1]
        rw [← hlen]
        have hN1 : s1.heap.objs.size < N := Nat.lt_of_lt_of_le (szp _) hN
        refine gstep_walk (fun A hA => Walks.tuple hA s1.heap.objs.size l hne its.toArray) (fun b hb => ?_) hC (fun i h st => ?_) (store_of ht hE hC tP hB (Nat.le_of_lt hN1) (fun b hb => ?_) hrows fun i v hi => ?_) X.A hr
        · rcases List.mem_cons.mp hb with z | z
          · rw [z]; exact List.mem_range.mpr hN1
          · rw [List.mem_singleton] at z
            rw [z]; exact List.mem_range.mpr (Nat.lt_trans hlt hN1)
        · obtain ⟨⟨o, e1, e2, e3⟩, _⟩ := st
          exact ⟨o, _, _, e1, e2, e3, by decide⟩
        · rw [List.mem_singleton] at hb; rw [hb]; exact Nat.le_refl _
        · exact rg i v (by simpa using hi)
  · refine ka C hC σ H P r _ S (Cont.expr q fun x r1 P1 H1 v t1 hv fv q1 => ?_)
    cases e1 : cont r1 x with
    | none => simp only [e1] at q1; exact q1.elim
    | some d =>
      simp only [e1] at q1
      cases e2 : seqD d with
      | none => simp only [e2] at q1; exact q1.elim
      | some ds =>
        simp only [e2] at q1
        cases e3 : rowsOf tn.length ds with
        | none => simp only [e3] at q1; exact q1.elim
        | some rows =>
          simp only [e3] at q1
          obtain ⟨l, vs, rfl, hs, hra⟩ := ct_seq (K := X.K) t1.sit.part (hv.ct t1.sit e1) e2
          exact ⟨l, vs, ds, rows, rfl, hs, dpa_part t1.sit.part _ _ hra, e3, q1 P1 H1 t1⟩
end
end Dn

end
section
/-! Dn22: list.remove; a, b = x, y. -/
namespace Dn
open PySem L2
open PyProof.Rows hiding St
section
variable {X : Cx}
def rRemD (K : PySem.W.Frag) : V → List V → Hp → VK → Prop := fun x xs H Q => ∃ (l : Addr) (vs : List V) (y : V) (ds : List D) (d : D) (j : Nat), x = .ref l ∧ xs = [y] ∧ H l = some (.lst vs) ∧ DpAll K H vs ds ∧ Dp K H y d ∧ PyData.plainAll ds = true ∧ d.plain = true ∧ d.depth ≤ 60 ∧ SeqAt.dataPlace ds d = some j ∧ Q .non (L2.upd H l (.lst (vs.eraseIdx j)))
theorem mt_removeD (hu : X.A.units + 66 < cLine) : MtR X "list.remove" (rRemD X.K) := by
  intro pins s σ H x xs v us Q I rx rxs h
  obtain ⟨l, vs, y, ds, d, j, rfl, rfl, hH, hds, hd, p1, p2, p3, hj, q⟩ := h
  cases rx
  obtain ⟨u, rfl, ru⟩ := rxs.one
  obtain ⟨z, its, n, r, hl, e⟩ := I.lstM hH
  obtain ⟨as, ra⟩ := Dp.readsAll I _ _ _ hds r
  obtain ⟨bs, rb⟩ := Dp.reads I _ _ _ hd ru
  have hroom : X.A.units + 1 + min (PyData.depthAll ds) d.depth < cLine := by
    have : min (PyData.depthAll ds) d.depth ≤ d.depth := Nat.min_le_right _ _
    omega
  refine SeqAt.remove_list_data ⟨_, e, rfl, n, rfl⟩ (by simpa using ra) rb p1 p2 hroom hj (by rw [List.size_toArray, ← hl]; exact z) ?_
  have hjl : j < its.length := by
    have := List.findIdx?_eq_some_iff_findIdx_eq.mp hj
    have l2 := dpa_len hds
    omega
  have hz : (vs.eraseIdx j).length ≤ sizeLine := Nat.le_trans (len_erase vs j) z
  exact ⟨.non, _, I.lset hH e (by simp [Array.eraseIdxIfInBounds, hjl]) (r.eraseIdx j) hz, rfl, q⟩
end
def mRemove : D → List D → Option (D × D)
  | .list xs, [d] => if PyData.plainAll xs = true ∧ d.plain = true ∧ d.depth ≤ 60 then (SeqAt.dataPlace xs d).map fun j => (.none, .list (xs.eraseIdx j)) else none
  | _, _ => none
theorem mo_remove {K : PySem.W.Frag} : MOp (rRemD K) mRemove := by
  intro P H a ys c ds res c' Q p hc hy e q
  unfold mRemove at e
  split at e
  · rename_i xs d
    split at e
    · rename_i hb
      obtain ⟨j, hj, h4⟩ := Option.map_eq_some_iff.mp e
      cases h4
      obtain ⟨vs, h1, h2⟩ := hc
      obtain ⟨v, rfl, rv⟩ := rp_one (v := .non) hy
      exact ⟨a, vs, v, xs, d, j, rfl, rfl, h1, dpa_part p _ _ h2, dp_part p _ _ rv, hb.1, hb.2.1, hb.2.2, hj, q _ _ ⟨_, upd_same, RpAll.erase j h2⟩ .non⟩
    · cases e
  · cases e
/-! ### a, b = x, y -/
/-- a result that no slot lends -/
def hold (x : Res) (r : Env) : Out Res := match x with
  | .fz d => .ok (.fz d) r
  | .ow d => .ok (.ow d) r
  | .bw k => match settle r (.bw k) with
    | some (d, r') => .ok (.fz d) r'
    | none => .bad
def slotOf : Res → Slot
  | .fz d => .fz d
  | .ow d => .ow d
  | .bw _ => .un
section
variable {C : Cfg} {W : WX} {P H P1 H1 : Hp} {σ : St} {r r1 : Env} {v : V} {x y : Res}
theorem hold_ok {r2 : Env} (t : Tr C σ P H r P1 H1 r1) (hv : ResOk C P1 H1 σ r1 v x) (hf : Fresh H v x) (e : hold x r1 = .ok y r2) : ∃ P2, Tr C σ P H r P2 H1 r2 ∧ Sub P1 P2 ∧ ResOk C P2 H1 σ r2 v y ∧ Fresh H v y ∧ ∀ i, y ≠ .bw i := by
  cases x with
  | fz d => cases e; exact ⟨P1, t, Sub.refl _, hv, hf, fun i z => by cases z⟩
  | ow d => cases e; exact ⟨P1, t, Sub.refl _, hv, hf, fun i z => by cases z⟩
  | bw k =>
    unfold hold at e
    cases es : settle r1 (.bw k) with
    | none => simp only [es] at e; cases e
    | some q =>
      obtain ⟨d, r'⟩ := q
      simp only [es] at e
      cases e
      obtain ⟨P2, t2, s2, rp⟩ := t.settle hv hf es
      exact ⟨P2, t2, s2, rp, trivial, fun i z => by cases z⟩
theorem hold_cases (x : Res) (r : Env) : (∃ y r2, hold x r = .ok y r2) ∨ hold x r = .bad := by
  cases x with
  | fz d => exact .inl ⟨_, _, rfl⟩
  | ow d => exact .inl ⟨_, _, rfl⟩
  | bw k =>
    unfold hold
    cases e : settle r (.bw k) with
    | none => right; simp only [e]
    | some q => left; exact ⟨_, _, by simp only [e] <;> rfl⟩
/-- a slot is stored with what nobody lends -/
theorem Sit.setR {i : Nat} (S : Sit C P H σ r) (hv : ResOk C P H σ r v x) (nb : ∀ i, x ≠ .bw i) : Sit C P H (σ.set i (some v)) (r.set i (slotOf x)) := by
  cases x with
  | fz d => exact S.setF hv
  | ow d => obtain ⟨a, rfl, n, n0, q, no⟩ := hv; exact S.setO n n0 q no
  | bw k => exact (nb k rfl).elim
/-- .. and what else nobody lends stays so -/
theorem ResOk.setR {i : Nat} {w : V} (S : Sit C P H σ r) (hx : ResOk C P H σ r v x) (nb : ∀ i, x ≠ .bw i) (hy : ResOk C P H σ r w y) (nb' : ∀ i, y ≠ .bw i) (ap : ∀ a, v = .ref a → w = .ref a → (∃ d, x = .ow d) → (∃ d, y = .ow d) → False) : ResOk C P H (σ.set i (some v)) (r.set i (slotOf x)) w y := by
  cases y with
  | fz d => exact hy
  | bw k => exact (nb' k rfl).elim
  | ow d =>
    obtain ⟨b, rfl, n, n0, q, no⟩ := hy
    refine ⟨b, rfl, n, n0, q, fun j ⟨h1, d2, h2⟩ => ?_⟩
    by_cases e : i = j
    · subst e
      rcases Nat.lt_or_ge i r.length with l | l
      · rw [List.getElem?_set_self (by rw [S.len]; exact l)] at h1
        rw [List.getElem?_set_self l] at h2
        cases h1
        cases x with
        | fz d => rcases h2 with h2 | h2 <;> cases h2
        | bw k => rcases h2 with h2 | h2 <;> cases h2
        | ow d => exact ap b rfl rfl ⟨_, rfl⟩ ⟨_, rfl⟩
      · rw [List.getElem?_eq_none (by rw [List.length_set]; exact l)] at h2; rcases h2 with h2 | h2 <;> cases h2
    · rw [List.getElem?_set_ne e] at h1 h2
      exact no j ⟨h1, d2, h2⟩
end
def sPar (i j : Nat) (fe fe' : Env → Out Res) (r : Env) : Out Fl := thenS (fe r) fun x r1 => thenS (hold x r1) fun x r2 => thenS (fe' r2) fun y r3 => thenS (hold y r3) fun y r4 => .ok .nx ((r4.set i (slotOf x)).set j (slotOf y))
section
variable {Γ : Tx} {W : WX} {X : Cx}
theorem qs_par {i j : Nat} {x y : Str} {a b : Expr} {px py pt pos : Pos} {kt k2 : Nat} {pt2 : Pos} {fe fe' : Env → Out Res} (hc : X.calm = true) (hN : X.N.Nodup) (hi : X.N[i]? = some x) (hj : X.N[j]? = some y) (hij : i ≠ j)
    (hx : X.env.scope.names.lookup x = some .local) (hy : X.env.scope.names.lookup y = some .local) (ha : QE Γ W X a fe) (hb : QE Γ W X b fe')
    (hw : swappedStores [.Tuple [.Name x px, .Name y py] kt pt] (.Tuple [a, b] k2 pt2) X.env = pure (some [x, y]))
    (hs : swapsWithSole [.Tuple [.Name x px, .Name y py] kt pt] (.Tuple [a, b] k2 pt2) pos.line X.env = pure false := by rfl)
    (h1 : starEach [a, b] X.env = (false, eval a X.env) :: starEach [b] X.env := by rfl) (h2 : starEach [b] X.env = (false, eval b X.env) :: starEach [] X.env := by rfl) :
    QS Γ W X (.Assign [.Tuple [.Name x px, .Name y py] kt pt] (.Tuple [a, b] k2 pt2) pos) (sPar i j fe fe') := by
  obtain ⟨ta, pa, ka⟩ := ha.ex
  obtain ⟨tb, pb, kb⟩ := hb.ex
  refine ⟨_, ps_par hc hN hi hj hij hx hy (pa_cons pa (pa_cons pb pa_nil h2) h1) hw hs, fun C hC σ H P r D S h => ?_⟩
  refine ka C hC σ H P r _ S (SCont.expr (o := fe r) (g := fun x r1 => thenS (hold x r1) fun x r2 => thenS (fe' r2) fun y r3 => thenS (hold y r3) fun y r4 => .ok .nx ((r4.set i (slotOf x)).set j (slotOf y))) (E := D) h fun xr r1 P1 H1 t1 q v hv fv => ?_)
  rcases hold_cases xr r1 with ⟨x', r2, e1⟩ | e1
  rotate_left
  · rw [e1] at q; exact q.elim
  rw [e1] at q
  obtain ⟨P2, t2, s2, hv2, fv2, nb⟩ := hold_ok t1 hv fv e1
  have q2 : SCont C W P2 (thenS (fe' r2) fun y r3 => thenS (hold y r3) fun y r4 => .ok .nx ((r4.set i (slotOf x')).set j (slotOf y))) D := SCont.from q t2.sub
  refine kb C hC σ H1 P2 r2 _ t2.sit (SCont.expr (o := fe' r2) (g := fun y r3 => thenS (hold y r3) fun y r4 => .ok .nx ((r4.set i (slotOf x')).set j (slotOf y))) (E := D) q2 fun yr r3 P3 H3 t3 q3 w hw' fw => ?_)
  rcases hold_cases yr r3 with ⟨y', r4, e2⟩ | e2
  rotate_left
  · rw [e2] at q3; exact q3.elim
  rw [e2] at q3
  obtain ⟨P4, t4, s4, hw4, fw4, nb'⟩ := hold_ok t3 hw' fw e2
  have hv4 := hv2.mono t4
  have q4 : SCont C W P2 (.ok .nx ((r4.set i (slotOf x')).set j (slotOf y'))) D := q3
  have S4 := t4.sit.setR (i := i) hv4 nb
  have hw5 := ResOk.setR (i := i) t4.sit hv4 nb hw4 nb' fun a ev ew ⟨d, ex⟩ ⟨d', ey⟩ => by
    subst ex
    subst ey
    obtain ⟨a', ea, _, _, q, _⟩ := hv2
    rw [ev] at ea
    cases ea
    obtain ⟨o, ho, _⟩ := q.obj
    have := fw4 a ew
    rw [ho] at this
    cases this
  exact ⟨v, w, rfl, q4 P4 H3 _ (S4.setR (i := j) hw5 nb') t4.sub⟩
end
end Dn

end
section
/-! Dn23: a def of the head's facts. -/
namespace Dn
open PySem L2
section
variable {P : Program} {w : World} {K : PySem.W.Frag} {mg : Str → Option Value} {base : Heap}
/-- nothing is promised -/
theorem fnok_bad (t : Tx) {k n np : Nat} {muts : List Nat} {f : Addr} {fd : FuncData} {ps : List Str} (hnp : ps.length = np) : FnOk P w K mg base (L2.CX P w) k f fd ps (spD t n np muts fun _ => .bad) := by
  subst hnp
  refine ⟨fun vs H Q E h => ?_, fun A outer s H args us vs Q E hr e0 hb hv h => ?_⟩
  · obtain ⟨P, ds, M, hl, _⟩ := h; exact hl
  · obtain ⟨P, ds, M, hl, _, z⟩ := h; exact z.elim
theorem def_okD (t : Tx) {x qual : Str} {st : Stmt} {p : Str × Option Str} {fd : FuncData} {N ps : List Str} {k n np : Nat} (muts : List Nat) (body : Env → Out Fl) (F : FunD K x qual (defArgs st) (defBody st) (defScope st) [] [] (He.fAd K p) fd) (S : FnScope N ps (defScope st)) (hn : N.length = n) (hnp : ps.length = np)
    (hb : ∀ (A : Around) (outer : List PySem.Env) (s : Shared) (H : Hp) (E : XK), Room k (cxD P w K mg base N qual (defScope st) (He.fAd K p) (.ref (He.codeOf K p)) A outer s H E).A →
      PassesOwn (model P w) (cxD P w K mg base N qual (defScope st) (He.fAd K p) (.ref (He.codeOf K p)) A outer s H E).A (cxD P w K mg base N qual (defScope st) (He.fAd K p) (.ref (He.codeOf K p)) A outer s H E).env (cxD P w K mg base N qual (defScope st) (He.fAd K p) (.ref (He.codeOf K p)) A outer s H E).xe →
      Takes (cxD P w K mg base N qual (defScope st) (He.fAd K p) (.ref (He.codeOf K p)) A outer s H E) (fun cls d _ H => E cls d H) →
      QSs t (fun cls d _ H => E cls d H) (cxD P w K mg base N qual (defScope st) (He.fAd K p) (.ref (He.codeOf K p)) A outer s H E) (defBody st) body) :
    FnOk P w K mg base (L2.CX P w) (k + 1) (He.fAd K p) fd ps (spD t n np muts (defDen n muts body)) := by
  subst hn
  subst hnp
  obtain ⟨oc, od, dV, kV, doc, pm, an, cdv, ct, osl, rfl, lk, hcd, hdv, hkw⟩ := F.ex
  obtain ⟨c, rfl⟩ := He.codeIn_ref hcd
  have ec : He.codeOf K p = c := He.codeOf_eq lk rfl
  refine fn_of lk hcd S (fun vs H Q E h => ?_) (fun A outer s H vs Q E hr h => ?_)
  · obtain ⟨P, ds, M, hl, _⟩ := h
    exact hl
  · obtain ⟨P0, ds, M, hl, S0, h⟩ := h
    have q := hb A outer s H E
    rw [ec] at q
    obtain ⟨tt, p, kk⟩ := (q hr (passes_of rfl) (takes_of rfl rfl rfl rfl)).ex
    refine ⟨tt, p, kk (cfg0 t M H P0 vs) ⟨rfl, rfl, rfl⟩ _ H P0 (startEnv N.length muts ds) _ S0 ?_⟩
    unfold defDen finish at h
    cases o : body (startEnv N.length muts ds) with
    | bad => rw [o] at h; exact h.elim
    | exn e r =>
      rw [o] at h
      intro P' H' σ' S' s' dd
      cases q : outsOf muts r with
      | none => simp only [q] at h
      | some outs => simp only [q] at h; exact h H' P' σ' r S' s' q dd
    | ok fl r =>
      rw [o] at h
      cases fl with
      | bk => exact h.elim
      | ct => exact h.elim
      | nx =>
        intro P' H' σ' S' s'
        cases q : outsOf muts r with
        | none => simp only [q] at h
        | some outs => simp only [q] at h; exact h .non H' P' σ' r S' s' (show RepT P' .non .none from Rp.non) q
      | rt x =>
        intro P' H' σ' v S' s' hv
        cases e : retv x r with
        | none => simp only [e] at h
        | some z =>
          obtain ⟨y, r2⟩ := z
          simp only [e] at h
          obtain ⟨S2, h2⟩ := retv_ok S' hv e
          cases q : outsOf muts r2 with
          | none => simp only [q] at h
          | some outs => simp only [q] at h; exact h v H' P' σ' r2 S2 s' h2 q
end
/-- a generator expression's scope, by a Bool -/
def gscpC (sc scope : Scope) (tn cn : List Str) : Bool := (scope.kind == .function) && (scope.isCoroutine == false) && (scope.names.all fun y => y.2 != .cell) && (scope.names.lookup (".0" : Str) == some .local) && (tn.all fun x => scope.names.lookup x == some .local) && decide tn.Nodup &&
  (scope.names.all fun y => y.2 != .free || (sc.names.lookup y.1 == some .cell || sc.names.lookup y.1 == some .free)) && (cn.all fun x => scope.names.lookup x == some .free) && (scope.names.all fun y => scope.names.lookup y.1 == some y.2) && (cn.all fun x => (x == ("__classdict__" : Str)) == false)
theorem gscp_by {X : Cx} {sc scope : Scope} {tn cn : List Str} (hs : X.env.scope = sc) (h : gscpC sc scope tn cn = true) : GScp X scope tn cn := by
  unfold gscpC at h
  simp only [Bool.and_eq_true, List.all_eq_true, Bool.or_eq_true, bne_iff_ne, beq_iff_eq, decide_eq_true_eq] at h
  obtain ⟨⟨⟨⟨⟨⟨⟨⟨⟨h1, h2⟩, h3⟩, h4⟩, h5⟩, h6⟩, h7⟩, h8⟩, h9⟩, h10⟩ := h
  subst hs
  exact ⟨h1, h2, h3, h4, h5, h6, fun y hy e => (h7 y hy).resolve_left fun z => z e, h8, h9, h10⟩
theorem capN_by {X : Cx} {N : List Str} {ci : List Nat} {cn : List Str} (hN : X.N = N) (h : (ci.map fun i => N[i]?) = cn.map some) : ∀ (j i : Nat), ci[j]? = some i → ∃ x, cn[j]? = some x ∧ X.N[i]? = some x := by
  intro j i e
  have h1 := congrArg (fun l : List (Option Str) => l[j]?) h
  simp only [List.getElem?_map, e, Option.map_some] at h1
  obtain ⟨x, hx, h2⟩ := Option.map_eq_some_iff.mp h1.symm
  exact ⟨x, hx, by rw [hN]; exact h2.symm⟩
/-- within an except clause no loop lets anything out -/
theorem bt_len : bootBuiltins "len" = some (.builtin "len") := by decide +kernel
theorem bt_abs : bootBuiltins "abs" = some (.builtin "abs") := by decide +kernel
theorem bt_int : bootBuiltins "int" = some (.type "int") := by decide +kernel
theorem bt_sum : bootBuiltins "sum" = some (.builtin "sum") := by decide +kernel
theorem bt_sorted : bootBuiltins "sorted" = some (.builtin "sorted") := by decide +kernel
theorem bt_min : bootBuiltins "min" = some (.builtin "min") := by decide +kernel
theorem bt_max : bootBuiltins "max" = some (.builtin "max") := by decide +kernel
theorem bt_any : bootBuiltins "any" = some (.builtin "any") := by decide +kernel
theorem bt_all : bootBuiltins "all" = some (.builtin "all") := by decide +kernel
theorem bt_list : bootBuiltins "list" = some (.type "list") := by decide +kernel
theorem bt_tuple : bootBuiltins "tuple" = some (.type "tuple") := by decide +kernel
end Dn

end
section
/-! Dn24: the law's dice: how a round begins. -/
namespace Dn
open PySem L2
open PyProof.Rows hiding St
/-- the dice of a cell -/
def diceOf (c : Int) : List Int := if 0 - 10 < c ∧ c < 10 then [if c < 0 then -c else c, 0, 2] else [c, 1 + c.fmod 1009, if c ≥ 10 ^ 18 then 1 else 0]
def bitsOk (c : Int) : Prop := Builtin.Int.intBits c ≤ 1048576
/-- the tables of Γ stand -/
def TabsΓ (Γ : Tx) (H : Hp) : Prop := LamX.Tabs Γ.T H ∧ ∀ p ∈ Γ.TG, GxR.TabG H p
/-- what is not a table stays -/
def StN (H H' : Hp) : Prop := ∀ b o, H b = some o → NoTbl o → H' b = some o
theorem StN.trans {A B C : Hp} (x : StN A B) (y : StN B C) : StN A C := fun b o e n => y b o (x b o e n) n
/-- .. and nothing is lost -/
def StT (H H' : Hp) : Prop := ∀ b, H' b = none → H b = none
/-- the lists of the rounds stand at ls, for the cells cs, new since H -/
structure RoundsAt (H H' : Hp) (ls : List Addr) (cs : List Int) : Prop where
  len : ls.length = cs.length
  nodup : ls.Nodup
  bits : ∀ c ∈ cs, bitsOk c
  new : ∀ l ∈ ls, H l = none
  at_ : ∀ (i : Nat) (l : Addr) (c : Int), ls[i]? = some l → cs[i]? = some c → H' l = some (.lst ((diceOf c).map V.int))
def spRounds (Γ : Tx) (K : PySem.W.Frag) : Sp := fun vs H Q E => ∃ (a : Addr) (ns : List Int) (m : Nat), vs = [.ref a, .int m] ∧ m ≤ 100 ∧ SqL K H a (ns.map V.int) ∧ (∀ z ∈ ns, bitsOk z) ∧ TabsΓ Γ H ∧
  ∀ (H' : Hp) (D : Addr) (ls : List Addr) (cs : List Int), StN H H' → StT H H' → TabsΓ Γ H' → H D = none → H' D = some (.lst (ls.map V.ref)) → D ∉ ls → RoundsAt H H' ls cs → Q (.ref D) H'
/-- the empty configuration: nothing frozen, nothing owned -/
def cfgE (Γ : Tx) (H : Hp) : Cfg where
  T := Γ.T
  TG := Γ.TG
  M := []
  H0 := H
  P0 := fun _ => none
  cls := Γ.cls
theorem cfgE_of (Γ : Tx) (H : Hp) : (cfgE Γ H).Of Γ := ⟨rfl, rfl, rfl⟩
/-- a def that is given ints: what it leaves -/
theorem use_ints {Γ : Tx} {n np : Nat} {F : List D → FOut} {is : List Int} {H : Hp} {Q : VK} {E : XK} {d : D} (ht : TabsΓ Γ H) (hn : is.length = np) (hnn : np ≤ n) (hF : F (is.map .int) = .ok (.ow d) [])
    (k : ∀ (p : Addr) (P' H' : Hp), StN H H' → StT H H' → TabsΓ Γ H' → H p = none → Holds P' H' p d → Q (.ref p) H') : spD Γ n np [] F (is.map V.int) H Q E := by
  refine ⟨fun _ => none, is.map .int, [], by rw [List.length_map]; exact hn, ⟨ht, fun a o e => (by cases e), fun a o e _ _ => e, fun a e => e, fun i s es => ?_, ?_, fun i j a ⟨h1, d, h2⟩ _ => ?_, fun a h => .inl h⟩, ?_⟩
  · rcases startEnv_get es with ⟨d, e, rfl⟩ | rfl
    · rw [if_neg (by simp)]
      rw [List.getElem?_map, Option.map_eq_some_iff] at e
      obtain ⟨x, hx, rfl⟩ := e
      exact ⟨.int x, start0_get (by rw [List.getElem?_map, hx]; rfl), RepT.of (.int x)⟩
    · trivial
  · unfold start0 startEnv
    rw [List.length_append, List.length_append, List.length_map, startAux_len, List.length_replicate, List.length_replicate, List.length_map, List.length_map]
  · rcases h2 with h2 | h2
    · rcases startEnv_get h2 with ⟨d', e, z⟩ | z
      · rw [if_neg (by simp)] at z; cases z
      · cases z
    · rcases startEnv_get h2 with ⟨d', e, z⟩ | z
      · rw [if_neg (by simp)] at z; cases z
      · cases z
  · rw [hF]
    intro v H' P' σ' r' S' sb hv ho
    obtain ⟨p, rfl, pn, h0, hh, _⟩ := hv
    exact k p P' H' (fun b o e nt => S'.keep b o e nt (by simp [cfg0])) (fun b e => S'.old b e) S'.tabs h0 hh
theorem holds_ints {P H : Hp} {p : Addr} {is : List Int} (h : Holds P H p (.list (is.map .int))) : H p = some (.lst (is.map V.int)) := by
  obtain ⟨vs, h1, h2⟩ := h
  have key : ∀ (is : List Int) (vs : List V), RpAll P vs (is.map PyData.int) → vs = is.map V.int := by
    intro is
    induction is with
    | nil => intro vs h; cases h; rfl
    | cons i is ih =>
      intro vs h
      cases h with
      | cons a b =>
        cases a
        rw [ih _ b]; rfl
  rw [key is vs h2] at h1
  exact h1
/-- a round begins: the dice at slot i -/
theorem round_sit {Γ : Tx} {H : Hp} {l : Addr} {c : Int} {σ : St} {i n : Nat} (ht : TabsΓ Γ H) (hl : H l = some (.lst ((diceOf c).map V.int))) (hs : σ[i]? = some (some (.ref l))) (hn : σ.length = n) (hi : i < n) :
    Sit { cfgE Γ H with M := [l], hid := fun _ => .ref l } (fun _ => none) H σ ((List.replicate n Slot.un).set i (.io (.list ((diceOf c).map .int)))) := by
  have li : i < (List.replicate n Slot.un).length := by rw [List.length_replicate]; exact hi
  have slot_ : ∀ (j : Nat) (s : Slot), ((List.replicate n Slot.un).set i (.io (.list ((diceOf c).map .int))))[j]? = some s → (j = i ∧ s = .io (.list ((diceOf c).map .int))) ∨ s = .un := fun j s es => by
    by_cases e : i = j
    · subst e; rw [List.getElem?_set_self li] at es; cases es; exact .inl ⟨rfl, rfl⟩
    · rw [List.getElem?_set_ne e] at es
      exact .inr (List.mem_replicate.mp (List.mem_of_getElem? es)).2
  refine ⟨ht, fun a o e => (by cases e), fun a o e _ _ => e, fun a e => e, fun j s es => ?_, ?_, fun j k a ⟨h1, d, h2⟩ ⟨h3, d', h4⟩ => ?_, fun a h => .inl h⟩
  · rcases slot_ j s es with ⟨rfl, rfl⟩ | rfl
    · refine ⟨l, hs, rfl, rfl, List.mem_singleton.mpr rfl, ⟨_, hl, ?_⟩⟩
      generalize diceOf c = is
      induction is with
      | nil => exact .nil
      | cons i is ih => exact .cons (.int i) ih
    · trivial
  · rw [List.length_set, List.length_replicate]; exact hn
  · have a1 : j = i := by
      rcases h2 with h2 | h2
      · rcases slot_ j _ h2 with ⟨_, z⟩ | z <;> cases z
      · rcases slot_ j _ h2 with ⟨z, _⟩ | z
        · exact z
        · cases z
    have a2 : k = i := by
      rcases h4 with h4 | h4
      · rcases slot_ k _ h4 with ⟨_, z⟩ | z <;> cases z
      · rcases slot_ k _ h4 with ⟨z, _⟩ | z
        · exact z
        · cases z
    rw [a1, a2]
/-- a round's slots at its start -/
def rnd (n i : Nat) (c : Int) : Env := (List.replicate n Slot.un).set i (.io (.list ((diceOf c).map .int)))
/-- the round goes on to the next -/
def goesOn (n : Nat) : Out Fl → Prop
  | .ok .nx r => r.length = n
  | .ok .ct r => r.length = n
  | _ => False
/-- the law's loop over its rounds, its last return True -/
theorem law_loop {Γ : Tx} {W : WX} {K : PySem.W.Frag} {tb : TS} {f : Env → Out Fl} {n i : Nat} {D : Addr} {ls : List Addr} {cs : List Int} {H0 H : Hp} {σ : St} {E : Ends} (kb : ∀ (C : Cfg), C.Of Γ → ∀ (σ : St) (H P : Hp) (r : Env) (D : Ends), Sit C P H σ r → SCont C W P (f r) D → tb D σ H)
    (hf : ∀ c, bitsOk c → goesOn n (f (rnd n i c))) (hi : i < n) (hn : σ.length = n) (ht : TabsΓ Γ H) (hD : H D = some (.lst (ls.map V.ref))) (hDl : D ∉ ls) (hR : RoundsAt H0 H ls cs) (hE : ∀ σ' H', E.nx σ' H') :
    ∃ W' : Nat → Nat → St → Hp → Prop, (∃ m, W' 0 m σ H) ∧ ∀ k m σ H, W' k m σ H →
  ((Itl K D).stop k H ∧ E.nx σ H) ∨ ((Itl K D).go k H ∧ ∃ N : St → Hp → Prop, (∀ σ' H', N σ' H' → ∃ m', m' < m ∧ W' (k + 1) m' σ' H') ∧ ∀ x H', (Itl K D).yld k H x H' → gName i x σ H' fun σ2 H2 => tb { E with nx := N, ct := N, bk := E.nx } σ2 H2) := by
  refine ⟨fun k m σ H => m = ls.length - k ∧ σ.length = n ∧ TabsΓ Γ H ∧ H D = some (.lst (ls.map V.ref)) ∧ ∀ (j : Nat) (l : Addr) (c : Int), k ≤ j → ls[j]? = some l → cs[j]? = some c → H l = some (.lst ((diceOf c).map V.int)), ⟨_, rfl, hn, ht, hD, fun j l c _ e1 e2 => hR.at_ j l c e1 e2⟩, ?_⟩
  rintro k m σ H ⟨rfl, hn, ht, hD, hL⟩
  rcases Nat.lt_or_ge k ls.length with hk | hk
  rotate_left
  · exact .inl ⟨⟨_, SqL.of hD, by rw [List.length_map]; exact hk⟩, hE σ H⟩
  have el : ls[k]? = some ls[k] := List.getElem?_eq_getElem hk
  have hk2 : k < cs.length := by rw [← hR.len]; exact hk
  have ec : cs[k]? = some cs[k] := List.getElem?_eq_getElem hk2
  refine .inr ⟨⟨_, .ref ls[k], SqL.of hD, by rw [List.getElem?_map, el]; rfl⟩, fun σ H => ls.length - (k + 1) = ls.length - (k + 1) ∧ σ.length = n ∧ TabsΓ Γ H ∧ H D = some (.lst (ls.map V.ref)) ∧ ∀ (j : Nat) (l : Addr) (c : Int), k + 1 ≤ j → ls[j]? = some l → cs[j]? = some c → H l = some (.lst ((diceOf c).map V.int)), fun σ' H' z => ⟨_, by omega, z⟩, fun x H' hy => ?_⟩
  obtain ⟨rfl, hy⟩ := hy
  have ex := hy _ (SqL.of hD)
  rw [List.getElem?_map, el] at ex
  cases ex
  show tb _ (σ.set i (some (.ref ls[k]))) H'
  have S := round_sit (σ := σ.set i (some (.ref ls[k]))) (i := i) (n := n) ht (hL k _ _ (Nat.le_refl _) el ec) (by rw [List.getElem?_set_self (by rw [hn]; exact hi)]) (by rw [List.length_set]; exact hn) hi
  refine kb { cfgE Γ H' with M := [ls[k]], hid := fun _ => .ref ls[k] } ⟨rfl, rfl, rfl⟩ _ _ _ _ _ S ?_
  have hg := hf _ (hR.bits _ (List.mem_of_getElem? ec))
  have fin : ∀ (P' Hx : Hp) (σ' : St) (r' : Env), Sit { cfgE Γ H' with M := [ls[k]], hid := fun _ => .ref ls[k] } P' Hx σ' r' → r'.length = n → (ls.length - (k + 1) = ls.length - (k + 1) ∧ σ'.length = n ∧ TabsΓ Γ Hx ∧ Hx D = some (.lst (ls.map V.ref)) ∧ ∀ (j : Nat) (l : Addr) (c : Int), k + 1 ≤ j → ls[j]? = some l → cs[j]? = some c → Hx l = some (.lst ((diceOf c).map V.int))) := fun P' Hx σ' r' S' hr => by
    refine ⟨rfl, S'.len.trans hr, S'.tabs, S'.keep D _ hD (fun ps e => by cases e) fun z => ?_, fun j l c hj e1 e2 => S'.keep l _ (hL j l c (by omega) e1 e2) (fun ps e => by cases e) fun z => ?_⟩
    · rw [List.mem_singleton] at z
      exact hDl (z ▸ List.getElem_mem hk)
    · rw [List.mem_singleton] at z
      obtain ⟨hj1, hj2⟩ := List.getElem?_eq_some_iff.mp e1
      have := (List.getElem_inj hR.nodup).mp (hj2.trans z)
      omega
  have hg' : goesOn n (f ((List.replicate n Slot.un).set i (.io (.list ((diceOf cs[k]).map .int))))) := hg
  cases o : f ((List.replicate n Slot.un).set i (.io (.list ((diceOf cs[k]).map .int)))) with
  | bad => rw [o] at hg'; exact hg'.elim
  | exn e r => rw [o] at hg'; exact hg'.elim
  | ok fl r =>
    rw [o] at hg'
    cases fl with
    | nx => exact fun P' Hx σ' S' _ => fin P' Hx σ' r S' hg'
    | ct => exact fun P' Hx σ' S' _ => fin P' Hx σ' r S' hg'
    | bk => exact hg'.elim
    | rt x => exact hg'.elim
/-! ### the rounds are made -/
theorem cut_ints (ns : List Int) (m : Nat) : cutV (ns.map V.int) none (some (m : Int)) = (ns.take m).map V.int := by
  unfold cutV
  rw [HT.sIx_none, HT.sIx_nat, List.drop_zero, Nat.sub_zero, List.length_map, ← List.map_take]
  congr 1
  rcases Nat.le_total m ns.length with h | h
  · rw [Nat.min_eq_left h]
  · rw [Nat.min_eq_right h, List.take_length, List.take_of_length_le h]
theorem dp_ints {K : PySem.W.Frag} {H : Hp} : ∀ (ns : List Int), DpAll K H (ns.map V.int) (ns.map PyData.int)
  | [] => .nil
  | n :: ns => .cons (.int n) (dp_ints ns)
theorem shaped_ints : ∀ (ns : List Int), SeqAt.shaped (.list (ns.map PyData.int)) = true := by
  intro ns
  have h1 : PyData.canLayAll0 (ns.map PyData.int) = true := by
    induction ns with
    | nil => rfl
    | cons n ns ih => show (PyData.canLay0 (.int n) && PyData.canLayAll0 (ns.map PyData.int)) = true; rw [ih]; rfl
  have h2 : PyData.depthAll (ns.map PyData.int) = 0 := by
    clear h1
    induction ns with
    | nil => rfl
    | cons n ns ih => show max (PyData.depth (.int n)) (PyData.depthAll (ns.map PyData.int)) = 0; rw [ih]; rfl
  show (PyData.canLayAll0 (ns.map PyData.int) && decide (PyData.depthAll (ns.map PyData.int) + 1 ≤ 64)) = true
  rw [h1, h2]; rfl
abbrev tRet1 (K : PySem.W.Frag) (spd : Sp) : TS := tRet (tLc (iList K (tVar 2)) (gName 3) tYes (tCallS spd (WE WN) (tCons (tVar 3) tNil)) [3])
theorem rounds_ret {Γ : Tx} {K : PySem.W.Frag} {F : List D → FOut} {a c : Addr} {cells : List Int} {m : Nat} {H Hx : Hp} {Q : VK} {nx : St → Hp → Prop} (hc : Hx c = some (.lst (cells.map V.int))) (s1 : StN H Hx) (s2 : StT H Hx) (ht : TabsΓ Γ Hx) (hb : ∀ z ∈ cells, bitsOk z) (hl : cells.length ≤ 100000) (hF : ∀ c : Int, F [.int c] = .ok (.ow (.list ((diceOf c).map .int))) [])
    (kk : ∀ (H' : Hp) (D : Addr) (ls : List Addr) (cs : List Int), StN H H' → StT H H' → TabsΓ Γ H' → H D = none → H' D = some (.lst (ls.map V.ref)) → D ∉ ls → RoundsAt H H' ls cs → Q (.ref D) H') :
    tRet1 K (spD Γ 1 1 [] F) { nx := nx, rt := Q } [some (.ref a), some (.int m), some (.ref c), none] Hx := by
  refine ⟨_, rfl, c, rfl, ⟨_, SqL.of hc⟩, fun D hD => lc_list (xs := cells.map V.int) (fun i Hy => ∃ ls : List Addr, Hy D = some (.lst (ls.map V.ref)) ∧ ls.length = i ∧ ls.Nodup ∧ D ∉ ls ∧ StN Hx Hy ∧ StT Hx Hy ∧ TabsΓ Γ Hy ∧ (∀ l ∈ ls, Hx l = none) ∧ ∀ (j : Nat) (l : Addr) (z : Int), ls[j]? = some l → cells[j]? = some z → Hy l = some (.lst ((diceOf z).map V.int)))
    ⟨[], upd_same, rfl, List.nodup_nil, by simp, fun b o e _ => by rw [upd_ne (ne_of_none e hD)]; exact e, fun b e => ?_, TabsOk.upd (C := cfgE Γ Hx) ht hD, by simp, fun j l z e => by simp at e⟩ (fun i Hy _ ⟨ls, _, _, _, _, s3, _⟩ => SqL.of (s3 c _ hc (fun ps e => by cases e))) (fun i x Hy hx hP => ?_) fun Hy hP => ?_⟩
  · by_cases q : b = D
    · rw [q]; exact hD
    · rw [upd_ne q] at e; exact e
  · obtain ⟨ls, d1, d2, d3, d4, s3, s4, t3, n3, a3⟩ := hP
    rw [List.getElem?_map, Option.map_eq_some_iff] at hx
    obtain ⟨z, hz, rfl⟩ := hx
    refine ⟨rfl, ?_⟩
    unfold tYes
    dsimp only
    rw [if_pos rfl]
    refine ⟨_, rfl, ?_⟩
    refine use_ints (is := [z]) t3 rfl (Nat.le_refl _) (hF z) fun p P' H4 s5 s6 t5 np hp => ?_
    have hp' := holds_ints hp
    have hi : i < cells.length := (List.getElem?_eq_some_iff.mp hz).1
    have e4 : H4 D = some (.lst (ls.map V.ref)) := s5 D _ d1 (fun ps e => by cases e)
    have pD : p ≠ D := fun q => by rw [q, d1] at np; cases np
    have nls : p ∉ ls := fun q => by
      obtain ⟨j, hj, ej⟩ := List.getElem_of_mem q
      have hj2 : j < cells.length := by omega
      have := a3 j p cells[j] (by rw [List.getElem?_eq_getElem hj, ej]) (List.getElem?_eq_getElem hj2)
      rw [np] at this; cases this
    refine ⟨_, e4, by rw [List.length_map, d2]; exact Nat.lt_of_lt_of_le hi (Nat.le_trans hl (by decide)), ls ++ [p], by rw [List.map_append]; exact upd_same, by rw [List.length_append, d2]; rfl, ?_, ?_, fun b o e nt => ?_, fun b e => ?_, ?_, fun l hlm => ?_, fun j l z' e1 e2 => ?_⟩
    · rw [List.nodup_append]
      exact ⟨d3, by simp, fun x hx y hy => by rw [List.mem_singleton] at hy; rw [hy]; exact fun q => nls (q ▸ hx)⟩
    · rw [List.mem_append, List.mem_singleton, not_or]; exact ⟨d4, fun q => pD q.symm⟩
    · rw [upd_ne (ne_of_none e hD)]; exact s5 b o (s3 b o e nt) nt
    · by_cases q : b = D
      · rw [q]; exact hD
      · rw [upd_ne q] at e; exact s4 b (s6 b e)
    · exact TabsOk.write (C := cfgE Γ H4) t5 e4 rfl
    · rcases List.mem_append.mp hlm with h | h
      · exact n3 l h
      · rw [List.mem_singleton] at h
        rw [h]; exact s4 p np
    · rcases Nat.lt_or_ge j ls.length with hj | hj
      · rw [List.getElem?_append_left hj] at e1
        have lD : l ≠ D := fun q => d4 (q ▸ List.mem_of_getElem? e1)
        rw [upd_ne lD]
        exact s5 l _ (a3 j l z' e1 e2) (fun ps e => by cases e)
      · rw [List.getElem?_append_right hj] at e1
        have : j - ls.length = 0 := by
          have := (List.getElem?_eq_some_iff.mp e1).1
          simp at this
          omega
        rw [this] at e1
        simp at e1
        subst e1
        have ej : j = i := by omega
        rw [ej, hz] at e2
        cases e2
        rw [upd_ne pD]
        exact hp'
  · obtain ⟨ls, d1, d2, d3, d4, s3, s4, t3, n3, a3⟩ := hP
    rw [List.length_map] at d2
    exact kk Hy D ls cells (s1.trans s3) (fun b e => s2 b (s4 b e)) t3 (s2 D hD) d1 d4 ⟨d2, d3, hb, fun l h => s2 l (n3 l h), a3⟩
abbrev tRounds (K : PySem.W.Frag) (spd : Sp) : TS :=
  tSeq (tAsg (tSl (rSlL K) (tVar 0) tNoPart (tPart (tVar 1))) (gName 2)) (tSeq (tIfS (tTest (tOp (rEqD K) (tVar 2) (tLst tNil))) (tAsg (tLst (tCons (tC (.int 0)) tNil)) (gName 2)) tNext) (tRet1 K spd))
theorem eqv_nil (ns : List Int) : PyData.eqv (.list (ns.map PyData.int)) (.list []) = ns.isEmpty := by
  cases ns with
  | nil => rfl
  | cons n ns => rfl
theorem rounds_run {Γ : Tx} {K : PySem.W.Frag} {F : List D → FOut} {a : Addr} {ns : List Int} {m : Nat} {H : Hp} {Q : VK} {nx : St → Hp → Prop} (hS : SqL K H a (ns.map V.int)) (hb : ∀ z ∈ ns, bitsOk z) (hm : m ≤ 100) (ht : TabsΓ Γ H) (hF : ∀ c : Int, F [.int c] = .ok (.ow (.list ((diceOf c).map .int))) [])
    (kk : ∀ (H' : Hp) (D : Addr) (ls : List Addr) (cs : List Int), StN H H' → StT H H' → TabsΓ Γ H' → H D = none → H' D = some (.lst (ls.map V.ref)) → D ∉ ls → RoundsAt H H' ls cs → Q (.ref D) H') :
    tRounds K (spD Γ 1 1 [] F) { nx := nx, rt := Q } [some (.ref a), some (.int m), none, none] H := by
  refine ⟨_, rfl, _, rfl, _, rfl, a, _, rfl, hS, fun p hp => ?_⟩
  rw [cut_ints]
  have hlen : (ns.take m).length ≤ 100000 := by rw [List.length_take]; omega
  have new1 : ∀ {Hy : Hp} {q : Addr} {o : HO}, StN H Hy → StT H Hy → TabsΓ Γ Hy → Hy q = none → StN H (L2.upd Hy q o) ∧ StT H (L2.upd Hy q o) ∧ TabsΓ Γ (L2.upd Hy q o) := fun {Hy q o} s1 s2 t1 hq =>
    ⟨fun b u e nt => by have := s1 b u e nt; rw [upd_ne (ne_of_none this hq)]; exact this, fun b e => by
      by_cases z : b = q
      · rw [z]; exact s2 q hq
      · rw [upd_ne z] at e; exact s2 b e, TabsOk.upd (C := cfgE Γ Hy) t1 hq⟩
  obtain ⟨a1, a2, a3⟩ := new1 (o := .lst ((ns.take m).map V.int)) (fun b u e _ => e) (fun b e => e) ht hp
  refine ⟨_, rfl, Nat.zero_le _, fun q hq => ?_⟩
  have qp : p ≠ q := fun z => by rw [← z, upd_same] at hq; cases hq
  obtain ⟨b1, b2, b3⟩ := new1 (o := .lst []) a1 a2 a3 hq
  have hpp : L2.upd (L2.upd H p (.lst ((ns.take m).map V.int))) q (.lst []) p = some (.lst ((ns.take m).map V.int)) := by rw [upd_ne qp, upd_same]
  refine ⟨.list ((ns.take m).map .int), .list [], .lst (SqL.of hpp) (dp_ints _), .lst (SqL.of upd_same) .nil, shaped_ints _, rfl, _, rfl, ?_⟩
  rw [eqv_nil]
  cases e : (ns.take m).isEmpty with
  | true =>
    rw [if_pos rfl]
    refine ⟨by show 1 ≤ sizeLine; decide, fun c hc => ?_⟩
    obtain ⟨c1, c2, c3⟩ := new1 (o := .lst [V.int 0]) b1 b2 b3 hc
    exact rounds_ret (cells := [0]) (nx := nx) (by exact upd_same) c1 c2 c3 (fun z hz => by rw [List.mem_singleton] at hz; subst hz; unfold bitsOk; decide) (by decide) hF kk
  | false =>
    rw [if_neg (by decide)]
    exact rounds_ret (cells := ns.take m) (nx := nx) hpp b1 b2 b3 (fun z hz => hb z (List.mem_of_mem_take hz)) hlen hF kk
def forBody : Stmt → List Stmt
  | .For _ _ b _ _ => b
  | _ => []
def spLaw (Γ : Tx) (K : PySem.W.Frag) : Sp := fun vs H Q _ => ∃ (a : Addr) (ns : List Int), vs = [.ref a] ∧ SqL K H a (ns.map V.int) ∧ (∀ z ∈ ns, bitsOk z) ∧ TabsΓ Γ H ∧ ∀ H', Q (.bl true) H'
end Dn

end
section
/-! Dn25: the law's told: a lambda is made, called under a try with several clauses. -/
namespace Dn
open PySem L2
open PyProof.Rows hiding St
/-- the making of a lambda: nothing new, or the table has grown and the code is new -/
def LamTo (P : Addr) (q : Str) (H H1 : Hp) : Prop := H1 = H ∨ ∃ (k : Addr) (qs : Array Value), H k = none ∧ H1 = L2.upd (L2.upd H P (.tbl qs)) k (LamX.CodeO k q)
abbrev lq (X : Cx) : Str := X.env.qual ++ "<lambda>"
theorem code_nt {k : Addr} {q : Str} : NoTbl (LamX.CodeO k q) := fun ps e => LamX.codeO_ne ps e
theorem tabs_grow {T : List (Addr × Str)} {H : Hp} {P k : Addr} {q : Str} {ps : Array Value} {l col : Value} (pos : Pos) (hT : LamX.Tabs T H) (hP : H P = some (.tbl ps)) (tri : TriplesOk ps.toList) (old : ∀ (p' : Pos) (cv : Value), codeAmong p' ps.toList = some cv → ∃ c, cv = .ref c ∧ H c = some (LamX.CodeO c q)) (n : H k = none) (u : ∀ p ∈ T, p.1 = P → p.2 = q) :
    LamX.Tabs T (L2.upd (L2.upd H P (.tbl (ps ++ #[rawInt pos.line, rawInt pos.col, .ref k]))) k (LamX.CodeO k q)) := by
  have stay : ∀ b o, H b = some o → NoTbl o → L2.upd (L2.upd H P (.tbl (ps ++ #[rawInt pos.line, rawInt pos.col, .ref k]))) k (LamX.CodeO k q) b = some o := fun b o e nt => by
    have b1 : b ≠ k := ne_of_none e n
    have b2 : b ≠ P := fun z => nt ps (by rw [z, hP] at e; exact (Option.some.inj e).symm)
    rw [upd_ne b1, upd_ne b2, e]
  intro p hp
  rcases Classical.em (p.1 = P) with same | other
  · have row : (ps ++ #[rawInt pos.line, rawInt pos.col, Value.ref k]).toList = ps.toList ++ [rawInt pos.line, rawInt pos.col, .ref k] := by simp
    rw [u p hp same, same]
    refine ⟨ps ++ #[rawInt pos.line, rawInt pos.col, .ref k], (upd_ne (ne_of_none hP n)).trans upd_same, ?_, fun p' cv found => ?_⟩
    · rw [row]; exact TriplesOk_snoc _ _ _ _ tri
    · rw [row] at found
      rcases LamX.among_app _ tri found with o | o
      · obtain ⟨c, e1, e2⟩ := old p' cv o
        exact ⟨c, e1, stay c _ e2 code_nt⟩
      · exact ⟨k, o, upd_same⟩
  · obtain ⟨ps2, t1, t2, t3⟩ := hT p hp
    refine ⟨ps2, by rw [upd_ne (ne_of_none t1 n), upd_ne other, t1], t2, fun p' cv found => ?_⟩
    obtain ⟨c, e1, e2⟩ := t3 p' cv found
    exact ⟨c, e1, stay c _ e2 code_nt⟩
theorem lam_new {X : Cx} {pins : List (Addr × Obj)} {σ : St} {H : Hp} {s : Shared} {T : List (Addr × Str)} {c P : Addr} {params : Arguments} {body : Expr} {scope : Scope} {pos : Pos} {E Q : Value → Shared → Prop} (I : Inv X pins σ H s) (TB : LamX.TabB X.base X.mg c P) (code : X.env.code = .ref c) (mem : (P, lq X) ∈ T) (uq : ∀ p ∈ T, p.1 = P → p.2 = lq X) (hT : LamX.Tabs T H)
    (plainDef : defaultsOf params X.env = ([], [])) (free : ∀ y ∈ scope.names, y.2 = .free → ∃ c, X.env.cells.lookup y.1 = some c)
    (go : ∀ (f k : Addr) (pm ctv : Value) (H1 : Hp) (s1 : Shared), Inv X pins σ H1 s1 → LamTo P (lq X) H H1 → LamX.Tabs T H1 → s1.heap.get? f = some (PySem.W.kla_obj "<lambda>" (lq X) params body scope (cloFrom X.env.cells scope.names []) pm k ctv) → H1 f = none → f ∉ frs X.stack → H1 k = some (LamX.CodeO k (lq X)) → Q (.ref f) s1) :
    wpAny (model X.prog X.w) X.A (eval (.Lambda params body scope pos) X.env) Q E s := by
  obtain ⟨ps, tabAt, tri, known⟩ := hT _ mem
  have tabHeap : s.heap.get? P = some { cls := .none, data := .fields ps } := I.hok P _ tabAt
  have built := TB.bm.keeps I.bk
  have globs := I.mod.glob.keeps I.bk
  have out : ∀ f, s.heap.objs.size ≤ f → f ∉ frs X.stack := fun f big mf => by
    cases List.mem_cons.mp (I.stkSub _ mf) with
    | inl e => exact absurd (Nat.lt_of_lt_of_le (e ▸ I.lt) big) (Nat.lt_irrefl _)
    | inr e => exact I.nofs big e
  refine PySem.W.kla_eval plainDef ?_
  cases found : codeAmong pos ps.toList with
  | some cv =>
    obtain ⟨k, rfl, ck⟩ := known pos cv found
    refine PySem.W.kla_makeFunctionHit (P := P) (ps := ps) (c := c) (mg := X.mg) (closure_ok free) I.ok.glob globs code (TB.code.keeps I.bk) tabHeap tri found built fun ctv h2 tk kp big => ?_
    exact go _ k _ ctv H _ (I.kept fun b o e => Heap.get?_push_of_some _ (kp b o e)) (.inl rfl) hT (Heap.get?_push_size _ rfl) (I.hok.fresh big) (out _ big) ck
  | none =>
    refine PySem.W.kla_makeFunction (P := P) (ps := ps) (c := c) (mg := X.mg) (closure_ok free) I.ok.glob globs code (TB.code.keeps I.bk) tabHeap tri found TB.gP built fun k ctv h2 tk but low high rec at2 => ?_
    obtain ⟨k2, oc, vs, t, ek, r1, r2, r3⟩ := rec
    cases ek
    have big : s.heap.objs.size ≤ h2.objs.size := Nat.le_trans low (Nat.le_of_lt high)
    have n := I.hok.fresh low
    have J := LamX.inv_table (q := lq X) (t' := tk) (more := #[rawInt pos.line, rawInt pos.col, .ref k]) (h' := h2.push (PySem.W.kla_obj "<lambda>" (lq X) params body scope (cloFrom X.env.cells scope.names []) ((X.mg "__name__").getD .none) k ctv)) I tabAt (fun b o nb e => Heap.get?_push_of_some _ (but b o nb e)) (Heap.get?_push_of_some _ at2) low ⟨oc, vs, t, Heap.get?_push_of_some _ r1, r2, r3⟩
    refine go _ _ _ ctv _ _ J (.inr ⟨_, _, n, rfl⟩) (tabs_grow (l := .none) (col := .none) pos hT tabAt tri known n uq) (Heap.get?_push_size _ rfl) ?_ (out _ big) upd_same
    have d2 : h2.objs.size ≠ P := fun z => absurd (Nat.lt_of_lt_of_le (z ▸ Heap.lt_size tabHeap) big) (Nat.lt_irrefl _)
    rw [upd_ne (Nat.ne_of_gt high), upd_ne d2]
    exact I.hok.fresh big
end Dn

end
section
/-! Dn26: the law's told, called with a lambda. -/
namespace Dn
open PySem L2
open PyProof.Rows hiding St
section
variable {C : Cfg} {P H : Hp} {σ : St} {r : Env}
/-- nothing but the table has changed, and something is new -/
theorem tr_lam {B : Addr} {q : Str} {H1 : Hp} (S : Sit C P H σ r) (hB : ∃ ps, H B = some (.tbl ps)) (l : LamTo B q H H1) (hT : LamX.Tabs C.T H1) (hg : B ∉ C.TG) : Tr C σ P H r P H1 r := by
  rcases l with rfl | ⟨k, qs, n, rfl⟩
  · exact Tr.refl S
  obtain ⟨ps, hp⟩ := hB
  have st : ∀ b o, H b = some o → NoTbl o → L2.upd (L2.upd H B (.tbl qs)) k (LamX.CodeO k q) b = some o := fun b o e nt => by
    have b2 : b ≠ B := fun z => nt ps (by rw [z, hp] at e; exact (Option.some.inj e).symm)
    rw [upd_ne (ne_of_none e n), upd_ne b2, e]
  have st2 : ∀ b, L2.upd (L2.upd H B (.tbl qs)) k (LamX.CodeO k q) b = none → H b = none := fun b e => by
    by_cases z : b = k
    · rw [z]; exact n
    · rw [upd_ne z] at e
      by_cases y : b = B
      · rw [y, upd_same] at e; cases e
      · rwa [upd_ne y] at e
  refine ⟨⟨⟨hT, fun p hm => ?_⟩, fun b o e => ?_, fun b o e nt nm => st b o (S.keep b o e nt nm) nt, fun b e => S.old b (st2 b e), fun j s es => ?_, S.len, S.own, S.newP⟩, Sub.refl P, fun b o e nt _ => st b o e nt, fun b h => .inl h, fun _ _ h => h, fun b o e => ?_⟩
  · obtain ⟨ps', e, t⟩ := S.tabs.2 p hm
    have b2 : p ≠ B := fun z => hg (z ▸ hm)
    exact ⟨ps', by rw [upd_ne (ne_of_none e n), upd_ne b2, e], t⟩
  · obtain ⟨po, z⟩ := S.part b o e
    refine ⟨po, ?_⟩
    rcases z with z | ⟨z1, ob, z2⟩
    · exact .inl (st b o z (plain_notbl po))
    · exact .inr ⟨z1, ob, st b _ z2 fun ps e => by cases e⟩
  · have k := S.slot j s es
    cases s with
    | un => trivial
    | hid => exact k
    | fz d => exact k
    | ow d =>
      obtain ⟨b, e, n, n0, q⟩ := k
      obtain ⟨o, ho, po⟩ := q.obj
      exact ⟨b, e, n, n0, q.sub (Sub.refl P) ((st b o ho (plain_notbl po)).trans ho.symm)⟩
    | io d =>
      obtain ⟨b, e, n, n0, n1, q⟩ := k
      obtain ⟨o, ho, po⟩ := q.obj
      exact ⟨b, e, n, n0, n1, q.sub (Sub.refl P) ((st b o ho (plain_notbl po)).trans ho.symm)⟩
  · cases q : L2.upd (L2.upd H B (.tbl qs)) k (LamX.CodeO _ _) b with
    | some o' => exact ⟨o', rfl⟩
    | none => have := st2 b q; rw [e] at this; cases this
end
/-! ### the clauses: a class each, a word each -/
/-- what an exception makes of the answer -/
def WM (K : PySem.W.Frag) : List (Value × Str) → Value → Hp → VK → Prop
  | [], _, _, _ => False
  | (c, w) :: l, cls, H, Q => ∃ b, PySem.W.exmOne K cls c = some b ∧ (b = true → Q (.str w) H) ∧ (b = false → WM K l cls H Q)
abbrev saysT (w : Str) : Addr → Value → Option Addr → TS := fun _ _ _ D _ H => D.rt (.str w) H
theorem wMany_of {K : PySem.W.Frag} {D : Ends} {cls : Value} {d : Option Addr} {σ : St} {H : Hp} : ∀ {l : List (Value × Str)}, WM K l cls H D.rt → wMany K (fun _ _ _ _ => False) D (l.map fun p => (p.1, saysT p.2)) cls d σ H
  | [], h => h
  | (c, w) :: l, ⟨b, e, h1, h2⟩ => ⟨b, e, fun z a _ => h1 z, fun z => wMany_of (h2 z)⟩
def TTm (K : PySem.W.Frag) (l : List (Value × Str)) : (XK → Hp → VK → Prop) → Hp → VK → Prop := fun tl H Q => tl (fun cls _ H' => WM K l cls H' Q) H Q
theorem hds_cons {X : Cx} {e w : Str} {c : Value} {j : Nat} {np p5 p6 p7 : Pos} {hds : List ExceptHandler} {l : List (Value × Str)} (hc : Names X e c) (r : HdsOk X hds (l.map fun p => (p.1, saysT p.2))) :
    HdsOk X (.ExceptHandler (some (.Name e np)) none [.Return (some (.Constant (.str w) j p5)) p6] p7 :: hds) (((c, w) :: l).map fun p => (p.1, saysT p.2)) :=
  .cons hc (fun a oe cls d pn _ _ => pss_one (ps_ret pe_str)) r
theorem told_gives {X : Cx} {Ng : List Str} {x a q : Str} {sg : Scope} {g : Addr} {cdg : Value} {h₀ : ExceptHandler} {hds : List ExceptHandler} {l : List (Value × Str)} {p1 p2 p3 p8 : Pos} (h0 : ∀ f : Addr, (L2.start Ng [V.ref f])[0]? = some (some (V.ref f)))
    (hh : ∀ (s : Shared) (H : Hp), HdsOk (cxOf C8.CX0 X.prog X.w X.K X.mg X.base Ng x sg g cdg X.A X.stack s H C8.E0).nox (h₀ :: hds) (l.map fun p => (p.1, saysT p.2))) :
    LamX.GivesTo X Ng x sg g cdg [.Try [.Return (some (.Call (.Name a p1) [] [] p2)) p3] (h₀ :: hds) [] [] p8] a q (TTm X.K l) := by
  intro f k s H Q tl act hc h
  refine ⟨_, pss_one (ps_try_many (X := (cxOf C8.CX0 X.prog X.w X.K X.mg X.base Ng x sg g cdg X.A X.stack s H C8.E0).nox) (Wout := fun _ _ _ _ => False)
    (tb := fun W D σ H => ∃ Ech : XK, (∀ cls d σ' H', Ech cls d H' → W cls d σ' H') ∧ σ[0]? = some (some (.ref f)) ∧ H k = some (LamX.CodeO k q) ∧ tl Ech H D.rt) rfl rfl LamX.takes0 (fun W pn xe tk _ => ⟨fun pins s' σ H' D I ⟨Ech, hW, h1, h2, h3⟩ => ?_⟩) (hh s H)), ?_⟩
  · exact (pss_one (ps_ret (pos := p3) (act W pn xe Ech p1 p2 tk hW))).run pins s' σ H' D I ⟨h1, h2, h3⟩
  · exact ⟨fun cls _ H' => WM X.K l cls H' Q, fun cls d σ' H' z => wMany_of z, h0 f, hc, h⟩
end Dn

end
section
/-! Dn27: x(lambda: e). -/
namespace Dn
open PySem L2
open PyProof.Rows hiding St
def tLamN (T : List (Addr × Str)) (B : Addr) (q : Str) (TT : (XK → Hp → VK → Prop) → Hp → VK → Prop) (t : XK → TE) : TE := fun σ H Q => LamX.Tabs T H ∧ ∀ H1, LamTo B q H H1 → LamX.Tabs T H1 → TT (fun E H' Q' => t E σ H' Q') H1 Q
/-- the def that calls what it is given -/
structure ToldD (X : Cx) (x a : Str) (g : Addr) (Ng : List Str) (TT : (XK → Hp → VK → Prop) → Hp → VK → Prop) : Prop where
  ex : ∃ (oc : Value) (od : Option Addr) (osl : Array (Option Value)) (pg : Arguments) (bg : List Stmt) (sg : Scope) (dV kV doc pm : Value) (an : Option Addr) (cdv ct : Value), X.K.lookup g = some ⟨oc, od, .func (PySem.W.fnOf x x pg bg sg dV kV doc pm an cdv ct), osl⟩ ∧ PySem.W.codeIn X.K cdv x = true ∧
    L2.Binds X.K (PySem.W.fnOf x x pg bg sg dV kV doc pm an cdv ct) [a] [] ∧ FnScope Ng [a] sg ∧ Ng[0]? = some a ∧ Vis sg a ∧ LamX.GivesTo X Ng x sg g cdv bg a (lq X) TT
theorem pe_told {X : Cx} {T : List (Addr × Str)} {TT : (XK → Hp → VK → Prop) → Hp → VK → Prop} {x a : Str} {g c B : Addr} {Ng : List Str} {k : Nat} {params : Arguments} {body : Expr} {scope : Scope} {t : XK → TE} {p lpos pos : Pos} (hg : Gl X x) (hm : X.mg x = some (.ref g)) (hk : PySem.W.keepIn X.K (.ref g) = true) (td : ToldD X x a g Ng TT)
    (TB : LamX.TabB X.base X.mg c B) (code : X.env.code = .ref c) (mem : (B, lq X) ∈ T) (uq : ∀ p ∈ T, p.1 = B → p.2 = lq X) (hr : Room (k + 2) X.A) (L : LamX.LamS X.env.scope scope) (pd : defaultsOf params X.env = ([], []))
    (hbind : ∀ (q : Str) (cl : List (Str × Addr)) (pm cv ctv : Value), bindArgs (PySem.W.kla_fn "<lambda>" q params body scope cl pm cv ctv) ⟨[], []⟩ = pure [])
    (hbody : ∀ (A : Around) (outer : List PySem.Env) (s : Shared) (H : Hp) (E : XK) (f c' : Addr), Room k (A.deeper (LamX.lamEnv X scope s.heap.objs.size f c')) → PE (LamX.lamCx X A outer s H E scope f c') body (t E))
    (d1 : (x == ("__debug__" : Str)) = false := by decide) (d2 : (a == ("__debug__" : Str)) = false := by decide) (d3 : (a == ("__classdict__" : Str)) = false := by decide) : PE X (.Call (.Name x p) [.Lambda params body scope lpos] [] pos) (tLamN T B (lq X) TT t) := by
  obtain ⟨oc, od, osl, pg, bg, sg, dV, kV, doc, pm, an, cdv, ct, lk, hcg, hb, Sg, hNg, hva, hG⟩ := td.ex
  refine ⟨fun pins s σ H Q I ⟨hT, h⟩ => wpAny_Call_Name_kw (ld_glob I hg hm (PySem.W.callWith_K (h₀ := X.base) I.ok.mod.kin hk ?_ (by rfl) (by rfl)) d1)⟩
  show wpAny _ X.A (spliced ((false, eval (.Lambda params body scope lpos) X.env) :: backTo pos (starEach [] X.env))) _ _ s
  refine Calls.spliced_cons (lam_new I TB code mem uq hT pd (L.has I.ok) fun f k' pm' ctv H1 s1 J to T1 hf nf hfr hco => Calls.spliced_nil ⟨J.kIn, ?_⟩)
  have run : codeAny (model X.prog X.w) X.A (.call (.ref g) ⟨[.ref f], []⟩) (CR C8.CX0 X.stack X.prog X.w H1 s1 Q C8.E0) s1 :=
    LamX.run_ofS (N := Ng) (ps := [a]) (us := [.ref f]) (vs := [.ref f]) lk hcg Sg hr J.env0 (hb s1 [.ref f] J.kIn rfl) (.cons rfl .nil) rfl fun hr2 => by
      obtain ⟨t2, pt2, q2⟩ := hG f k' s1 H1 Q (fun E H' Q' => t E σ H' Q') (fun W pn xe E p1 p2 tk hW => LamX.pe_act (i := 0) J L hf nf hfr (hbind _ _ _ _ _) tk hW hr2 (fun A outer s H hr3 => hbody A outer s H E f k' hr3) hNg hva d2 d3) hco (h H1 to T1)
      exact ⟨t2, pt2.nox, q2⟩
  refine wpAny_call (codeAny_mono run fun o s2 ho => ?_)
  match o, ho with
  | .error e, ho => exact (show False from ho).elim
  | .ok (.ret u), ho => exact J.after ho
  | .ok .next, ho => exact (show False from ho).elim
  | .ok .brk, ho => exact (show False from ho).elim
  | .ok .cont, ho => exact (show False from ho).elim
/-! ### its reading -/
def eTold (told : Ex → Option Str) (fe : Env → Out Res) (r : Env) : Out Res := match fe r with
  | .ok x r1 => .ok x r1
  | .exn e r1 => (match told e with
    | some w => .ok (.fz (.str w)) r1
    | none => .bad)
  | .bad => .bad
theorem qe_told {Γ : Tx} {W : WX} {X : Cx} {told : Ex → Option Str} {l : List (Value × Str)} {x a : Str} {g c B : Addr} {Ng : List Str} {k : Nat} {params : Arguments} {body : Expr} {scope : Scope} {fe : Env → Out Res} {p lpos pos : Pos} (hg : Gl X x) (hm : X.mg x = some (.ref g)) (hk : PySem.W.keepIn X.K (.ref g) = true) (td : ToldD X x a g Ng (TTm X.K l))
    (hx : ∀ (e : Ex) (w : Str), told e = some w → ∀ (H : Hp) (Q : VK), Q (.str w) H → WM X.K l (Γ.cls e) H Q)
    (TB : LamX.TabB X.base X.mg c B) (code : X.env.code = .ref c) (mem : (B, lq X) ∈ Γ.T) (uq : ∀ p ∈ Γ.T, p.1 = B → p.2 = lq X) (nG : B ∉ Γ.TG) (hr : Room (k + 2) X.A) (L : LamX.LamS X.env.scope scope) (pd : defaultsOf params X.env = ([], []))
    (hbind : ∀ (q : Str) (cl : List (Str × Addr)) (pm cv ctv : Value), bindArgs (PySem.W.kla_fn "<lambda>" q params body scope cl pm cv ctv) ⟨[], []⟩ = pure [])
    (hbody : ∀ (A : Around) (outer : List PySem.Env) (s : Shared) (H : Hp) (E : XK) (f c' : Addr), Room k (A.deeper (LamX.lamEnv X scope s.heap.objs.size f c')) → QE Γ (fun cls d _ H => E cls d H) (LamX.lamCx X A outer s H E scope f c') body fe)
    (d1 : (x == ("__debug__" : Str)) = false := by decide) (d2 : (a == ("__debug__" : Str)) = false := by decide) (d3 : (a == ("__classdict__" : Str)) = false := by decide) : QE Γ W X (.Call (.Name x p) [.Lambda params body scope lpos] [] pos) (eTold told fe) := by
  refine ⟨_, pe_told (T := Γ.T) (t := fun E σ H Q => ∀ (A : Around) (outer : List PySem.Env) (s : Shared) (H0 : Hp) (f c' : Addr) (h : Room k (A.deeper (LamX.lamEnv X scope s.heap.objs.size f c'))), Classical.choose (hbody A outer s H0 E f c' h).ex σ H Q)
    hg hm hk td TB code mem uq hr L pd hbind (fun A outer s H E f c' h => ⟨fun pins s2 σ H2 Q I z => (Classical.choose_spec (hbody A outer s H E f c' h).ex).1.run pins s2 σ H2 Q I (z A outer s H f c' h)⟩) d1 d2 d3, fun C hC σ H P r Q S h => ?_⟩
  have hT : LamX.Tabs Γ.T H := hC.1 ▸ S.tabs.1
  refine ⟨hT, fun H1 to T1 A outer s H0 f c' hr2 => ?_⟩
  have tr := tr_lam S (by obtain ⟨ps, e, _⟩ := hT _ mem; exact ⟨ps, e⟩) to (by rw [hC.1]; exact T1) (by rw [hC.2.1]; exact nG)
  refine (Classical.choose_spec (hbody A outer s H0 _ f c' hr2).ex).2 C hC σ H1 P r Q tr.sit ?_
  unfold eTold at h
  cases o : fe r with
  | bad => rw [o] at h; exact h.elim
  | ok y r1 =>
    rw [o] at h
    exact fun P' H' t' v hv fv => h P' H' (tr.trans t') v hv (fv.back tr)
  | exn e r1 =>
    rw [o] at h
    cases w : told e with
    | none =>
      have h' : Cont C W σ P H r (match told e with
        | some w => Out.ok (Res.fz (.str w)) r1
        | none => Out.bad) _ := h
      rw [w] at h'; exact h'.elim
    | some w' =>
      have h' : Cont C W σ P H r (match told e with
        | some w => Out.ok (Res.fz (.str w)) r1
        | none => Out.bad) _ := h
      rw [w] at h'
      intro P' H' t' dd
      rw [hC.2.2]
      exact hx e w' w H' Q (h' P' H' (tr.trans t') (.str w') (RepT.of (.str w')) trivial)
end Dn

end
section
/-! Dn28: generator expressions over a range. -/
namespace Dn
open PySem L2
open PyProof.Rows hiding St
section
variable {Γ : Tx} {W : WX} {X : Cx} {tg a b : Expr} {tn : List Str} {p pos : Pos}
def row1 (ds : List D) : List (List D) := ds.map fun d => [d]
theorem rows1 : ∀ ds : List D, rowsOf 1 ds = some (row1 ds)
  | [] => rfl
  | d :: ds => by
    show (match rowOf 1 d, rowsOf 1 ds with
      | some row, some rows => some (row :: rows)
      | _, _ => none) = _
    rw [rows1 ds]; rfl
theorem src_rng {pins : List (Addr × Obj)} {σ : St} {H : Hp} {s : Shared} {R : List (List D) → Hp → Prop} {E : Value → Shared → Prop} {lo hi : Int} {t u v : Tok} {tk : Nat} (ht : Tgt tg tn) (h1n : tn.length = 1) (hr : X.A.handled = none) (I : Inv X pins σ H s) (h1 : -(2 ^ 62) ≤ lo) (h2 : lo < 2 ^ 62) (h3 : -(2 ^ 62) ≤ hi) (h4 : hi < 2 ^ 62)
    (q : R (row1 (rngL lo (hi - lo).toNat)) H) : wpAny (model X.prog X.w) X.A (pyIter (.ref s.heap.objs.size)) (fun it s2 => ∃ I rows H1 s1' wr Stt, it = .ref I ∧ SrcAt X pins σ tg tn I rows H1 s1' s2 wr Stt ∧ R rows H1) E { s with heap := s.heap.push { cls := .type "range", data := .fields #[.int lo t, .int hi u, .int 1 v] }, toks := tk } := by
  have szp : ∀ (h : Heap) (ob : Obj), h.objs.size < (h.push ob).objs.size := fun h ob => by rw [Heap.size_push]; exact Nat.lt_succ_self _
  refine wpAny_pyIter_range (IsRange.new ..) (small_one h1 h2 h3 h4) ?_
  have big : s.heap.objs.size < (s.heap.push { cls := .type "range", data := .fields #[.int lo t, .int hi u, .int 1 v] }).objs.size := szp _ _
  refine ⟨(s.heap.push { cls := .type "range", data := .fields #[.int lo t, .int hi u, .int 1 v] }).objs.size, _, H, s, [(s.heap.push { cls := .type "range", data := .fields #[.int lo t, .int hi u, .int 1 v] }).objs.size], fun i h => IsRangeIter h (s.heap.push { cls := .type "range", data := .fields #[.int lo t, .int hi u, .int 1 v] }).objs.size (lo + (i : Nat) * 1) (((hi - lo).toNat : Int) - (i : Nat)) 1, rfl,
    ⟨I, ⟨_, _, rfl⟩, fun b o e => Heap.get?_push_of_some _ (Heap.get?_push_of_some _ e), Nat.le_trans (Nat.le_of_lt big) (Nat.le_of_lt (szp _ _)), fun b hb => ?_, fun P h' tP hk => ?_, fun P ce href N tP hE hB hN hC => ?_⟩, q⟩
  · rw [List.mem_singleton] at hb
    subst hb
    exact ⟨Nat.le_of_lt big, szp _ _⟩
  · have e1 : lo + ((0 : Nat) : Int) * 1 = lo := by simp
    have e2 : (((hi - lo).toNat : Nat) : Int) - ((0 : Nat) : Int) = Builtin.Range.rangeSize lo hi 1 := by rw [rangeSize_one]; split <;> omega
    show IsRangeIter _ _ (lo + ((0 : Nat) : Int) * 1) ((((hi - lo).toNat : Nat) : Int) - ((0 : Nat) : Int)) 1
    rw [e1, e2]
    exact hk _ _ (Nat.ne_of_gt (Nat.lt_trans (tbl_lt tP) big)) (Heap.get?_push_size _ rfl)
  · have hN1 := Nat.lt_of_lt_of_le (szp _ _) hN
    have hlen : (row1 (rngL lo (hi - lo).toNat)).length = (hi - lo).toNat := by unfold row1; rw [List.length_map, rngL_len]
    rw [hlen]
    refine gstep_walk (fun A hA => (Walks.range hA _ lo 1 (hi - lo).toNat).bound) (fun b hb => ?_) hC (fun i h st => ⟨_, _, _, st, rfl, rfl, by decide⟩) (store_of (ds := rngL lo (hi - lo).toNat) ht hE hC tP hB (Nat.le_of_lt (Nat.lt_trans big hN1)) (fun b hb => ?_) (by rw [h1n]; exact rows1 _) fun i v hi => ?_) X.A hr
    · rw [List.mem_singleton] at hb
      rw [hb]; exact List.mem_range.mpr hN1
    · rw [List.mem_singleton] at hb; rw [hb]; exact Nat.le_of_lt big
    · obtain ⟨hi1, t', rfl⟩ := hi
      rw [Int.mul_one]
      exact ⟨_, _, rngL_get lo _ i hi1, .int _ _⟩
/-- the rows of a range, one name -/
def gRng1 (f : Env → Out (List D)) (r : Env) : Out (List (List D)) := (f r).bind fun ds r1 => match ds with
  | [.int j] => if smallI j = true then .ok (row1 (rngL 0 j.toNat)) r1 else .bad
  | _ => .bad
def gRng2 (f : Env → Out (List D)) (r : Env) : Out (List (List D)) := (f r).bind fun ds r1 => match ds with
  | [.int i, .int j] => if smallI i = true ∧ smallI j = true then .ok (row1 (rngL i (j - i).toNat)) r1 else .bad
  | _ => .bad
theorem gsrc_rng1 {f : Env → Out (List D)} (ht : Tgt tg tn) (h1n : tn.length = 1) (hr : X.A.handled = none) (hg : Gl X "range") (hm : X.mg "range" = none) (h : QF Γ W X [a] f) (hs : starEach [a] X.env = [(false, eval a X.env)] := by rfl) : GSrc Γ W X tg (.Call (.Name "range" p) [a] [] pos) tn (gRng1 f) := by
  obtain ⟨t, pa, ka⟩ := h
  refine ⟨fun σ H R => t σ H fun vs H1 => ∃ j : Int, vs = [.int j] ∧ smallI j = true ∧ R (row1 (rngL 0 j.toNat)) H1, fun pins s σ H R I q => ?_, fun C hC σ H P r R S q => ?_⟩
  · refine Call_ (ld_blt I hg hm boot_range (PyProof.Rows.callWith_type1 (thn (pa.run pos pins s σ H _ I q) fun us s1 ⟨vs, H1, I1, r1, q1⟩ => ?_) hs rfl))
    obtain ⟨j, rfl, sm, q⟩ := q1
    obtain ⟨s1', s2'⟩ := smallI_of sm
    cases r1 with
    | cons r rr =>
      cases rr
      obtain ⟨t, rfl⟩ := r
      exact call_range_1 (src_rng ht h1n hr I1 (by omega) (by omega) s1' s2' (by simpa using q))
  · refine ka C hC σ H P r _ S (q.bind fun ds r1 P1 H1 t1 q1 vs rv => ?_)
    split at q1
    · rename_i j
      cases rv with
      | cons a b =>
        cases b
        cases a
        by_cases sm : smallI j = true
        · rw [if_pos sm] at q1
          exact ⟨j, rfl, sm, q1 P1 H1 (Tr.refl t1.sit)⟩
        · rw [if_neg sm] at q1; exact q1.elim
    · exact q1.elim
theorem gsrc_rng2 {f : Env → Out (List D)} (ht : Tgt tg tn) (h1n : tn.length = 1) (hr : X.A.handled = none) (hg : Gl X "range") (hm : X.mg "range" = none) (h : QF Γ W X [a, b] f) (hs : starEach [a, b] X.env = [(false, eval a X.env), (false, eval b X.env)] := by rfl) (hs2 : starEach [b] X.env = [(false, eval b X.env)] := by rfl) : GSrc Γ W X tg (.Call (.Name "range" p) [a, b] [] pos) tn (gRng2 f) := by
  obtain ⟨t, pa, ka⟩ := h
  refine ⟨fun σ H R => t σ H fun vs H1 => ∃ i j : Int, vs = [.int i, .int j] ∧ smallI i = true ∧ smallI j = true ∧ R (row1 (rngL i (j - i).toNat)) H1, fun pins s σ H R I q => ?_, fun C hC σ H P r R S q => ?_⟩
  · refine Call_ (ld_blt I hg hm boot_range (PyProof.Rows.callWith_type1 (thn (pa.run pos pins s σ H _ I q) fun us s1 ⟨vs, H1, I1, r1, q1⟩ => ?_) (by rw [hs, hs2]) (by rw [hs2]; rfl)))
    obtain ⟨i, j, rfl, sm, sm2, q⟩ := q1
    obtain ⟨s1', s2'⟩ := smallI_of sm
    obtain ⟨s3', s4'⟩ := smallI_of sm2
    cases r1 with
    | cons r rr =>
      cases rr with
      | cons r' rr =>
        cases rr
        obtain ⟨t, rfl⟩ := r
        obtain ⟨t', rfl⟩ := r'
        exact call_range_2 (src_rng ht h1n hr I1 s1' s2' s3' s4' q)
  · refine ka C hC σ H P r _ S (q.bind fun ds r1 P1 H1 t1 q1 vs rv => ?_)
    split at q1
    · rename_i i j
      cases rv with
      | cons a b =>
        cases b with
        | cons b c =>
          cases c
          cases a
          cases b
          by_cases sm : smallI i = true ∧ smallI j = true
          · rw [if_pos sm] at q1
            exact ⟨i, j, rfl, sm.1, sm.2, q1 P1 H1 (Tr.refl t1.sit)⟩
          · rw [if_neg sm] at q1; exact q1.elim
    · exact q1.elim
end
end Dn

end
section
/-! Dn29: a subscript inside a generator expression. -/
namespace Dn
open PySem L2
open PyProof.Rows hiding St
section
variable {prog : Program} {w : World} {Bl : Str → Option Value} {M : List Str} {a b : Expr} {fa fb : List D → Option D} {pos : Pos}
def xIx : D → D → Option D
  | .list ds, .int i => if smallI i = true then atI ds i else none
  | .tuple ds, .int i => if smallI i = true then atI ds i else none
  | _, _ => none
theorem ox_ix {value slice : Expr} (hs : PlainIx slice) : OpX prog w (subscriptTail value slice) xIx := by
  intro A E s v u d e z as bs hA rv ru hg
  cases d <;> cases e <;> try (simp [xIx] at hg; done)
  · rename_i ds i
    cases ru with
    | int _ t =>
    cases rv with
    | @list l o vs n _ _ h1 h2 h3 ra =>
      have hg' : (if smallI i = true then atI ds i else none) = some z := hg
      by_cases sm : smallI i = true
      rotate_left
      · rw [if_neg sm] at hg'; cases hg'
      rw [if_pos sm] at hg'
      obtain ⟨b1, b2⟩ := smallI_of sm
      obtain ⟨j, g1, g2, g3, g4, g5⟩ := atI_get hg'
      obtain ⟨rl, rg⟩ := readsAll_at' ra
      have hj : j < vs.toList.length := by rw [rl]; exact (List.getElem?_eq_some_iff.mp g2).1
      have ew : vs.toList[j]? = some vs.toList[j] := List.getElem?_eq_getElem hj
      obtain ⟨d', bs', e1, r1⟩ := rg j _ ew
      rw [g2] at e1
      cases e1
      have pl : s.heap.IsList l vs := ⟨o, h1, h2, n, h3⟩
      have fin : QV s z vs.toList[j] s := ⟨⟨_, r1⟩, GxR.keeps_refl _⟩
      by_cases h0 : 0 ≤ i
      · have hj2 : i.toNat = j := by
          rw [seqIndex_of h0 g5] at g1
          exact Option.some.inj g1
        exact item_listR pl h0 (by omega) (by rw [hj2]; simpa using ew) fin (hs _ _)
      · have hj2 : (i + (vs.size : Int)).toNat = j := by
          rw [seqIndex_neg (by omega) g4] at g1
          have := Option.some.inj g1
          have l2 : vs.size = ds.length := by rw [← rl]; simp
          rw [l2]; exact this
        have l2 : vs.size = ds.length := by rw [← rl]; simp
        exact subscriptTail_builtinR (x := vs.toList[j]) pl.typeIs slot_list_getitem.lookup (wpAny_getItem_list_neg (Q := fun r s' => r = vs.toList[j] ∧ QV s z r s') pl (by omega) (by omega) (by omega) (by rw [hj2]; simpa using ew) ⟨rfl, fin⟩) (hs _ _)
  · rename_i ds i
    cases ru with
    | int _ t =>
    cases rv with
    | @tuple l o vs n _ _ h1 h2 h3 ra =>
      have hg' : (if smallI i = true then atI ds i else none) = some z := hg
      by_cases sm : smallI i = true
      rotate_left
      · rw [if_neg sm] at hg'; cases hg'
      rw [if_pos sm] at hg'
      obtain ⟨b1, b2⟩ := smallI_of sm
      obtain ⟨j, g1, g2, g3, g4, g5⟩ := atI_get hg'
      obtain ⟨rl, rg⟩ := readsAll_at' ra
      have hj : j < vs.toList.length := by rw [rl]; exact (List.getElem?_eq_some_iff.mp g2).1
      have ew : vs.toList[j]? = some vs.toList[j] := List.getElem?_eq_getElem hj
      obtain ⟨d', bs', e1, r1⟩ := rg j _ ew
      rw [g2] at e1
      cases e1
      have fin : QV s z vs.toList[j] s := ⟨⟨_, r1⟩, GxR.keeps_refl _⟩
      have l2 : vs.size = ds.length := by rw [← rl]; simp
      have pl : s.heap.IsTuple l vs := ⟨o, h1, h2, n, h3⟩
      exact subscriptTail_builtinR (x := vs.toList[j]) ⟨o, h1, h2⟩ slot_tuple_getitem.lookup (getItem_tuple (j := j) (Q := fun r s' => r = vs.toList[j] ∧ QV s z r s') pl (by omega) (by omega) (by rw [l2]; exact g1) (by simpa using ew) ⟨rfl, fin⟩) (hs _ _)
theorem px_ix (ha : PX prog w Bl M a fa) (hb : PX prog w Bl M b fb) (hs : PlainIx b := by exact fun _ _ => rfl) : PX prog w Bl M (.Subscript a b pos) (x2 xIx fa fb) :=
  ⟨fun cenv h ρ d A E s G hA k e => Subscript_ (run2 (ox_ix hs) ha hb G hA k e)⟩
end
end Dn

end
section
/-! Dn30: quiet tests: and, or, not. -/
namespace Dn
open PySem L2
open PyProof.Rows hiding St
section
variable {prog : Program} {w : World} {Bl : Str → Option Value} {M : List Str} {a b : Expr} {fa fb : List D → Option Bool} {pos : Pos}
structure PXW (prog : Program) (w : World) (Bl : Str → Option Value) (M : List Str) (e : Expr) (f : List D → Option Bool) : Prop where
  run : ∀ (whole : Sem Value) (cenv : PySem.Env) (h : Heap) (ρ : List D) (b : Bool) (A : Around) (E : Value → Shared → Prop) (s : Shared), GEnv prog w cenv Bl M h ρ → QOkA A → HExt h s.heap → f ρ = some b → wpAny (model prog w) A (PySem.isTrue e cenv whole) (fun c s' => c = b ∧ Keeps s s') E s
theorem PXW.pxt {e : Expr} {f : List D → Option Bool} (h : PXW prog w Bl M e f) : PXT prog w Bl M e f := ⟨fun cenv h1 ρ b A E s G hA k q => h.run _ cenv h1 ρ b A E s G hA k q⟩
def yAnd (fa fb : List D → Option Bool) (ρ : List D) : Option Bool := match fa ρ with
  | some true => fb ρ
  | some false => some false
  | none => none
def yOr (fa fb : List D → Option Bool) (ρ : List D) : Option Bool := match fa ρ with
  | some true => some true
  | some false => fb ρ
  | none => none
theorem pxw_and1 (ha : PXT prog w Bl M a fa) : PXW prog w Bl M (.BoolOp .And [a] pos) fa := by
  refine ⟨fun wh cenv h ρ d A E s G hA k e => isTrue_and (thn (ha.run cenv h ρ d A E s G hA k e) fun c s1 ⟨hc, k1⟩ => ?_)⟩
  subst hc
  cases c with
  | true => exact isTrue_and_nil ⟨rfl, k1⟩
  | false => exact ⟨rfl, k1⟩
theorem pxw_or1 (ha : PXT prog w Bl M a fa) : PXW prog w Bl M (.BoolOp .Or [a] pos) fa := by
  refine ⟨fun wh cenv h ρ d A E s G hA k e => isTrue_or (thn (ha.run cenv h ρ d A E s G hA k e) fun c s1 ⟨hc, k1⟩ => ?_)⟩
  subst hc
  cases c with
  | false => exact isTrue_or_nil ⟨rfl, k1⟩
  | true => exact ⟨rfl, k1⟩
theorem pxw_and {rest : List Expr} (ha : PXT prog w Bl M a fa) (hb : PXW prog w Bl M (.BoolOp .And (b :: rest) pos) fb) : PXW prog w Bl M (.BoolOp .And (a :: b :: rest) pos) (yAnd fa fb) := by
  refine ⟨fun wh cenv h ρ d A E s G hA k e => ?_⟩
  unfold yAnd at e
  cases ea : fa ρ with
  | none => simp only [ea] at e; cases e
  | some x =>
    simp only [ea] at e
    refine isTrue_and (thn (ha.run cenv h ρ x A E s G hA k ea) fun c s1 ⟨hc, k1⟩ => ?_)
    subst hc
    cases c with
    | true => exact thn (hb.run wh cenv h ρ d A E s1 G hA (k.trans k1.ext) e) fun c' s2 ⟨h2, k2⟩ => ⟨h2, k1.tr k2⟩
    | false => cases e; exact ⟨rfl, k1⟩
theorem pxw_or {rest : List Expr} (ha : PXT prog w Bl M a fa) (hb : PXW prog w Bl M (.BoolOp .Or (b :: rest) pos) fb) : PXW prog w Bl M (.BoolOp .Or (a :: b :: rest) pos) (yOr fa fb) := by
  refine ⟨fun wh cenv h ρ d A E s G hA k e => ?_⟩
  unfold yOr at e
  cases ea : fa ρ with
  | none => simp only [ea] at e; cases e
  | some x =>
    simp only [ea] at e
    refine isTrue_or (thn (ha.run cenv h ρ x A E s G hA k ea) fun c s1 ⟨hc, k1⟩ => ?_)
    subst hc
    cases c with
    | false => exact thn (hb.run wh cenv h ρ d A E s1 G hA (k.trans k1.ext) e) fun c' s2 ⟨h2, k2⟩ => ⟨h2, k1.tr k2⟩
    | true => cases e; exact ⟨rfl, k1⟩
theorem pxt_not (ha : PXT prog w Bl M a fa) : PXT prog w Bl M (.UnaryOp .Not a pos) (fun ρ => (fa ρ).map fun b => !b) := by
  refine ⟨fun cenv h ρ d A E s G hA k e => ?_⟩
  obtain ⟨x, ea, rfl⟩ := Option.map_eq_some_iff.mp e
  exact isTrue_not (thn (ha.run cenv h ρ x A E s G hA k ea) fun c s1 ⟨hc, k1⟩ => ⟨by rw [hc], k1⟩)
end
end Dn

end
section
/-! Dn31: dicts: what is there, what is put. -/
namespace Dn
open PySem L2
/-! ### keys -/
def isKey1 : D → Bool
  | .int _ => true
  | .str _ => true
  | _ => false
def isKeyT : D → Bool
  | .tuple ds => ds.all isKey1
  | _ => false
def kEq1 : D → D → Bool
  | .int i, .int j => decide (i = j)
  | .str x, .str y => decide (x = y)
  | _, _ => false
def kEqL : List D → List D → Bool
  | [], [] => true
  | a :: as, b :: bs => kEq1 a b && kEqL as bs
  | _, _ => false
def kEq : D → D → Bool
  | .tuple xs, .tuple ys => kEqL xs ys
  | d, e => kEq1 d e
theorem kEq1_key (a b : Key) : kEq1 (keyD a) (keyD b) = decide (a = b) := by
  cases a <;> cases b <;> simp [keyD, kEq1]
theorem kEq_key (a b : Key) : kEq (keyD a) (keyD b) = decide (a = b) := by
  rw [← kEq1_key]
  cases a <;> cases b <;> rfl
theorem kEqL_key : ∀ a b : List Key, kEqL (a.map keyD) (b.map keyD) = decide (a = b)
  | [], [] => rfl
  | [], b :: bs => by simp [kEqL]
  | a :: as, [] => by simp [kEqL]
  | a :: as, b :: bs => by
    show (kEq1 (keyD a) (keyD b) && kEqL (as.map keyD) (bs.map keyD)) = _
    rw [kEq1_key, kEqL_key as bs]
    simp
theorem kEq_keyT (a b : List Key) : kEq (keyT a) (keyT b) = decide (a = b) := kEqL_key a b
theorem key1_of {P H : Hp} {y : V} {k : D} (h : isKey1 k = true) (c : Ct P H y k) : ∃ key : Key, k = keyD key ∧ y = kV key := by
  cases k with
  | int i => exact ⟨.inl i, rfl, ct_int c⟩
  | str x => exact ⟨.inr x, rfl, ct_str c⟩
  | _ => cases h
theorem keys_of {P : Hp} : ∀ {ds : List D} {vs : List V}, ds.all isKey1 = true → RpAll P vs ds → ∃ ks : List Key, ds = ks.map keyD ∧ vs = ks.map kV
  | [], _, _, .nil => ⟨[], rfl, rfl⟩
  | d :: ds, v :: vs, h, .cons a b => by
    rw [List.all_cons, Bool.and_eq_true] at h
    obtain ⟨key, e1, e2⟩ := key1_of (P := P) (H := P) h.1 (y := v) (k := d) (by
      cases d with
      | int i => exact a
      | str x => exact a
      | _ => cases h.1)
    obtain ⟨ks, e3, e4⟩ := keys_of h.2 b
    exact ⟨key :: ks, by rw [e1, e3]; rfl, by rw [e2, e4]; rfl⟩
theorem keyT_of {P H : Hp} {y : V} {k : D} (p : Part P H) (h : isKeyT k = true) (c : Ct P H y k) : ∃ (ks : List Key) (b : Addr), k = keyT ks ∧ y = .ref b ∧ H b = some (.tup (ks.map kV)) := by
  cases k with
  | tuple ds =>
    obtain ⟨b, vs, rfl, _, hb, ra⟩ := ct_tup p c
    obtain ⟨ks, rfl, rfl⟩ := keys_of h ra
    exact ⟨ks, b, rfl, rfl, hb⟩
  | _ => cases h
/-! ### what is there -/
def dFind (k : D) : List (D × D) → Option D
  | [] => none
  | p :: r => if kEq p.1 k = true then some p.2 else dFind k r
def dPut (k v : D) (kvs : List (D × D)) : List (D × D) := if (kvs.any fun p => kEq p.1 k) = true then kvs.map (fun p => if kEq p.1 k = true then (p.1, v) else p) else kvs ++ [(k, v)]
def gDGet : D → D → Option (Option D)
  | .dict ((.none, .bool false) :: r), k => if isKey1 k = true then some (dFind k r) else none
  | .dict ((.none, .bool true) :: r), k => if isKeyT k = true then some (dFind k r) else none
  | _, _ => none
def gDPut : D → D → D → Option D
  | .dict ((.none, .bool false) :: r), k, v => if isKey1 k = true ∧ r.length < 100000 then some (.dict (dK0 :: dPut k v r)) else none
  | .dict ((.none, .bool true) :: r), k, v => if isKeyT k = true ∧ r.length < 100000 then some (.dict (dT0 :: dPut k v r)) else none
  | _, _, _ => none
section
variable {P : Hp} {κ : Type} [DecidableEq κ] {f : κ → D}
theorem kv_find (hf : ∀ a b, kEq (f a) (f b) = decide (a = b)) (k : κ) {ws : List (κ × V)} {r : List (D × D)} (h : KvAll P f ws r) : (valV ws k = none ∧ dFind (f k) r = none) ∨ ∃ v d, valV ws k = some v ∧ dFind (f k) r = some d ∧ Rp P v d := by
  induction h with
  | nil => exact .inl ⟨rfl, rfl⟩
  | @cons j v ws d r a b ih =>
    by_cases e : j = k
    · subst e
      exact .inr ⟨v, d, valV_pos rfl, if_pos (by show kEq (f j) (f j) = true; rw [hf]; simp), a⟩
    · have e1 : dFind (f k) ((f j, d) :: r) = dFind (f k) r := if_neg (by show ¬ kEq (f j) (f k) = true; rw [hf]; simp [e])
      rw [valV_neg (p := (j, v)) e, e1]
      exact ih
theorem kv_any (hf : ∀ a b, kEq (f a) (f b) = decide (a = b)) (k : κ) {ws : List (κ × V)} {r : List (D × D)} (h : KvAll P f ws r) : (ws.any fun p => decide (p.1 = k)) = r.any fun p => kEq p.1 (f k) := by
  induction h with
  | nil => rfl
  | @cons j v ws d r a b ih => rw [List.any_cons, List.any_cons, ih, hf]
theorem kv_map (hf : ∀ a b, kEq (f a) (f b) = decide (a = b)) (k : κ) {v : V} {d : D} (hv : Rp P v d) {ws : List (κ × V)} {r : List (D × D)} (h : KvAll P f ws r) :
    KvAll P f (ws.map fun p => if p.1 = k then (p.1, v) else p) (r.map fun p => if kEq p.1 (f k) = true then (p.1, d) else p) := by
  induction h with
  | nil => exact .nil
  | @cons j u ws e r a b ih =>
    rw [List.map_cons, List.map_cons]
    by_cases q : j = k
    · rw [if_pos q, if_pos (by rw [hf]; simp [q])]; exact .cons hv ih
    · rw [if_neg q, if_neg (by rw [hf]; simp [q])]; exact .cons a ih
theorem KvAll.app {f : κ → D} {ws us : List (κ × V)} {r s : List (D × D)} (h : KvAll P f ws r) (h' : KvAll P f us s) : KvAll P f (ws ++ us) (r ++ s) := by
  induction h with
  | nil => exact h'
  | cons a _ ih => exact .cons a ih
theorem kv_put (hf : ∀ a b, kEq (f a) (f b) = decide (a = b)) (k : κ) {v : V} {d : D} (hv : Rp P v d) {ws : List (κ × V)} {r : List (D × D)} (h : KvAll P f ws r) : KvAll P f (putK ws k v) (dPut (f k) d r) := by
  unfold putK dPut
  rw [← kv_any hf k h]
  by_cases q : (ws.any fun p => decide (p.1 = k)) = true
  · rw [if_pos q, if_pos q]; exact kv_map hf k hv h
  · rw [if_neg q, if_neg q]; exact h.app (.cons hv .nil)
theorem KvAll.len {f : κ → D} {ws : List (κ × V)} {r : List (D × D)} (h : KvAll P f ws r) : ws.length = r.length := by
  induction h with
  | nil => rfl
  | cons _ _ ih => rw [List.length_cons, List.length_cons, ih]
end
section
variable {P H : Hp} {x y v : V} {c k d : D}
theorem dget_ok {o : Option D} (p : Part P H) (cx : Ct P H x c) (cy : Ct P H y k) (h : gDGet c k = some o) : ∃ a r, x = .ref a ∧ DGet H a y r ∧ ((o = none ∧ r = none) ∨ ∃ v d, r = some v ∧ o = some d ∧ Rp P v d) := by
  unfold gDGet at h
  split at h
  · rename_i r
    split at h
    · rename_i hk
      obtain ⟨a, rfl, q⟩ := cx
      obtain ⟨key, rfl, rfl⟩ := key1_of hk cy
      cases h
      rcases q with ⟨ws, r', e, g, kv⟩ | ⟨ws, r', e, g, kv⟩
      · cases e
        refine ⟨a, valV ws key, rfl, .inl ⟨ws, key, g, rfl, rfl⟩, ?_⟩
        rcases kv_find kEq_key key kv with ⟨z1, z2⟩ | ⟨v, d, z1, z2, z3⟩
        · exact .inl ⟨z2, z1⟩
        · exact .inr ⟨v, d, z1, z2, z3⟩
      · cases e
    · cases h
  · rename_i r
    split at h
    · rename_i hk
      obtain ⟨a, rfl, q⟩ := cx
      obtain ⟨ks, b, rfl, rfl, hb⟩ := keyT_of p hk cy
      cases h
      rcases q with ⟨ws, r', e, g, kv⟩ | ⟨ws, r', e, g, kv⟩
      · cases e
      · cases e
        refine ⟨a, valV ws ks, rfl, .inr ⟨ws, ks, b, g, rfl, hb, rfl⟩, ?_⟩
        rcases kv_find kEq_keyT ks kv with ⟨z1, z2⟩ | ⟨v, d, z1, z2, z3⟩
        · exact .inl ⟨z2, z1⟩
        · exact .inr ⟨v, d, z1, z2, z3⟩
    · cases h
  · cases h
theorem dput_ok {a : Addr} {c' : D} (p : Part P H) (hc : Holds P H a c) (cy : Ct P H y k) (hv : Rp P v d) (h : gDPut c k d = some c') : ∃ o', DPut H a y v (L2.upd H a o') ∧ Holds P (L2.upd H a o') a c' := by
  unfold gDPut at h
  split at h
  · rename_i r
    split at h
    · rename_i hk
      obtain ⟨key, rfl, rfl⟩ := key1_of hk.1 cy
      cases h
      rcases hc with ⟨ws, r', e, g, kv⟩ | ⟨ws, r', e, g, kv⟩
      · cases e
        exact ⟨.dK (putK ws key v), .inl ⟨ws, key, g, rfl, Nat.lt_of_lt_of_le (by rw [kv.len]; exact hk.2) (by decide), rfl⟩, .inl ⟨_, _, rfl, upd_same, kv_put kEq_key key hv kv⟩⟩
      · cases e
    · cases h
  · rename_i r
    split at h
    · rename_i hk
      obtain ⟨ks, b, rfl, rfl, hb⟩ := keyT_of p hk.1 cy
      cases h
      rcases hc with ⟨ws, r', e, g, kv⟩ | ⟨ws, r', e, g, kv⟩
      · cases e
      · cases e
        exact ⟨.dT (putK ws ks v), .inr ⟨ws, ks, b, g, rfl, hb, Nat.lt_of_lt_of_le (by rw [kv.len]; exact hk.2) (by decide), rfl⟩, .inr ⟨_, _, rfl, upd_same, kv_put kEq_keyT ks hv kv⟩⟩
    · cases h
  · cases h
end
/-! ### expressions -/
def eDNew (t : Bool) (r : Env) : Out Res := .ok (.ow (.dict [(.none, .bool t)])) r
def rDIx : R2 := fun x y H Q => ∃ a v, x = .ref a ∧ DGet H a y (some v) ∧ Q v H
def gDIx (c k : D) : Option ORes := match gDGet c k with
  | some (some d) => some (.val d)
  | _ => none
theorem o2_dix : Op2 rDIx gDIx := by
  intro P H x y c k o Q p cx cy h q
  unfold gDIx at h
  split at h
  · rename_i d e
    cases h
    obtain ⟨a, r, rfl, g, z⟩ := dget_ok p cx cy e
    rcases z with ⟨z, _⟩ | ⟨v, d', rfl, z, rv⟩
    · cases z
    · cases z
      exact ⟨a, v, rfl, g, q v (RepT.of rv)⟩
  · cases h
def rDIn (b : Bool) : R2 := fun y x H Q => ∃ a o, x = .ref a ∧ DGet H a y o ∧ Q (.bl (o.isSome == b)) H
def gDIn (b : Bool) (k c : D) : Option ORes := match gDGet c k with
  | some o => some (.val (.bool (o.isSome == b)))
  | none => none
theorem o2_din {b : Bool} : Op2 (rDIn b) (gDIn b) := by
  intro P H y x k c o Q p cy cx h q
  unfold gDIn at h
  split at h
  · rename_i w e
    cases h
    obtain ⟨a, r, rfl, g, z⟩ := dget_ok p cx cy e
    refine ⟨a, r, rfl, g, ?_⟩
    have hz : r.isSome = w.isSome := by
      rcases z with ⟨rfl, rfl⟩ | ⟨v, d', rfl, rfl, _⟩ <;> rfl
    rw [hz]
    exact oc_use_bool q
  · cases h
def isScal : D → Bool
  | .none => true
  | .bool _ => true
  | .int _ => true
  | .str _ => true
  | .tuple _ => true
  | _ => false
theorem scal_rep {P H : Hp} {v : V} {d : D} (h : isScal d = true) (c : Ct P H v d) : RepT P v d := by
  cases d with
  | list ds => cases h
  | dict kvs => cases h
  | _ => exact c
def eDGet2 (fd fk fx : Env → Out Res) (r : Env) : Out Res := (fd r).bind fun x r1 => match cont r1 x with
  | some (.dict _) => (fk r1).bind fun y r2 => (fx r2).bind fun z r3 => (match cont r3 x, cont r3 y, cont r3 z with
    | some c, some k, some d => (match gDGet c k with
      | some (some e) => .ok (.fz e) r3
      | some none => if isScal d = true then .ok (.fz d) r3 else .bad
      | none => .bad)
    | _, _, _ => .bad)
  | _ => .bad
section
variable {Γ : Tx} {W : WX} {X : Cx} {a b e : Expr} {fa fb fe : Env → Out Res} {pos apos cpos : Pos}
theorem qe_dnewK : QE Γ W X (.Dict [] [] pos) (eDNew false) := by
  refine ⟨_, pe_dnewK, fun C hC σ H P r Q S q p n => ?_⟩
  have t := Tr.new (o := .dK []) S n
  exact q _ _ t _ ⟨p, rfl, S.part.non n, S.old p n, .inl ⟨[], [], rfl, upd_same, .nil⟩, fun i z => S.slotN n i z⟩ fun a e => by cases e; exact n
theorem qe_dnewT : QE Γ W X (.Dict [] [] pos) (eDNew true) := by
  refine ⟨_, pe_dnewT, fun C hC σ H P r Q S q p n => ?_⟩
  have t := Tr.new (o := .dT []) S n
  exact q _ _ t _ ⟨p, rfl, S.part.non n, S.old p n, .inr ⟨[], [], rfl, upd_same, .nil⟩, fun i z => S.slotN n i z⟩ fun a e => by cases e; exact n
theorem qe_dix (hu : X.A.units + 64 < cLine) (h : QE Γ W X a fa) (h' : QE Γ W X b fb) (hs : NoSl b := by exact fun _ _ => rfl) : QE Γ W X (.Subscript a b pos) (eOp2 gDIx fa fb) := by
  obtain ⟨ta, pa, ka⟩ := h.ex
  obtain ⟨tb, pb, kb⟩ := h'.ex
  exact ⟨_, pe_dget (by omega) pa pb hs, fun C hC => two o2_dix (ka C hC) (kb C hC)⟩
theorem rDIn_true {ta tb : TE} : tDIn ta tb = tOp (rDIn true) ta tb := by
  funext σ H Q
  simp only [tDIn, tOp, rDIn, beq_true]
theorem rDIn_false {ta tb : TE} : tDNotIn ta tb = tOp (rDIn false) ta tb := by
  funext σ H Q
  simp only [tDNotIn, tOp, rDIn, beq_false]
theorem qe_din (hu : X.A.units + 64 < cLine) (h : QE Γ W X a fa) (h' : QE Γ W X b fb) (hm : behindInMarks .In b = false := by first | exact nomark _ | rfl) : QE Γ W X (.Compare a [.In] [b] pos) (eOp2 (gDIn true) fa fb) := by
  obtain ⟨ta, pa, ka⟩ := h.ex
  obtain ⟨tb, pb, kb⟩ := h'.ex
  refine ⟨_, pe_cmp (pc_din (by omega) pa pb) hm, fun C hC => ?_⟩
  rw [rDIn_true]
  exact two o2_din (ka C hC) (kb C hC)
theorem qe_dnin (hu : X.A.units + 64 < cLine) (h : QE Γ W X a fa) (h' : QE Γ W X b fb) (hm : behindInMarks .NotIn b = false := by first | exact nomark _ | rfl) : QE Γ W X (.Compare a [.NotIn] [b] pos) (eOp2 (gDIn false) fa fb) := by
  obtain ⟨ta, pa, ka⟩ := h.ex
  obtain ⟨tb, pb, kb⟩ := h'.ex
  refine ⟨_, pe_cmp (pc_dnotin (by omega) pa pb) hm, fun C hC => ?_⟩
  rw [rDIn_false]
  exact two o2_din (ka C hC) (kb C hC)
theorem qt_din (hu : X.A.units + 64 < cLine) (h : QE Γ W X a fa) (h' : QE Γ W X b fb) (hm : behindInMarks .In b = false := by first | exact nomark _ | rfl) : QT Γ W X (.Compare a [.In] [b] pos) (eTest (eOp2 (gDIn true) fa fb)) := by
  obtain ⟨ta, pa, ka⟩ := h.ex
  obtain ⟨tb, pb, kb⟩ := h'.ex
  refine ⟨_, pt_cmp (pc_din (by omega) pa pb) hm, fun C hC => ?_⟩
  rw [rDIn_true]
  exact test_of (two o2_din (ka C hC) (kb C hC))
theorem qt_dnin (hu : X.A.units + 64 < cLine) (h : QE Γ W X a fa) (h' : QE Γ W X b fb) (hm : behindInMarks .NotIn b = false := by first | exact nomark _ | rfl) : QT Γ W X (.Compare a [.NotIn] [b] pos) (eTest (eOp2 (gDIn false) fa fb)) := by
  obtain ⟨ta, pa, ka⟩ := h.ex
  obtain ⟨tb, pb, kb⟩ := h'.ex
  refine ⟨_, pt_cmp (pc_dnotin (by omega) pa pb) hm, fun C hC => ?_⟩
  rw [rDIn_false]
  exact test_of (two o2_din (ka C hC) (kb C hC))
theorem qe_dget2 (hu : X.A.units + 64 < cLine) (h : QE Γ W X a fa) (h' : QE Γ W X b fb) (h'' : QE Γ W X e fe) (m : M2 X a "get" apos b e cpos := by exact ⟨rfl, rfl, rfl, rfl⟩) : QE Γ W X (.Call (.Attribute a "get" apos) [b, e] [] cpos) (eDGet2 fa fb fe) := by
  obtain ⟨ta, pa, ka⟩ := h.ex
  obtain ⟨tb, pb, kb⟩ := h'.ex
  obtain ⟨te, pe, ke⟩ := h''.ex
  refine ⟨_, pe_dget2 (by omega) pa pb pe m, fun C hC σ H P r Q S q => ?_⟩
  refine ka C hC σ H P r _ S (q.bind fun x r1 P1 H1 t1 q1 v hv fv => ?_)
  split at q1
  · rename_i kvs ec
    have hc := hv.ct t1.sit ec
    obtain ⟨a', rfl, di⟩ := hc
    refine ⟨a', rfl, by rcases di with ⟨ws, _, _, g, _⟩ | ⟨ws, _, _, g, _⟩; exact .inl ⟨ws, g⟩; exact .inr ⟨ws, g⟩, ?_⟩
    refine kb C hC σ H1 P1 r1 _ t1.sit (q1.bind fun y r2 P2 H2 t2 q2 w hw fw => ?_)
    refine ke C hC σ H2 P2 r2 _ t2.sit (q2.bind fun z r3 P3 H3 t3 q3 u hu3 fu => ?_)
    split at q3
    · rename_i c k d e1 e2 e3
      have c1 := ((hv.mono t2).mono t3).ct t3.sit e1
      have c2 := (hw.mono t3).ct t3.sit e2
      have c3 := hu3.ct t3.sit e3
      split at q3
      · rename_i e' eg
        obtain ⟨a2, o, ea, g, z⟩ := dget_ok t3.sit.part c1 c2 eg
        cases ea
        rcases z with ⟨z, _⟩ | ⟨v', d', rfl, z, rv⟩
        · cases z
        · cases z
          exact ⟨_, g, q3 P3 H3 (Tr.refl t3.sit) v' (RepT.of rv) trivial⟩
      · rename_i eg
        split at q3
        · rename_i hs
          obtain ⟨a2, o, ea, g, z⟩ := dget_ok t3.sit.part c1 c2 eg
          cases ea
          rcases z with ⟨_, rfl⟩ | ⟨v', d', rfl, z, rv⟩
          · exact ⟨_, g, q3 P3 H3 (Tr.refl t3.sit) u (scal_rep hs c3) trivial⟩
          · cases z
        · exact q3.elim
      · exact q3.elim
    · exact q3.elim
  · exact q1.elim
/-! ### d[k] = v -/
def setD (i : Nat) (y : Res) (d : D) (r : Env) : Out Fl := match mutC r i, cont r y with
  | some c, some k => (match gDPut c k d with
    | some c' => .ok .nx (reput r i c')
    | none => .bad)
  | _, _ => .bad
def sDSet (i : Nat) (fi fe : Env → Out Res) (r : Env) : Out Fl := thenS (fe r) fun x r1 => thenS (stl x r1) fun d r2 => match slotC r2 i with
  | some _ => thenS (fi r2) fun y r3 => setD i y d r3
  | none => .bad
theorem qs_dset (i : Nat) {x : Str} {ie e : Expr} {fi fe : Env → Out Res} {p tpos : Pos} (hu : X.A.units + 64 < cLine) (he : QE Γ W X e fe) (hi : QE Γ W X ie fi)
    (hN : X.N[i]? = some x := by rfl) (hv : Vis X.env.scope x := by first | exact Or.inl rfl | exact Or.inr (Or.inl rfl) | exact Or.inr (Or.inr rfl)) (hd : (x == ("__debug__" : Str)) = false := by decide)
    (hcd : (x == ("__classdict__" : Str)) = false := by decide)
    (hs : swapsWith e (some (.Subscript (.Name x p) ie tpos)) pos.line X.env = pure false := by rfl) : QS Γ W X (.Assign [.Subscript (.Name x p) ie tpos] e pos) (sDSet i fi fe) := by
  obtain ⟨t, pt, k⟩ := he.ex
  obtain ⟨ti, pti, ki⟩ := hi.ex
  refine ⟨_, ps_dput (by omega) (pe_var hN hv hd hcd) pti pt hs, fun C hC σ H P r D S h => ?_⟩
  refine k C hC σ H P r _ S (SCont.expr h fun y r1 P1 H1 t1 q v hv fv => ?_)
  cases e1 : settle r1 y with
  | none => unfold stl at q; simp only [e1, thenS] at q; exact q.elim
  | some z =>
    obtain ⟨d, r2⟩ := z
    unfold stl at q
    simp only [e1] at q
    cases n : isDic d with
    | true => rw [if_pos n] at q; exact q.elim
    | false =>
      rw [if_neg (by rw [n]; decide)] at q
      simp only [thenS] at q
      obtain ⟨P2, t2, s2, rp⟩ := t1.settle hv fv e1
      cases e2 : slotC r2 i with
      | none => simp only [e2] at q; exact q.elim
      | some c =>
        simp only [e2] at q
        obtain ⟨u, eu⟩ := slotC_val t2.sit e2
        refine ⟨u, eu, ?_⟩
        refine ki C hC σ H1 P2 r2 _ t2.sit (SCont.expr (SCont.from q t2.sub) fun w r3 P3 H3 t3 q3 vw hvw fw => ?_)
        unfold setD at q3
        split at q3
        · rename_i c' k' e4 e5
          split at q3
          · rename_i c2 e6
            obtain ⟨a, e', _⟩ := mutC_own t3.sit e4
            rw [eu] at e'; cases e'
            obtain ⟨q4, O⟩ := own_addr t3.sit eu e4
            obtain ⟨o', g1, g2⟩ := dput_ok t3.sit.part q4 (hvw.ct t3.sit e5) (dp_sub t3.sub _ _ (rp_of rp n)) e6
            exact ⟨a, _, rfl, g1, q3 P3 _ σ (tr_write t3.sit O g2).sit t3.sub⟩
          · exact q3.elim
        · exact q3.elim
end
end Dn

end
section
/-! Dn32: what is never come to; many stores at once. -/
namespace Dn
open PySem L2
section
variable {Γ : Tx} {W : WX} {X : Cx}
/-- a row that is never come to -/
theorem qs_bad {st : Stmt} : QS Γ W X st (fun _ => .bad) := ⟨fun _ _ _ => False, ⟨fun pins s σ H D I h => h.elim⟩, fun C hC σ H P r D S h => h.elim⟩
theorem qss_bad {st : List Stmt} : QSs Γ W X st (fun _ => .bad) := ⟨fun _ _ _ => False, ⟨fun pins s σ H D I h => h.elim⟩, fun C hC σ H P r D S h => h.elim⟩
theorem qe_bad {e : Expr} : QE Γ W X e (fun _ => .bad) := ⟨fun _ _ _ => False, ⟨fun pins s σ H D I h => h.elim⟩, fun C hC σ H P r D S h => h.elim⟩
end
/-! ### a, b, c = x, y, z -/
def hL : List (Env → Out Res) → Env → Out (List Res)
  | [], r => .ok [] r
  | f :: fs, r => (f r).bind fun x r1 => (hold x r1).bind fun y r2 => (hL fs r2).bind fun ys r3 => .ok (y :: ys) r3
def setsL : List Nat → List Res → Env → Option Env
  | [], [], r => some r
  | i :: is, x :: xs, r => setsL is xs (r.set i (slotOf x))
  | _, _, _ => none
def setsV : List Nat → List V → St → St
  | i :: is, v :: vs, σ => setsV is vs (σ.set i (some v))
  | _, _, σ => σ
def sParN (is : List Nat) (fs : List (Env → Out Res)) (r : Env) : Out Fl := thenS (hL fs r) fun xs r1 => match setsL is xs r1 with
  | some r2 => .ok .nx r2
  | none => .bad
/-- values that nobody lends, apart from one another -/
inductive HAll (C : Cfg) (Hs P H : Hp) (σ : St) (r : Env) : List V → List Res → Prop where
  | nil : HAll C Hs P H σ r [] []
  | cons {v : V} {x : Res} {vs : List V} {xs : List Res} : ResOk C P H σ r v x → (∀ i, x ≠ .bw i) → Fresh Hs v x → (∀ (j : Nat) (w : V) (y : Res), vs[j]? = some w → xs[j]? = some y → ∀ a, v = .ref a → w = .ref a → (∃ d, x = .ow d) → (∃ d, y = .ow d) → False) →
    HAll C Hs P H σ r vs xs → HAll C Hs P H σ r (v :: vs) (x :: xs)
section
variable {C : Cfg} {Hs H0 P H P1 H1 : Hp} {σ : St} {r r1 : Env}
theorem HAll.mono {vs : List V} {xs : List Res} (t : Tr C σ P H r P1 H1 r1) (h : HAll C Hs P H σ r vs xs) : HAll C Hs P1 H1 σ r1 vs xs := by
  induction h with
  | nil => exact .nil
  | cons a b c d _ ih => exact .cons (a.mono t) b c d ih
theorem HAll.back {vs : List V} {xs : List Res} (t : ∀ a, Hs a = none → H0 a = none) (h : HAll C Hs P H σ r vs xs) : HAll C H0 P H σ r vs xs := by
  induction h with
  | nil => exact .nil
  | @cons v x vs xs a b c d _ ih =>
    refine .cons a b ?_ d ih
    cases x with
    | ow e => exact fun p hp => t p (c p hp)
    | _ => trivial
theorem HAll.set {i : Nat} {v : V} {x : Res} (S : Sit C P H σ r) (hx : ResOk C P H σ r v x) (nb : ∀ i, x ≠ .bw i) {vs : List V} {xs : List Res} (h : HAll C Hs P H σ r vs xs) :
    (∀ (j : Nat) (w : V) (y : Res), vs[j]? = some w → xs[j]? = some y → ∀ a, v = .ref a → w = .ref a → (∃ d, x = .ow d) → (∃ d, y = .ow d) → False) → HAll C Hs P H (σ.set i (some v)) (r.set i (slotOf x)) vs xs := by
  induction h with
  | nil => exact fun _ => .nil
  | cons a b c d _ ih =>
    intro ap
    exact .cons (ResOk.setR S hx nb a b fun p e1 e2 e3 e4 => ap 0 _ _ rfl rfl p e1 e2 e3 e4) b c d (ih fun j w y e1 e2 => ap (j + 1) w y (by simpa using e1) (by simpa using e2))
theorem HAll.len {vs : List V} {xs : List Res} (h : HAll C Hs P H σ r vs xs) : vs.length = xs.length := by
  induction h with
  | nil => rfl
  | cons _ _ _ _ _ ih => rw [List.length_cons, List.length_cons, ih]
theorem sets_ok : ∀ (is : List Nat) {vs : List V} {xs : List Res} {σ : St} {r r2 : Env}, Sit C P H σ r → HAll C Hs P H σ r vs xs → setsL is xs r = some r2 → Sit C P H (setsV is vs σ) r2
  | [], _, _, _, _, _, S, .nil, e => by cases e; exact S
  | [], _, _, _, _, _, S, .cons _ _ _ _ _, e => by cases e
  | i :: is, _, _, _, _, _, S, .nil, e => by cases e
  | i :: is, _, _, _, _, _, S, .cons a b c d t, e => sets_ok is (S.setR a b) (t.set S a b d) e
end
structure QH (Γ : Tx) (W : WX) (X : Cx) (es : List Expr) (fs : List (Env → Out Res)) : Prop where
  ex : ∃ t, PA X es t ∧ ∀ (C : Cfg), C.Of Γ → ∀ (σ : St) (H P : Hp) (r : Env) (Q : List V → Hp → Prop), Sit C P H σ r → Cont C W σ P H r (hL fs r) (fun xs r' P' H' => ∀ vs, HAll C H P' H' σ r' vs xs → Q vs H') → t σ H Q
section
variable {Γ : Tx} {W : WX} {X : Cx} {a : Expr} {es : List Expr} {f : Env → Out Res} {fs : List (Env → Out Res)}
theorem qh_nil : QH Γ W X [] [] := ⟨_, pa_nil, fun C hC σ H P r Q S h => h P H (Tr.refl S) [] .nil⟩
theorem qh_cons (h : QE Γ W X a f) (h' : QH Γ W X es fs) (hs : starEach (a :: es) X.env = (false, eval a X.env) :: starEach es X.env := by rfl) : QH Γ W X (a :: es) (f :: fs) := by
  obtain ⟨t, p, k⟩ := h.ex
  obtain ⟨t', p', k'⟩ := h'.ex
  refine ⟨_, pa_cons p p' hs, fun C hC σ H P r Q S q => ?_⟩
  refine k C hC σ H P r _ S (Cont.expr q fun x r1 P1 H1 v t1 hv fv q1 => ?_)
  rcases hold_cases x r1 with ⟨y, r2, e⟩ | e
  rotate_left
  · rw [e] at q1; exact q1.elim
  rw [e] at q1
  obtain ⟨P2, t2, s2, hv2, fv2, nb⟩ := hold_ok t1 hv fv e
  have q2 : Cont C W σ P2 H1 r2 ((hL fs r2).bind fun ys r3 => .ok (y :: ys) r3) _ := Cont.from q1 t2
  refine k' C hC σ H1 P2 r2 _ t2.sit (q2.bind fun ys r3 P3 H3 t3 q3 vs hvs => ?_)
  refine q3 P3 H3 (Tr.refl t3.sit) (v :: vs) (.cons (hv2.mono t3) nb fv2 (fun j w z e1 e2 a ea eb ⟨d, ex⟩ ⟨d', ey⟩ => ?_) (hvs.back fun b n => ?_))
  · subst ex
    obtain ⟨a', ea', _, _, hh, _⟩ := hv2
    rw [ea] at ea'; cases ea'
    obtain ⟨o, ho, _⟩ := hh.obj
    have fr : ∀ {j : Nat} {vs : List V} {ys : List Res} {w : V} {z : Res}, HAll C H1 P3 H3 σ r3 vs ys → vs[j]? = some w → ys[j]? = some z → Fresh H1 w z := by
      intro j vs ys w z hh
      induction hh generalizing j with
      | nil => intro e _; simp at e
      | cons _ _ c _ _ ih =>
        cases j with
        | zero => intro e1 e2; simp at e1 e2; subst e1; subst e2; exact c
        | succ j => intro e1 e2; exact ih (by simpa using e1) (by simpa using e2)
    have := fr hvs e1 e2
    subst ey
    have := this a eb
    rw [ho] at this; cases this
  · cases z : H b with
    | none => rfl
    | some o => obtain ⟨o', e'⟩ := t1.some b o z; rw [n] at e'; cases e'
/-- targets: names alone -/
def gsN : List Nat → TGs
  | [] => gNil
  | i :: is => gCons (gName i) (gsN is)
theorem gsN_ok {Q : St → Hp → Prop} {H : Hp} : ∀ (is : List Nat) (vs : List V) (σ : St), is.length = vs.length → Q (setsV is vs σ) H → gsN is vs σ H Q
  | [], [], σ, _, q => ⟨rfl, q⟩
  | [], _ :: _, _, e, _ => by cases e
  | _ :: _, [], _, e, _ => by cases e
  | i :: is, v :: vs, σ, e, q => ⟨v, vs, rfl, gsN_ok is vs _ (by simpa using e) q⟩
theorem setsL_len : ∀ (is : List Nat) (xs : List Res) (r r2 : Env), setsL is xs r = some r2 → is.length = xs.length
  | [], [], _, _, _ => rfl
  | [], _ :: _, _, _, e => by cases e
  | _ :: _, [], _, _, e => by cases e
  | i :: is, x :: xs, r, r2, e => by rw [List.length_cons, List.length_cons, setsL_len is xs _ r2 e]
theorem hL_len : ∀ (fs : List (Env → Out Res)) (r : Env) (xs : List Res) (r' : Env), hL fs r = .ok xs r' → xs.length = fs.length
  | [], r, xs, r', e => by cases e; rfl
  | f :: fs, r, xs, r', e => by
    obtain ⟨x, r1, _, e1⟩ := bind_ok e
    obtain ⟨y, r2, _, e2⟩ := bind_ok e1
    obtain ⟨ys, r3, e3, e4⟩ := bind_ok e2
    cases e4
    rw [List.length_cons, List.length_cons, hL_len fs r2 ys r' e3]
theorem qs_parT {is : List Nat} {tgs : List Expr} {kt k2 : Nat} {pt pt2 pos : Pos} (hc : X.calm = true) (h : QH Γ W X es fs) (hg : PGs X tgs (gsN is)) (h5 : fs.length ≤ 100) (hn : (assignEach tgs X.env).length = is.length := by rfl) (hst : (assignEach tgs X.env).findIdx? (·.1) = none := by rfl)
    (hs : swapsWithSole [.Tuple tgs kt pt] (.Tuple es k2 pt2) pos.line X.env = pure false := by rfl) (hw : swappedStores [.Tuple tgs kt pt] (.Tuple es k2 pt2) X.env = pure none := by rfl)
    (h1 : (assignEach [.Tuple tgs kt pt] X.env).map (·.2) = [assign (.Tuple tgs kt pt) X.env] := by rfl) : QS Γ W X (.Assign [.Tuple tgs kt pt] (.Tuple es k2 pt2) pos) (sParN is fs) := by
  obtain ⟨t, p, k⟩ := h.ex
  refine ⟨_, ps_asg (pe_tup p) (pg_tup hc hg hn hst) hs hw h1, fun C hC σ H P r D S q => ?_⟩
  cases o : hL fs r with
  | bad => unfold sParN at q; rw [o] at q; exact q.elim
  | exn e r1 =>
    unfold sParN at q; rw [o] at q
    refine k C hC σ H P r _ S ?_
    rw [o]
    exact fun P1 H1 t1 => q P1 H1 σ t1.sit t1.sub
  | ok xs r1 =>
    have lx := hL_len _ _ _ _ o
    unfold sParN at q; rw [o] at q
    refine k C hC σ H P r _ S ?_
    rw [o]
    intro P1 H1 t1 vs hvs
    refine ⟨len_line (by rw [hvs.len, lx]; omega), fun a ha => ?_⟩
    have t2 := Tr.new (o := .tup vs) t1.sit ha
    have hv2 := hvs.mono t2
    replace q : SCont C W P (match setsL is xs r1 with
      | some r2 => .ok .nx r2
      | none => .bad) D := q
    cases e : setsL is xs r1 with
    | none => rw [e] at q; exact q.elim
    | some r2 =>
      rw [e] at q
      exact ⟨a, vs, rfl, SqT.of upd_same, by rw [hvs.len, setsL_len _ _ _ _ e], gsN_ok is vs σ (by rw [hvs.len, setsL_len _ _ _ _ e]) (q P1 _ _ (sets_ok is t2.sit hv2 e) (t1.trans t2).sub)⟩
theorem qs_par3 {i j l : Nat} {x y z : Str} {a b c : Expr} {f1 f2 f3 : Env → Out Res} {px py pz pt pos pt2 : Pos} {kt k2 : Nat} (hc : X.calm = true) (hN : X.N.Nodup) (hi : X.N[i]? = some x) (hj : X.N[j]? = some y) (hl : X.N[l]? = some z) (hij : i ≠ j) (hil : i ≠ l) (hjl : j ≠ l)
    (hx : X.env.scope.names.lookup x = some .local) (hy : X.env.scope.names.lookup y = some .local) (hz : X.env.scope.names.lookup z = some .local) (h : QH Γ W X [a, b, c] [f1, f2, f3])
    (hw : swappedStores [.Tuple [.Name x px, .Name y py, .Name z pz] kt pt] (.Tuple [a, b, c] k2 pt2) X.env = pure (some [x, y, z]) := by rfl)
    (hs : swapsWithSole [.Tuple [.Name x px, .Name y py, .Name z pz] kt pt] (.Tuple [a, b, c] k2 pt2) pos.line X.env = pure false := by rfl) :
    QS Γ W X (.Assign [.Tuple [.Name x px, .Name y py, .Name z pz] kt pt] (.Tuple [a, b, c] k2 pt2) pos) (sParN [i, j, l] [f1, f2, f3]) := by
  obtain ⟨t, p, k⟩ := h.ex
  refine ⟨_, ps_par3 hc hN hi hj hl hij hil hjl hx hy hz p hw hs, fun C hC σ H P r D S q => ?_⟩
  cases o : hL [f1, f2, f3] r with
  | bad => unfold sParN at q; rw [o] at q; exact q.elim
  | exn e r1 =>
    unfold sParN at q; rw [o] at q
    refine k C hC σ H P r _ S ?_
    rw [o]
    exact fun P1 H1 t1 => q P1 H1 σ t1.sit t1.sub
  | ok xs r1 =>
    have lx := hL_len _ _ _ _ o
    unfold sParN at q; rw [o] at q
    refine k C hC σ H P r _ S ?_
    rw [o]
    intro P1 H1 t1 vs hvs
    replace q : SCont C W P (match setsL [i, j, l] xs r1 with
      | some r2 => .ok .nx r2
      | none => .bad) D := q
    cases e : setsL [i, j, l] xs r1 with
    | none => rw [e] at q; exact q.elim
    | some r2 =>
      rw [e] at q
      have lv : vs.length = 3 := by rw [hvs.len, lx]; rfl
      match vs, lv with
      | [u, v, w], _ => exact ⟨u, v, w, rfl, q P1 _ _ (sets_ok [i, j, l] t1.sit hvs e) t1.sub⟩
end
end Dn

end
section
/-! Dn33: walks over dicts. -/
namespace Dn
open PySem L2
theorem room_u {k : Nat} {A : Around} (r : Room k A) (n : Nat) (h : n ≤ 200) : A.units + n < cLine := by have := r.un; omega
/-- a frozen dict at a is locked -/
def Cfg.lock (C : Cfg) (a : Addr) (od : Obj) (u : HO) : Cfg where
  T := C.T
  TG := C.TG
  M := C.M.filter fun b => decide (b ≠ a)
  H0 := L2.upd C.H0 a (.frz od u)
  P0 := L2.upd C.P0 a u
  cls := C.cls
  hid := C.hid
theorem Cfg.lock_of {C : Cfg} {Γ : Tx} {a : Addr} {od : Obj} {u : HO} (h : C.Of Γ) : (C.lock a od u).Of Γ := h
section
variable {C : Cfg} {P H P' H' : Hp} {σ σ' : St} {r r' : Env} {a : Addr} {od : Obj} {u : HO}
theorem TabsOk.lock (h : TabsOk C H) (e : H a = some u) (hu : isDict u = true) : TabsOk (C.lock a od u) (L2.upd H a (.frz od u)) := by
  have pl : plainO u = true := by cases u <;> first | rfl | cases hu
  have := TabsOk.write (o' := .frz od u) h e pl
  exact ⟨this.1, this.2⟩
theorem SlotOk.lock {i : Nat} {ov : Option (Option V)} {s : Slot} (hP : P a = some u) (h : SlotOk C P H i ov s) : SlotOk (C.lock a od u) P (L2.upd H a (.frz od u)) i ov s := by
  cases s with
  | un => trivial
  | hid => exact h
  | fz d => exact h
  | ow d =>
    obtain ⟨b, e, n, n0, q⟩ := h
    have nb : b ≠ a := fun z => by rw [z, hP] at n; cases n
    exact ⟨b, e, n, by show L2.upd C.H0 a _ b = none; rw [upd_ne nb]; exact n0, q.sub (Sub.refl P) (upd_ne nb)⟩
  | io d =>
    obtain ⟨b, e, n, n0, n1, q⟩ := h
    have nb : b ≠ a := fun z => by rw [z, hP] at n; cases n
    exact ⟨b, e, n, n0, List.mem_filter.mpr ⟨n1, by simp [nb]⟩, q.sub (Sub.refl P) (upd_ne nb)⟩
theorem Sit.lock (S : Sit C P H σ r) (hP : P a = some u) (hH : H a = some u) (hu : isDict u = true) : Sit (C.lock a od u) P (L2.upd H a (.frz od u)) σ r := by
  refine ⟨S.tabs.lock hH hu, fun b o e => ?_, fun b o e nt nm => ?_, fun b e => ?_, fun i s es => (S.slot i s es).lock hP, S.len, S.own, fun b hb => ?_⟩
  · by_cases q : b = a
    · subst q
      rw [hP] at e; cases e
      exact ⟨(S.part b u hP).1, .inr ⟨hu, od, upd_same⟩⟩
    · obtain ⟨p1, p2⟩ := S.part b o e
      refine ⟨p1, ?_⟩
      rcases p2 with p2 | ⟨p2, ob, p3⟩
      · exact .inl (by rw [upd_ne q]; exact p2)
      · exact .inr ⟨p2, ob, by rw [upd_ne q]; exact p3⟩
  · by_cases q : b = a
    · subst q
      have e : L2.upd C.H0 b (.frz od u) b = some o := e
      rw [upd_same] at e; cases e; exact upd_same
    · have e : L2.upd C.H0 a (.frz od u) b = some o := e
      rw [upd_ne q] at e
      rw [upd_ne q]
      exact S.keep b o e nt fun z => nm (List.mem_filter.mpr ⟨z, by simp [q]⟩)
  · by_cases q : b = a
    · subst q; rw [upd_same] at e; cases e
    · rw [upd_ne q] at e
      show L2.upd C.H0 a _ b = none
      rw [upd_ne q]; exact S.old b e
  · by_cases q : b = a
    · subst q; exact .inl (by show L2.upd C.P0 b u b ≠ none; rw [upd_same]; simp)
    · rcases S.newP b hb with z | z | z
      · exact .inl (by show L2.upd C.P0 a u b ≠ none; rw [upd_ne q]; exact z)
      · exact .inr (.inl (List.mem_filter.mpr ⟨z, by simp [q]⟩))
      · exact .inr (.inr fun o e => z o (by have e : L2.upd C.H0 a _ b = some o := e; rw [upd_ne q] at e; exact e))
/-- .. and let go -/
theorem Sit.locked (S' : Sit (C.lock a od u) P' H' σ' r') : H' a = some (.frz od u) := S'.keep a _ upd_same (fun ps e => by cases e) fun z => by
  have := (List.mem_filter.mp z).2
  simp at this
theorem SlotOk.unlock {i : Nat} {ov : Option (Option V)} {s : Slot} (hP : P' a = some u) (h : SlotOk (C.lock a od u) P' H' i ov s) : SlotOk C P' (L2.upd H' a u) i ov s := by
  cases s with
  | un => trivial
  | hid => exact h
  | fz d => exact h
  | ow d =>
    obtain ⟨b, e, n, n0, q⟩ := h
    have nb : b ≠ a := fun z => by rw [z, hP] at n; cases n
    have n0 : L2.upd C.H0 a (.frz od u) b = none := n0
    rw [upd_ne nb] at n0
    exact ⟨b, e, n, n0, q.sub (Sub.refl P') (upd_ne nb)⟩
  | io d =>
    obtain ⟨b, e, n, n0, n1, q⟩ := h
    have nb : b ≠ a := fun z => by rw [z, hP] at n; cases n
    exact ⟨b, e, n, n0, (List.mem_filter.mp n1).1, q.sub (Sub.refl P') (upd_ne nb)⟩
theorem Sit.unlock (S : Sit C P H σ r) (hP0 : P a = some u) (hH : H a = some u) (hu : isDict u = true) (sb : Sub P P') (S' : Sit (C.lock a od u) P' H' σ' r') : Sit C P' (L2.upd H' a u) σ' r' := by
  have lk := S'.locked
  have hP : P' a = some u := sb a u hP0
  have nofz : ∀ b o, H' b = some o → b ≠ a ∨ o = .frz od u := fun b o e => by
    by_cases q : b = a
    · subst q; rw [lk] at e; cases e; exact .inr rfl
    · exact .inl q
  refine ⟨⟨fun p hp => ?_, fun p hp => ?_⟩, fun b o e => ?_, fun b o e nt nm => ?_, fun b e => ?_, fun i s es => (S'.slot i s es).unlock hP, S'.len, S'.own, fun b hb => ?_⟩
  · obtain ⟨ps, h1, h2, h3⟩ := S'.tabs.1 p hp
    have np : p.1 ≠ a := fun z => by rw [z, lk] at h1; cases h1
    refine ⟨ps, by rw [upd_ne np]; exact h1, h2, fun pos cv hc => ?_⟩
    obtain ⟨c, e1, e2⟩ := h3 pos cv hc
    refine ⟨c, e1, ?_⟩
    have nc : c ≠ a := fun z => by
      rw [z, lk] at e2
      unfold LamX.CodeO at e2
      cases e2
    rw [upd_ne nc]; exact e2
  · obtain ⟨ps, h1, h2⟩ := S'.tabs.2 p hp
    have np : p ≠ a := fun z => by rw [z, lk] at h1; cases h1
    exact ⟨ps, by rw [upd_ne np]; exact h1, h2⟩
  · by_cases q : b = a
    · subst q
      rw [hP] at e; cases e
      exact ⟨(S'.part b u hP).1, .inl upd_same⟩
    · obtain ⟨p1, p2⟩ := S'.part b o e
      refine ⟨p1, ?_⟩
      rcases p2 with p2 | ⟨p2, ob, p3⟩
      · exact .inl (by rw [upd_ne q]; exact p2)
      · exact .inr ⟨p2, ob, by rw [upd_ne q]; exact p3⟩
  · by_cases q : b = a
    · subst q
      have := S.keep b o e nt nm
      rw [hH] at this; cases this
      exact upd_same
    · rw [upd_ne q]
      refine S'.keep b o (by show L2.upd C.H0 a _ b = some o; rw [upd_ne q]; exact e) nt fun z => nm (List.mem_filter.mp z).1
  · by_cases q : b = a
    · subst q; rw [upd_same] at e; cases e
    · rw [upd_ne q] at e
      have z : L2.upd C.H0 a (.frz od u) b = none := S'.old b e
      rw [upd_ne q] at z; exact z
  · by_cases q : b = a
    · subst q; exact S.newP b (by rw [hP0]; simp)
    · rcases S'.newP b hb with z | z | z
      · have z : L2.upd C.P0 a u b ≠ none := z
        rw [upd_ne q] at z; exact .inl z
      · exact .inr (.inl (List.mem_filter.mp z).1)
      · exact .inr (.inr fun o e => z o (by show L2.upd C.H0 a _ b = some o; rw [upd_ne q]; exact e))
theorem ResOk.unlock {v : V} {x : Res} (hP : P' a = some u) (h : ResOk (C.lock a od u) P' H' σ' r' v x) : ResOk C P' (L2.upd H' a u) σ' r' v x := by
  cases x with
  | fz d => exact h
  | bw i => exact h
  | ow d =>
    obtain ⟨b, e, n, n0, q, no⟩ := h
    have nb : b ≠ a := fun z => by rw [z, hP] at n; cases n
    have n0 : L2.upd C.H0 a (.frz od u) b = none := n0
    rw [upd_ne nb] at n0
    exact ⟨b, e, n, n0, q.sub (Sub.refl P') (upd_ne nb), no⟩
end
section
variable {C : Cfg} {P H P' H' : Hp} {σ σ' : St} {r r' : Env} {a : Addr} {od : Obj} {u : HO}
/-- a dict that is locked already -/
theorem Sit.lock2 (S : Sit C P H σ r) (hP : P a = some u) (hH : H a = some (.frz od u)) (hu : isDict u = true) : Sit (C.lock a od u) P H σ r := by
  have eH : L2.upd H a (.frz od u) = H := by
    funext b
    by_cases q : b = a
    · subst q; rw [upd_same, hH]
    · rw [upd_ne q]
  refine ⟨⟨S.tabs.1, S.tabs.2⟩, S.part, fun b o e nt nm => ?_, fun b e => ?_, fun i s es => ?_, S.len, S.own, fun b hb => ?_⟩
  · by_cases q : b = a
    · subst q
      have e : L2.upd C.H0 b (.frz od u) b = some o := e
      rw [upd_same] at e; cases e; exact hH
    · have e : L2.upd C.H0 a (.frz od u) b = some o := e
      rw [upd_ne q] at e
      exact S.keep b o e nt fun z => nm (List.mem_filter.mpr ⟨z, by simp [q]⟩)
  · by_cases q : b = a
    · subst q; rw [hH] at e; cases e
    · show L2.upd C.H0 a _ b = none
      rw [upd_ne q]; exact S.old b e
  · have := (S.slot i s es).lock (od := od) hP
    rwa [eH] at this
  · by_cases q : b = a
    · subst q; exact .inl (by show L2.upd C.P0 b u b ≠ none; rw [upd_same]; simp)
    · rcases S.newP b hb with z | z | z
      · exact .inl (by show L2.upd C.P0 a u b ≠ none; rw [upd_ne q]; exact z)
      · exact .inr (.inl (List.mem_filter.mpr ⟨z, by simp [q]⟩))
      · exact .inr (.inr fun o e => z o (by have e : L2.upd C.H0 a _ b = some o := e; rw [upd_ne q] at e; exact e))
theorem Sit.unlock2 (S : Sit C P H σ r) (hP0 : P a = some u) (hH : H a = some (.frz od u)) (hu : isDict u = true) (sb : Sub P P') (S' : Sit (C.lock a od u) P' H' σ' r') : Sit C P' H' σ' r' := by
  have lk := S'.locked
  have hP : P' a = some u := sb a u hP0
  refine ⟨⟨S'.tabs.1, S'.tabs.2⟩, S'.part, fun b o e nt nm => ?_, fun b e => ?_, fun i s es => ?_, S'.len, S'.own, fun b hb => ?_⟩
  · by_cases q : b = a
    · subst q
      have := S.keep b o e nt nm
      rw [hH] at this; cases this
      exact lk
    · exact S'.keep b o (by show L2.upd C.H0 a _ b = some o; rw [upd_ne q]; exact e) nt fun z => nm (List.mem_filter.mp z).1
  · by_cases q : b = a
    · subst q; rw [lk] at e; cases e
    · have z : L2.upd C.H0 a (.frz od u) b = none := S'.old b e
      rw [upd_ne q] at z; exact z
  · have k := S'.slot i s es
    cases s with
    | un => trivial
    | hid => exact k
    | fz d => exact k
    | ow d =>
      obtain ⟨b, e, n, n0, q⟩ := k
      have nb : b ≠ a := fun z => by rw [z, hP] at n; cases n
      have n0 : L2.upd C.H0 a (.frz od u) b = none := n0
      rw [upd_ne nb] at n0
      exact ⟨b, e, n, n0, q⟩
    | io d =>
      obtain ⟨b, e, n, n0, n1, q⟩ := k
      exact ⟨b, e, n, n0, (List.mem_filter.mp n1).1, q⟩
  · by_cases q : b = a
    · subst q; exact S.newP b (by rw [hP0]; simp)
    · rcases S'.newP b hb with z | z | z
      · have z : L2.upd C.P0 a u b ≠ none := z
        rw [upd_ne q] at z; exact .inl z
      · exact .inr (.inl (List.mem_filter.mp z).1)
      · exact .inr (.inr fun o e => z o (by show L2.upd C.H0 a _ b = some o; rw [upd_ne q]; exact e))
theorem ResOk.unlock2 {v : V} {x : Res} (hP : P' a = some u) (h : ResOk (C.lock a od u) P' H' σ' r' v x) : ResOk C P' H' σ' r' v x := by
  cases x with
  | fz d => exact h
  | bw i => exact h
  | ow d =>
    obtain ⟨b, e, n, n0, q, no⟩ := h
    have nb : b ≠ a := fun z => by rw [z, hP] at n; cases n
    have n0 : L2.upd C.H0 a (.frz od u) b = none := n0
    rw [upd_ne nb] at n0
    exact ⟨b, e, n, n0, q, no⟩
end
/-! ### the keys, one after another -/
def keysD : D → Option (List D)
  | .dict (_ :: kvs) => some (kvs.map Prod.fst)
  | _ => none
theorem kv_key {P : Hp} {κ : Type} {f : κ → D} {ws : List (κ × V)} {kvs : List (D × D)} (h : KvAll P f ws kvs) : ∀ {i : Nat} {k : κ} {v : V}, ws[i]? = some (k, v) → (kvs.map Prod.fst)[i]? = some (f k) := by
  induction h with
  | nil => intro i k v e; simp at e
  | cons a b ih =>
    intro i k v e
    cases i with
    | zero => simp at e; obtain ⟨rfl, _⟩ := e; rfl
    | succ i => simpa using ih (by simpa using e)
section
variable {C : Cfg} {P H : Hp} {σ : St} {r : Env} {a : Addr} {od : Obj}
theorem it_keysK {ws : List (Key × V)} {kvs : List (D × D)} (h : KvAll P keyD ws kvs) : ItOk (C.lock a od (.dK ws)) P (Itk a od ws) (kvs.map Prod.fst) := by
  have len := h.len
  refine ⟨fun i H' P' σ' r' S s hi => ?_, fun i H' P' σ' r' d x H2 S s e y => ?_, fun i H' P' σ' r' S s hi => ?_⟩
  · rw [List.length_map] at hi
    exact ⟨S.locked, by rw [len]; exact hi⟩
  · obtain ⟨rfl, k, v, e1, rfl⟩ := y
    have := kv_key h e1
    rw [this] at e; cases e
    refine ⟨P', Tr.refl S, ?_⟩
    cases k with
    | inl i => exact .int i
    | inr x => exact .str x
  · rw [List.length_map] at hi
    exact ⟨S.locked, by rw [len]; exact hi⟩
theorem rp_keys {P : Hp} : ∀ (k : List Key), RpAll P (k.map kV) (k.map keyD)
  | [] => .nil
  | .inl i :: r => .cons (.int i) (rp_keys r)
  | .inr x :: r => .cons (.str x) (rp_keys r)
/-- a tuple that stands in the heap may be frozen where it is met -/
theorem tr_tup {q : Addr} {xs : List V} {ds : List D} (S : Sit C P H σ r) (hq : H q = some (.tup xs)) (ra : RpAll P xs ds) : ∃ P', Tr C σ P H r P' H r ∧ Rp P' (.ref q) (.tuple ds) := by
  cases e : P q with
  | some o =>
    obtain ⟨_, z⟩ := S.part q o e
    rcases z with z | ⟨_, ob, z⟩
    · rw [hq] at z; cases z
      exact ⟨P, Tr.refl S, .tup e ra⟩
    · rw [hq] at z; cases z
  | none =>
    refine ⟨L2.upd P q (.tup xs), ⟨⟨S.tabs, fun b u e' => ?_, S.keep, S.old, fun i s es => ?_, S.len, S.own, fun b hb => ?_⟩, Sub.upd e, fun b u e' _ _ => e', fun b hb => ?_, fun _ _ h => h, fun b u e' => ⟨u, e'⟩⟩, .tup upd_same (dpa_sub (Sub.upd e) _ _ ra)⟩
    · by_cases z : b = q
      · subst z; rw [upd_same] at e'; cases e'; exact ⟨rfl, .inl hq⟩
      · rw [upd_ne z] at e'; exact S.part b u e'
    · have k := S.slot i s es
      have ne : ∀ {b : Addr} {d : D}, Holds P H b d → b ≠ q := fun {b d} h z => by
        obtain ⟨o, ho, c⟩ := h.own
        rw [z, hq] at ho; cases ho; cases c
      cases s with
      | un => trivial
      | hid => exact k
      | fz d => obtain ⟨v, e', k⟩ := k; exact ⟨v, e', RepT.sub (Sub.upd e) k⟩
      | ow d => obtain ⟨b, e', n, n0, k⟩ := k; exact ⟨b, e', by rw [upd_ne (ne k)]; exact n, n0, k.sub (Sub.upd e) rfl⟩
      | io d => obtain ⟨b, e', n, n0, n1, k⟩ := k; exact ⟨b, e', by rw [upd_ne (ne k)]; exact n, n0, n1, k.sub (Sub.upd e) rfl⟩
    · by_cases z : b = q
      · subst z
        by_cases nm : b ∈ C.M
        · exact .inr (.inl nm)
        · refine .inr (.inr fun o e' => ?_)
          cases ho : canOwn o with
          | false => rfl
          | true =>
            have := S.keep b o e' (fun ps z => by rw [z] at ho; cases ho) nm
            rw [hq] at this; cases this; cases ho
      · rw [upd_ne z] at hb; exact S.newP b hb
    · by_cases z : b = q
      · subst z; exact .inr (.inl fun o e' => by rw [hq] at e'; cases e'; rfl)
      · rw [upd_ne z] at hb; exact .inl hb
theorem it_keysT {ws : List (List Key × V)} {kvs : List (D × D)} (h : KvAll P keyT ws kvs) : ItOk (C.lock a od (.dT ws)) P (Itkt a od ws) (kvs.map Prod.fst) := by
  have len := h.len
  refine ⟨fun i H' P' σ' r' S s hi => ?_, fun i H' P' σ' r' d x H2 S s e y => ?_, fun i H' P' σ' r' S s hi => ?_⟩
  · rw [List.length_map] at hi
    exact ⟨S.locked, by rw [len]; exact hi⟩
  · obtain ⟨rfl, k, v, q, e1, rfl, hq⟩ := y
    have := kv_key h e1
    rw [this] at e; cases e
    exact tr_tup S hq (rp_keys k)
  · rw [List.length_map] at hi
    exact ⟨S.locked, by rw [len]; exact hi⟩
end
/-! ### for k in d -/
/-- the loop, at one configuration -/
theorem for_core {C : Cfg} {W : WX} {P1 H1 : Hp} {σ : St} {r1 : Env} {ds : List D} {J : It} {G : D → Env → Option Env} {f : Env → Out Fl} {g : TG} {tb : TS} {T1 : Ends} (S1 : Sit C P1 H1 σ r1) (hJ : ItOk C P1 J ds)
    (kg : ∀ (v : V) (σ : St) (H P : Hp) (r r' : Env) (d : D) (Q : St → Hp → Prop), Sit C P H σ r → Rp P v d → G d r = some r' → (∀ σ', Sit C P H σ' r' → Q σ' H) → g v σ H Q)
    (kb : ∀ (σ : St) (H P : Hp) (r : Env) (T2 : Ends), Sit C P H σ r → SCont C W P (f r) T2 → tb T2 σ H)
    (q1 : SCont C W P1 (loopD G f ds r1) T1) : ∃ W' : Nat → Nat → St → Hp → Prop, (∃ m, W' 0 m σ H1) ∧ ∀ i m σ H, W' i m σ H →
  (J.stop i H ∧ T1.nx σ H) ∨ (J.go i H ∧ ∃ N : St → Hp → Prop, (∀ σ' H', N σ' H' → ∃ m', m' < m ∧ W' (i + 1) m' σ' H') ∧ ∀ x H', J.yld i H x H' → g x σ H' fun σ2 H2 => tb { T1 with nx := N, ct := N, bk := T1.nx } σ2 H2) := by
  refine ⟨fun i m σ H => ∃ P' r', Sit C P' H σ r' ∧ Sub P1 P' ∧ SCont C W P' (loopD G f (ds.drop i) r') T1 ∧ m = ds.length - i, ⟨_, P1, r1, S1, Sub.refl _, q1, rfl⟩, ?_⟩
  rintro i m σ2 H2 ⟨P2, r2, S2, s2, h2, hm⟩
  rcases Nat.lt_or_ge i ds.length with hlt | hge
  · refine .inr ⟨hJ.go i H2 P2 σ2 r2 S2 s2 hlt, fun σ H => ∃ P' r', Sit C P' H σ r' ∧ Sub P1 P' ∧ SCont C W P' (loopD G f (ds.drop (i + 1)) r') T1, fun σ' H' z => ⟨ds.length - (i + 1), by omega, let ⟨P', r', a, b, c⟩ := z; ⟨P', r', a, b, c, rfl⟩⟩, fun x H' hy => ?_⟩
    have ed : ds[i]? = some ds[i] := List.getElem?_eq_getElem hlt
    obtain ⟨P3, t3, rp⟩ := hJ.yld i H2 P2 σ2 r2 ds[i] x H' S2 s2 ed hy
    rw [List.drop_eq_getElem_cons hlt] at h2
    have h3 : SCont C W P2 (match G ds[i] r2 with
      | none => .bad
      | some r1 => match f r1 with
        | .ok .nx r2 => loopD G f (ds.drop (i + 1)) r2
        | .ok .ct r2 => loopD G f (ds.drop (i + 1)) r2
        | .ok .bk r2 => .ok .nx r2
        | .ok (.rt x) r2 => .ok (.rt x) r2
        | .exn e r2 => .exn e r2
        | .bad => .bad) T1 := h2
    cases eg : G ds[i] r2 with
    | none => rw [eg] at h3; exact h3.elim
    | some r3 =>
      rw [eg] at h3
      refine kg x σ2 H' P3 r2 r3 ds[i] _ t3.sit rp eg fun σ4 S4 => ?_
      refine kb σ4 H' P3 r3 _ S4 ?_
      have h4 := SCont.from h3 t3.sub
      have s3 := s2.trans t3.sub
      cases o : f r3 with
      | ok fl r4 =>
        simp only [o] at h4
        cases fl with
        | nx => exact fun P' H' σ' S' s' => ⟨P', r4, S', s3.trans s', SCont.from h4 s'⟩
        | ct => exact fun P' H' σ' S' s' => ⟨P', r4, S', s3.trans s', SCont.from h4 s'⟩
        | bk => exact h4
        | rt x => exact h4
      | exn e r4 => simp only [o] at h4; exact h4
      | bad => simp only [o] at h4; exact h4.elim
  · refine .inl ⟨hJ.stop i H2 P2 σ2 r2 S2 s2 hge, ?_⟩
    rw [List.drop_of_length_le hge] at h2
    exact h2 P2 H2 σ2 S2 (Sub.refl _)
def sForK (i : Nat) (G : D → Env → Option Env) (b : Env → Out Fl) (r : Env) : Out Fl := match settle r (.bw i) with
  | some (d, r2) => (match keysD d with
    | some ks => (match loopD G b ks r2 with
      | .exn _ _ => .bad
      | o => o)
    | none => .bad)
  | none => .bad
/-- statement, either way -/
theorem ps_either {X : Cx} {st : Stmt} {t u : TS} (h : PS X st t) (h' : PS X st u) : PS X st (fun D σ H => t D σ H ∨ u D σ H) := ⟨fun pins s σ H D I q => q.elim (h.run pins s σ H D I) (h'.run pins s σ H D I)⟩
theorem pe_either {X : Cx} {e : Expr} {t u : TE} (h : PE X e t) (h' : PE X e u) : PE X e (fun σ H Q => t σ H Q ∨ u σ H Q) := ⟨fun pins s σ H Q I q => q.elim (h.run pins s σ H Q I) (h'.run pins s σ H Q I)⟩
theorem keysD_inv {d : D} {ks : List D} (h : keysD d = some ks) : ∃ p kvs, d = .dict (p :: kvs) ∧ ks = kvs.map Prod.fst := by
  cases d with
  | dict kvs =>
    cases kvs with
    | nil => cases h
    | cons p r => cases h; exact ⟨p, r, rfl, rfl⟩
  | _ => cases h
/-- a locked dict's walk -/
theorem it_keys_any {C : Cfg} {P : Hp} {a : Addr} {od : Obj} {u : HO} {p : D × D} {kvs : List (D × D)} (g : P a = some u) (h : DictBy P (fun o => P a = some o) (p :: kvs)) :
    isDict u = true ∧ ((∃ ws, u = .dK ws ∧ ItOk (C.lock a od u) P (Itk a od ws) (kvs.map Prod.fst)) ∨ ∃ ws, u = .dT ws ∧ ItOk (C.lock a od u) P (Itkt a od ws) (kvs.map Prod.fst)) := by
  rcases h with ⟨ws, r, e, g2, kv⟩ | ⟨ws, r, e, g2, kv⟩
  · cases e
    rw [g] at g2; cases g2
    exact ⟨rfl, .inl ⟨ws, rfl, it_keysK kv⟩⟩
  · cases e
    rw [g] at g2; cases g2
    exact ⟨rfl, .inr ⟨ws, rfl, it_keysT kv⟩⟩
section
variable {Γ : Tx} {W : WX} {X : Cx} {tg : Expr} {js : List Nat} {body : List Stmt} {G : D → Env → Option Env} {f : Env → Out Fl} {p pos : Pos}
/-- what a locked walk leaves -/
theorem lock_ends {C : Cfg} {P H : Hp} {σ : St} {r : Env} {a : Addr} {od : Obj} {u : HO} {o : Out Fl} {D : Ends} (S : Sit C P H σ r) (hP : P a = some u) (hH : H a = some u) (hu : isDict u = true) (q : SCont C W P (match o with
      | .exn _ _ => .bad
      | o => o) D) : SCont (C.lock a od u) W P o ⟨fun σ' H' => H' a = some (.frz od u) ∧ D.nx σ' (L2.upd H' a u), fun v H' => H' a = some (.frz od u) ∧ D.rt v (L2.upd H' a u), fun σ' H' => H' a = some (.frz od u) ∧ D.bk σ' (L2.upd H' a u), fun σ' H' => H' a = some (.frz od u) ∧ D.ct σ' (L2.upd H' a u)⟩ := by
  cases o with
  | bad => exact q.elim
  | exn e r' => exact q.elim
  | ok fl r' =>
    cases fl with
    | nx => exact fun P' H' σ' S' sb => ⟨S'.locked, q P' _ σ' (S.unlock hP hH hu sb S') sb⟩
    | bk => exact fun P' H' σ' S' sb => ⟨S'.locked, q P' _ σ' (S.unlock hP hH hu sb S') sb⟩
    | ct => exact fun P' H' σ' S' sb => ⟨S'.locked, q P' _ σ' (S.unlock hP hH hu sb S') sb⟩
    | rt x => exact fun P' H' σ' v S' sb hv => ⟨S'.locked, q P' _ σ' v (S.unlock hP hH hu sb S') sb (hv.unlock (sb a u hP))⟩
theorem lock_ends2 {C : Cfg} {P H : Hp} {σ : St} {r : Env} {a : Addr} {od : Obj} {u : HO} {o : Out Fl} {E1 : Ends} (S : Sit C P H σ r) (hP : P a = some u) (hH : H a = some (.frz od u)) (hu : isDict u = true) (q : SCont C W P (match o with
      | .exn _ _ => .bad
      | o => o) E1) : SCont (C.lock a od u) W P o E1 := by
  cases o with
  | bad => exact q.elim
  | exn e r' => exact q.elim
  | ok fl r' =>
    cases fl with
    | nx => exact fun P' H' σ' S' sb => q P' _ σ' (S.unlock2 hP hH hu sb S') sb
    | bk => exact fun P' H' σ' S' sb => q P' _ σ' (S.unlock2 hP hH hu sb S') sb
    | ct => exact fun P' H' σ' S' sb => q P' _ σ' (S.unlock2 hP hH hu sb S') sb
    | rt x => exact fun P' H' σ' v S' sb hv => q P' _ σ' v (S.unlock2 hP hH hu sb S') sb (hv.unlock2 (sb a u hP))
/-- for x in d: .. -/
theorem qs_forK (i : Nat) {x : Str} (hp : PassesOwn (model X.prog X.w) X.A X.env X.xe) (hc : X.calm = true) (hg : QG Γ X tg js G) (hb : QSs Γ W X body f)
    (hN : X.N[i]? = some x := by rfl) (hv : Vis X.env.scope x := by first | exact Or.inl rfl | exact Or.inr (Or.inl rfl) | exact Or.inr (Or.inr rfl)) (hd : (x == ("__debug__" : Str)) = false := by decide)
    (hcd : (x == ("__classdict__" : Str)) = false := by decide) (hs : ∀ y, foldedSetIterable (.Name x p) X.env y = pure y := by intro _; rfl) : QS Γ W X (.For tg (.Name x p) body [] pos) (sForK i G f) := by
  obtain ⟨g, pg, kg⟩ := hg.ex
  obtain ⟨tb, pb, kb⟩ := hb.ex
  have pf := ps_for (pos := pos) hp hc (pi_keys (pe_var (pos := p) hN hv hd hcd)) pg pb hs
  refine ⟨_, ps_either (ps_lock pf) pf, fun C hC σ H P r E1 S h => ?_⟩
  unfold sForK at h
  cases e1 : settle r (.bw i) with
  | none => simp only [e1] at h; exact h.elim
  | some z =>
    obtain ⟨d, r2⟩ := z
    simp only [e1] at h
    cases e2 : keysD d with
    | none => simp only [e2] at h; exact h.elim
    | some ks =>
      simp only [e2] at h
      have ev : ∃ v, σ[i]? = some (some v) := by
        unfold settle at e1
        cases q : r[i]? with
        | none => simp only [q] at e1; cases e1
        | some s =>
          have k := S.slot i s q
          cases s with
          | fz d' => obtain ⟨v, e, _⟩ := k; exact ⟨v, e⟩
          | ow d' => obtain ⟨a, e, _⟩ := k; exact ⟨_, e⟩
          | un => simp only [q] at e1; cases e1
          | hid => simp only [q] at e1; cases e1
          | io d' => simp only [q] at e1; cases e1
      obtain ⟨v, ev⟩ := ev
      obtain ⟨P2, t2, s2, rp⟩ := (Tr.refl S).settle (v := v) (x := .bw i) ev trivial e1
      obtain ⟨p0, kvs, rfl, rfl⟩ := keysD_inv e2
      obtain ⟨a, rfl, db⟩ := rp
      have db' := db
      have gP : ∃ u, P2 a = some u := by
        rcases db with ⟨ws, r', _, g2, _⟩ | ⟨ws, r', _, g2, _⟩
        · exact ⟨_, g2⟩
        · exact ⟨_, g2⟩
      obtain ⟨u, gP⟩ := gP
      have S2 := t2.sit
      obtain ⟨_, hH⟩ := S2.part a u gP
      have q2 := SCont.from h t2.sub
      have key : ∀ od, Sit (C.lock a od u) P2 (L2.upd H a (.frz od u)) σ r2 → True := fun _ _ => trivial
      rcases hH with hH | ⟨hu', ob, hH⟩
      · left
        refine ⟨a, u, hH, ?_, fun od => ?_⟩
        · rcases db' with ⟨ws, r', _, g2, _⟩ | ⟨ws, r', _, g2, _⟩ <;> (rw [gP] at g2; cases g2; exact trivial)
        · obtain ⟨hu, it⟩ := it_keys_any (C := C) (od := od) gP db'
          have SL := S2.lock (od := od) gP hH hu
          have hk := Cfg.lock_of (a := a) (od := od) (u := u) hC
          refine ⟨.ref a, ev, a, od, rfl, ?_⟩
          rcases it with ⟨ws, rfl, it⟩ | ⟨ws, rfl, it⟩
          · exact .inl ⟨ws, upd_same, for_core SL it (fun v σ H P r r' d Q S a b c => kg _ hk v σ H P r r' d Q S a b fun σ' S' _ => c σ' S') (kb _ hk) (lock_ends S2 gP hH hu q2)⟩
          · exact .inr ⟨ws, upd_same, for_core SL it (fun v σ H P r r' d Q S a b c => kg _ hk v σ H P r r' d Q S a b fun σ' S' _ => c σ' S') (kb _ hk) (lock_ends S2 gP hH hu q2)⟩
      · right
        obtain ⟨hu, it⟩ := it_keys_any (C := C) (od := ob) gP db'
        have SL := S2.lock2 gP hH hu
        have hk := Cfg.lock_of (a := a) (od := ob) (u := u) hC
        refine ⟨.ref a, ev, a, ob, rfl, ?_⟩
        rcases it with ⟨ws, rfl, it⟩ | ⟨ws, rfl, it⟩
        · exact .inl ⟨ws, hH, for_core SL it (fun v σ H P r r' d Q S a b c => kg _ hk v σ H P r r' d Q S a b fun σ' S' _ => c σ' S') (kb _ hk) (lock_ends2 S2 gP hH hu q2)⟩
        · exact .inr ⟨ws, hH, for_core SL it (fun v σ H P r r' d Q S a b c => kg _ hk v σ H P r r' d Q S a b fun σ' S' _ => c σ' S') (kb _ hk) (lock_ends2 S2 gP hH hu q2)⟩
end
end Dn

end
section
/-! Dn34: comprehensions over a dict's keys. -/
namespace Dn
open PySem L2
def eLcK (vs : List Nat) (i : Nat) (G : D → Env → Option Env) (ft : Env → Out Bool) (fe : Env → Out Res) (r : Env) : Out Res := match settle r (.bw i) with
  | some (d, r1) => (match keysD d with
    | some ks => if clearB vs r1 = true then (match lcD G ft fe vs ks [] (wipeE vs r1) with
      | .ok ds r2 => .ok (.ow (.list ds)) (backE vs r1 r2)
      | _ => .bad) else .bad
    | none => .bad)
  | none => .bad
/-- what a name at slot i, frozen, stands for -/
theorem settle_name {C : Cfg} {P H : Hp} {σ : St} {r r2 : Env} {i : Nat} {d : D} (S : Sit C P H σ r) (e1 : settle r (.bw i) = some (d, r2)) : ∃ v P2, σ[i]? = some (some v) ∧ Tr C σ P H r P2 H r2 ∧ RepT P2 v d := by
  have ev : ∃ v, σ[i]? = some (some v) := by
    unfold settle at e1
    cases q : r[i]? with
    | none => simp only [q] at e1; cases e1
    | some s =>
      have k := S.slot i s q
      cases s with
      | fz d' => obtain ⟨v, e, _⟩ := k; exact ⟨v, e⟩
      | ow d' => obtain ⟨a, e, _⟩ := k; exact ⟨_, e⟩
      | un => simp only [q] at e1; cases e1
      | hid => simp only [q] at e1; cases e1
      | io d' => simp only [q] at e1; cases e1
  obtain ⟨v, ev⟩ := ev
  obtain ⟨P2, t2, s2, rp⟩ := (Tr.refl S).settle (v := v) (x := .bw i) ev trivial e1
  exact ⟨v, P2, ev, t2, rp⟩
section
variable {C : Cfg} {P H P' H' : Hp} {σ : St} {r r' : Env} {a : Addr} {od : Obj} {u : HO}
/-- a step at a locked configuration, seen from outside -/
theorem Sit.unlock_tr (S : Sit C P H σ r) (hP : P a = some u) (hH : H a = some u) (hu : isDict u = true) (t : Tr (C.lock a od u) σ P (L2.upd H a (.frz od u)) r P' H' r') : Tr C σ P H r P' (L2.upd H' a u) r' := by
  have noOwn : ∀ i, ¬ Owns σ r i a := fun i O => by
    rcases owns_kd.mp O with ⟨e', q | q⟩
    · obtain ⟨b, e2, n, _⟩ := (kd_slot S (i := i)).1 q
      rw [e'] at e2; cases e2
      rw [hP] at n; cases n
    · obtain ⟨b, e2, n, _⟩ := (kd_slot S (i := i)).2 q
      rw [e'] at e2; cases e2
      rw [hP] at n; cases n
  refine ⟨S.unlock hP hH hu t.sub t.sit, t.sub, fun b o e nt no => ?_, fun b hb => ?_, t.owns, fun b o e => ?_⟩
  · by_cases q : b = a
    · subst q; rw [hH] at e; cases e; exact upd_same
    · rw [upd_ne q]
      exact t.keep b o (by rw [upd_ne q]; exact e) nt no
  · by_cases q : b = a
    · subst q; exact .inl (by rw [hP]; simp)
    · rcases t.froz b hb with z | z | z
      · exact .inl z
      · exact .inr (.inl fun o e => z o (by rw [upd_ne q]; exact e))
      · exact .inr (.inr z)
  · by_cases q : b = a
    · subst q; exact ⟨u, upd_same⟩
    · obtain ⟨o', e'⟩ := t.some b o (by rw [upd_ne q]; exact e)
      exact ⟨o', by rw [upd_ne q]; exact e'⟩
theorem Sit.unlock_tr2 (S : Sit C P H σ r) (hP : P a = some u) (hH : H a = some (.frz od u)) (hu : isDict u = true) (t : Tr (C.lock a od u) σ P H r P' H' r') : Tr C σ P H r P' H' r' :=
  ⟨S.unlock2 hP hH hu t.sub t.sit, t.sub, t.keep, t.froz, t.owns, t.some⟩
end
section
variable {Γ : Tx} {W : WX} {X : Cx} {elt tg : Expr} {ifs : List Expr} {scope : Scope} {own : List (Str × Nat)} {pos p : Pos} {is : List Nat} {G : D → Env → Option Env} {ft : Env → Out Bool} {fe : Env → Out Res}
theorem qe_lcK (i : Nat) {x : Str} (hc : X.calm = true) (hN : X.N.Nodup) (ok : BlkOk X.N X.env.scope scope own)
    (hg : ∀ i : Ctx5, QG Γ (bx X scope i) tg is G) (ht : ∀ i : Ctx5, QTs Γ WN (bx X scope i) ifs ft) (he : ∀ i : Ctx5, QE Γ WN (bx X scope i) elt fe)
    (hs : ∀ j ∈ is, j ∈ own.map (·.2)) (hx : X.N[i]? = some x := by rfl) (hv : Vis X.env.scope x := by first | exact Or.inl rfl | exact Or.inr (Or.inl rfl) | exact Or.inr (Or.inr rfl)) (hd : (x == ("__debug__" : Str)) = false := by decide)
    (hcd : (x == ("__classdict__" : Str)) = false := by decide) (hf : ∀ y, foldedSetIterable (.Name x p) X.env y = pure y := by intro _; rfl) :
    QE Γ W X (.ListComp elt [⟨tg, .Name x p, ifs, 0⟩] scope pos) (eLcK (own.map (·.2)) i G ft fe) := by
  obtain ⟨g, pg, kg⟩ := QG.all hg
  obtain ⟨tt, pt, kt⟩ := QTs.all ht
  obtain ⟨te, pe, ke⟩ := QE.all he
  have one : ∃ _ : Ctx5, True := ⟨(⟨X.s_0, X.H_0, 0, [], []⟩ : Ctx5), trivial⟩
  have pl := pe_lc (pos := pos) hc hN (pi_keys (pe_var (pos := p) hx hv hd hcd)) ok (fun s H C cl fp => pg (s, H, C, cl, fp)) (fun s H C cl fp => pt (s, H, C, cl, fp)) (fun s H C cl fp => pe (s, H, C, cl, fp)) hf
  have q0 := hg (X.s_0, X.H_0, 0, [], [])
  refine ⟨_, pe_either (pe_lock pl) pl, fun C hC σ H P r Q S h => ?_⟩
  unfold eLcK at h
  cases e1 : settle r (.bw i) with
  | none => simp only [e1] at h; exact h.elim
  | some z =>
    obtain ⟨d, r2⟩ := z
    simp only [e1] at h
    cases e2 : keysD d with
    | none => simp only [e2] at h; exact h.elim
    | some ks =>
      simp only [e2] at h
      obtain ⟨v, P2, ev, t2, rp⟩ := settle_name S e1
      obtain ⟨p0, kvs, rfl, rfl⟩ := keysD_inv e2
      obtain ⟨a, rfl, db⟩ := rp
      have db' := db
      have gP : ∃ u, P2 a = some u := by
        rcases db with ⟨ws, r', _, g2, _⟩ | ⟨ws, r', _, g2, _⟩
        · exact ⟨_, g2⟩
        · exact ⟨_, g2⟩
      obtain ⟨u, gP⟩ := gP
      have S2 := t2.sit
      obtain ⟨_, hH⟩ := S2.part a u gP
      have lcn : lcN (nxL (kvs.map Prod.fst)) G ft fe (own.map (·.2)) ((kvs.map Prod.fst).length + 1) 0 [] (wipeE (own.map (·.2)) r2) = lcD G ft fe (own.map (·.2)) (kvs.map Prod.fst) [] (wipeE (own.map (·.2)) r2) := by
        rw [lcN_D _ 0 [] _ rfl, if_pos (Nat.zero_le _)]; rfl
      have h2 : Cont C W σ P2 H r2 (if clearB (own.map (·.2)) r2 = true then (match lcN (nxL (kvs.map Prod.fst)) G ft fe (own.map (·.2)) ((kvs.map Prod.fst).length + 1) 0 [] (wipeE (own.map (·.2)) r2) with
        | .ok ds r3 => .ok (.ow (.list ds)) (backE (own.map (·.2)) r2 r3)
        | _ => .bad) else .bad) (fun x r' P' H' => ∀ v, ResOk C P' H' σ r' v x → Fresh H v x → Q v H') := by
        rw [lcn]; exact Cont.from h t2
      clear h
      -- at a locked configuration
      rcases hH with hH | ⟨hu', ob, hH⟩
      · left
        refine ⟨a, u, hH, ?_, fun od => ?_⟩
        · rcases db' with ⟨ws, r', _, g2, _⟩ | ⟨ws, r', _, g2, _⟩ <;> (rw [gP] at g2; cases g2; exact trivial)
        · obtain ⟨hu, it⟩ := it_keys_any (C := C) (od := od) gP db'
          have SL := S2.lock (od := od) gP hH hu
          have hk := Cfg.lock_of (a := a) (od := od) (u := u) hC
          refine ⟨.ref a, ev, a, od, rfl, ?_⟩
          have q3 : Cont (C.lock a od u) W σ P2 (L2.upd H a (.frz od u)) r2 (if clearB (own.map (·.2)) r2 = true then (match lcN (nxL (kvs.map Prod.fst)) G ft fe (own.map (·.2)) ((kvs.map Prod.fst).length + 1) 0 [] (wipeE (own.map (·.2)) r2) with
            | .ok ds r3 => .ok (.ow (.list ds)) (backE (own.map (·.2)) r2 r3)
            | _ => .bad) else .bad) (fun x r' P' H' => ∀ v, ResOk (C.lock a od u) P' H' σ r' v x → Fresh (L2.upd H a (.frz od u)) v x → H' a = some (.frz od u) ∧ Q v (L2.upd H' a u)) := by
            cases hcl : clearB (own.map (·.2)) r2 with
            | false => rw [hcl] at h2; exact h2.elim
            | true =>
              rw [hcl, if_pos rfl] at h2
              rw [if_pos rfl]
              cases o : lcN (nxL (kvs.map Prod.fst)) G ft fe (own.map (·.2)) ((kvs.map Prod.fst).length + 1) 0 [] (wipeE (own.map (·.2)) r2) with
              | bad => rw [o] at h2; exact h2.elim
              | exn e r3 => rw [o] at h2; exact h2.elim
              | ok ds r3 =>
                rw [o] at h2
                intro P3 H3 t3 v hv fv
                refine ⟨t3.sit.locked, h2 P3 _ (S2.unlock_tr gP hH hu t3) v (hv.unlock (t3.sub a u gP)) ?_⟩
                intro b eb
                have := fv b eb
                by_cases q : b = a
                · subst q; rw [upd_same] at this; cases this
                · rw [upd_ne q] at this; exact this
          rcases it with ⟨ws, rfl, it⟩ | ⟨ws, rfl, it⟩
          · exact .inl ⟨ws, upd_same, lc_body (own.map (·.2)) (kg _ hk) q0.out q0.own q0.len (kt _ hk) (ke one _ hk) (js := []) (fun j h => by cases h) hs SL (Tr.refl SL) (it.gen σ) (nx := (nxL (kvs.map Prod.fst), (kvs.map Prod.fst).length + 1)) q3⟩
          · exact .inr ⟨ws, upd_same, lc_body (own.map (·.2)) (kg _ hk) q0.out q0.own q0.len (kt _ hk) (ke one _ hk) (js := []) (fun j h => by cases h) hs SL (Tr.refl SL) (it.gen σ) (nx := (nxL (kvs.map Prod.fst), (kvs.map Prod.fst).length + 1)) q3⟩
      · right
        obtain ⟨hu, it⟩ := it_keys_any (C := C) (od := ob) gP db'
        have SL := S2.lock2 gP hH hu
        have hk := Cfg.lock_of (a := a) (od := ob) (u := u) hC
        refine ⟨.ref a, ev, a, ob, rfl, ?_⟩
        have q3 : Cont (C.lock a ob u) W σ P2 H r2 (if clearB (own.map (·.2)) r2 = true then (match lcN (nxL (kvs.map Prod.fst)) G ft fe (own.map (·.2)) ((kvs.map Prod.fst).length + 1) 0 [] (wipeE (own.map (·.2)) r2) with
          | .ok ds r3 => .ok (.ow (.list ds)) (backE (own.map (·.2)) r2 r3)
          | _ => .bad) else .bad) (fun x r' P' H' => ∀ v, ResOk (C.lock a ob u) P' H' σ r' v x → Fresh H v x → Q v H') := by
          cases hcl : clearB (own.map (·.2)) r2 with
          | false => rw [hcl] at h2; exact h2.elim
          | true =>
            rw [hcl, if_pos rfl] at h2
            rw [if_pos rfl]
            cases o : lcN (nxL (kvs.map Prod.fst)) G ft fe (own.map (·.2)) ((kvs.map Prod.fst).length + 1) 0 [] (wipeE (own.map (·.2)) r2) with
            | bad => rw [o] at h2; exact h2.elim
            | exn e r3 => rw [o] at h2; exact h2.elim
            | ok ds r3 =>
              rw [o] at h2
              intro P3 H3 t3 v hv fv
              exact h2 P3 _ (S2.unlock_tr2 gP hH hu t3) v (hv.unlock2 (t3.sub a u gP)) fv
        rcases it with ⟨ws, rfl, it⟩ | ⟨ws, rfl, it⟩
        · exact .inl ⟨ws, hH, lc_body (own.map (·.2)) (kg _ hk) q0.out q0.own q0.len (kt _ hk) (ke one _ hk) (js := []) (fun j h => by cases h) hs SL (Tr.refl SL) (it.gen σ) (nx := (nxL (kvs.map Prod.fst), (kvs.map Prod.fst).length + 1)) q3⟩
        · exact .inr ⟨ws, hH, lc_body (own.map (·.2)) (kg _ hk) q0.out q0.own q0.len (kt _ hk) (ke one _ hk) (js := []) (fun j h => by cases h) hs SL (Tr.refl SL) (it.gen σ) (nx := (nxL (kvs.map Prod.fst), (kvs.map Prod.fst).length + 1)) q3⟩
end
end Dn

end
section
/-! Dn35: reversed(a text); join. -/
namespace Dn
open PySem PySem.Spec L2
open PyProof.Rows hiding St
/-! ### reversed(text) at the library's level -/
theorem norev_s : typeLookup (.type "str") "__reversed__" = pure none := by rw [typeLookup_type, builtinLookup_eq_fast]; kernel_rfl
theorem get_s : typeLookup (.type "str") "__getitem__" = pure (some (.builtin "str.__getitem__")) := by rw [typeLookup_type, builtinLookup_eq_fast]; kernel_rfl
/-- at it: reversed(x), the next place i -/
def IsRs (h : Heap) (it : Addr) (x : Str) (i : Int) : Prop := ∃ o t, h.get? it = some o ∧ o.cls = .type "reversed" ∧ o.data = .fields #[.str x t, rawInt i]
section
variable {prog : Program} {w : World} {A : Around} {E : Value → Shared → Prop} {s : Shared} {x : Str} {t : Tok} {it : Addr}
theorem IsRs.typ {i : Int} (h : IsRs s.heap it x i) : s.TypeIs (.ref it) "reversed" := let ⟨o, _, ho, hc, _⟩ := h; ⟨o, ho, hc⟩
theorem rev_new {Q : Value → Shared → Prop} (hf : ¬ (x.length : Int) ≥ 2 ^ 63) (h : ∀ s2 : Shared, s2 = { s with heap := s.heap.push { cls := .type "reversed", data := .fields #[.str x t, rawInt ((x.length : Int) - 1)] }, toks := s.toks + 1 + 1 } → Q (.ref s.heap.objs.size) s2) :
    codeAny (model prog w) A (.call (.builtin "reversed.__new__") ⟨[.type "reversed", .str x t], []⟩) (wants Q E) s := by
  have hT : s.TypeIs (.str x t) "str" := typeIs_str _ _ _
  refine codeAny_of_tree ?_; show wpAny _ A.in1 (do checkBuiltinCall "reversed.__new__" ⟨[.type "reversed", .str x t], []⟩; again (.builtin "reversed.__new__" ⟨[.type "reversed", .str x t], []⟩)) _ _ s
  refine wpAny_bind (wpAny_of_eq (F.newCall_reversed_1 _) (wpAny_pure ⟨plainId_quiet F.plain_reversed_new _, codeAny_builtin F.entry_reversed_new ?_⟩)); rw [Around.under_plainId F.plain_reversed_new _]; unfold Builtin.«reversed.__new__»
  refine wpAny_bind (wpAny_of_eq (newClass_reversed _) ?_); try dsimp only
  refine wpAny_bind (wpAny_of_eq (a := ()) (by first | rfl | kernel_rfl) ?_); try dsimp only
  refine wpAny_bind (wpAny_of_eq (a := ()) (by first | rfl | kernel_rfl) ?_); try dsimp only
  refine wpAny_bind (wpAny_specialOf hT norev_s ?_); try dsimp only
  refine wpAny_bind ?_; wp_delta; refine wpAny_bind (wpAny_isInstance (T := "str") (U := "dict") (b := false) hT PySem.F.sub_str_dict ?_); try dsimp only
  try rw [if_neg Bool.false_ne_true]
  try dsimp only
  refine wpAny_bind (wpAny_specialOf hT get_s ?_); try dsimp only
  try rw [if_pos (by decide +kernel)]
  refine wpAny_pure ?_; try dsimp only
  try rw [if_neg (by decide)]
  try dsimp only
  refine wpAny_bind (len_str hf ?_); refine wpAny_bind (wpAny_of_eq (a := some ((x.length : Nat) : Int)) rfl ?_); try dsimp only
  refine wpAny_bind ?_; show wpAny _ _ (newObj (.type "reversed") (.fields #[.str x t, rawInt ((x.length : Int) - 1)])) _ _ _
  refine wpAny_newObj_type ?_; exact wpAny_pure (h _ rfl)
theorem rev_call {Q : Value → Shared → Prop} (hf : ¬ (x.length : Int) ≥ 2 ^ 63) (h : ∀ s2 : Shared, s2 = { s with heap := s.heap.push { cls := .type "reversed", data := .fields #[.str x t, rawInt ((x.length : Int) - 1)] }, toks := s.toks + 1 + 1 } → Q (.ref s.heap.objs.size) s2) :
    wpAny (model prog w) A (call (.type "reversed") [.str x t]) Q E s := by
  refine callType_codes (Q₁ := fun obj s₁ => s₁.TypeIs obj "reversed" ∧ Q obj s₁) RT.called_rt (F.typeCall_reversed_1 _) F.entry_object_init
    (rev_new (A := A.in1) hf fun s2 e => ⟨by rw [e]; exact ⟨_, Heap.get?_push_size _ rfl, rfl⟩, h s2 e⟩) fun obj s₁ h₁ => ?_
  exact ⟨h₁.1, F.args_object_init_2 obj _, object_init_meets RT.called_rt.init.lookup RT.called_rt.made (by decide) prog w A.in1 _ s₁ ⟨h₁.1, rfl, h₁.2⟩⟩
theorem rev_item {i : Nat} {c : Nat} {Q : Option Value → Shared → Prop} (hit : IsRs s.heap it x (i : Int)) (hx : x.cps[i]? = some c) (hsz : x.length ≤ sizeLine)
    (hQ : ∀ h' tk u, IsRs h' it x ((i : Int) - 1) → Heap.SameBut it s.heap h' → Q (some (.str ⟨#[c]⟩ u)) { s with heap := h', toks := tk }) : wpAny (model prog w) A (pyNext (.ref it)) Q E s := by
  obtain ⟨o, t, ho, hc, hd⟩ := id hit
  have hi : i < x.cps.size := (Array.getElem?_eq_some_iff.mp hx).1
  have hT : s.TypeIs (.str x t) "str" := typeIs_str _ _ _
  have hl : x.length = x.cps.size := rfl
  rw [sizeLine_eq] at hsz
  unfold pyNext; refine wpAny_bind (wpAny_attempt (wpAny_callSpecial?_slot (name := Str.ofString "__next__") hit.typ RT.slot_rt_next (wpAny_call_entry RT.slot_rt_next hit.typ RT.entry_rt_next ?_ (RT.args_rt_next _))))
  unfold Builtin.«reversed.__next__»; refine wpAny_bind (wpAny_of_eq (a := (Value.ref it, [])) rfl ?_); try dsimp only
  refine wpAny_bind (wpAny_field ho hd (x := .str x t) rfl ?_); try dsimp only
  refine wpAny_bind (wpAny_field ho hd (x := rawInt (i : Int)) rfl ?_); show wpAny _ _ (if (i : Int) < 0 then _ else _) _ _ s
  rw [if_neg (by omega)]; try dsimp only
  refine wpAny_bind (wpAny_specialOf hT get_s ?_); try dsimp only
  try rw [if_neg (by decide)]
  try dsimp only
  refine wpAny_bind (wpAny_mkInt ?_); refine wpAny_bind (wpAny_attempt ?_)
  have fin : (seqIndex? (i : Int) x.length).bind (x.cps[·]?) = some c := by have z : seqIndex? (i : Int) x.length = some i := seqIndex_of (by omega) (by omega); rw [z]; exact hx
  refine getItem_str (s := { s with toks := s.toks + 1 }) (by simp; omega) fin ?_; try dsimp only
  refine wpAny_bind (wpAny_field (s := { s with toks := _ }) ho hd (x := rawInt (i : Int)) rfl ?_); try dsimp only
  refine wpAny_bind (wpAny_setField (s := { s with toks := _ }) ho hd (by simp) ?_)
  first
  | refine wpAny_pure ⟨_, rfl, wpAny_pure (hQ _ _ _ ?_ (Heap.SameBut.update ..))⟩
  | refine wpAny_bind (wpAny_pure (wpAny_pure ⟨_, rfl, wpAny_pure (hQ _ _ _ ?_ (Heap.SameBut.update ..))⟩))
  exact ⟨_, t, Heap.get?_update_self _ ho (Obj.isFreed_of_fields (Obj.data_mapFields hd _)), (Obj.cls_mapFields ..).trans hc, by rw [Obj.data_mapFields hd]; simp⟩
theorem rev_end {Q : Option Value → Shared → Prop} (hh : A.handled = none) (hit : IsRs s.heap it x (-1)) (hQ : ∀ h', Heap.ExtBut it s.heap h' → Q none { s with heap := h' }) : wpAny (model prog w) A (pyNext (.ref it)) Q E s := by
  obtain ⟨o, t, ho, hc, hd⟩ := id hit
  unfold pyNext; refine wpAny_bind (wpAny_attempt (wpAny_callSpecial?_slot (name := Str.ofString "__next__") hit.typ RT.slot_rt_next (wpAny_call_entry RT.slot_rt_next hit.typ RT.entry_rt_next ?_ (RT.args_rt_next _))))
  unfold Builtin.«reversed.__next__»; refine wpAny_bind (wpAny_of_eq (a := (Value.ref it, [])) rfl ?_); try dsimp only
  refine wpAny_bind (wpAny_field ho hd (x := .str x t) rfl ?_); try dsimp only
  refine wpAny_bind (wpAny_field ho hd (x := rawInt (-1)) rfl ?_); show wpAny _ _ (if (-1 : Int) < 0 then _ else _) _ _ s
  rw [if_pos (by decide)]; try dsimp only
  refine wpAny_bind (wpAny_rule ?_); refine wpAny_bind ?_; wp_delta; refine wpAny_bind (wpAny_setField ho hd (by simp) ?_)
  have ho2 := Heap.get?_update_self (Obj.mapFields (·.setIfInBounds 1 (rawInt (-1)))) ho (Obj.isFreed_of_fields (Obj.data_mapFields hd _)); refine wpAny_setField (s := { s with heap := s.heap.update it (Obj.mapFields (·.setIfInBounds 1 (rawInt (-1)))) }) ho2 (Obj.data_mapFields hd _) (by simp) ?_
  try dsimp only
  first | show wpAny _ _ (newExc (.type "StopIteration") [] >>= _) _ _ _ | (refine wpAny_bind ?_; show wpAny _ _ (newExc (.type "StopIteration") [] >>= _) _ _ _) | (refine wpAny_bind ?_; wp_delta; show wpAny _ _ (newExc (.type "StopIteration") [] >>= _) _ _ _)
  refine wpAny_bind ?_; simp only [newExc, newTuple]; refine wpAny_bind (wpAny_newObj_type ?_ (by size_fits))
  refine wpAny_bind (m := firstArgMember _ _) (wpAny_of_eq (a := Value.none) (by first | rfl | (simp only [firstArgMember]; rfl)) ?_); refine wpAny_newObj_type ?_ (by size_fits)
  simp only [raiseNew]; refine wpAny_bind (wpAny_handled ?_)
  first | rw [show A.in1.handled = none from hh] | rw [hh]
  refine wpAny_bind (wpAny_pure (wpAny_throw ?_)); refine wpAny_bind (wpAny_isInstance (T := "StopIteration") (b := true) ⟨_, Heap.get?_push_size _ rfl, rfl⟩ isSubtype_stop ?_)
  refine wpAny_pure (hQ _ ?_); refine ((?_ : Heap.ExtBut it s.heap _).push _).push _
  exact fun b ob hb e => (Heap.get?_update_other _ _ (Ne.symm hb)).trans ((Heap.get?_update_other _ _ (Ne.symm hb)).trans e)
theorem rev_self {i : Int} {Q : Value → Shared → Prop} (hit : IsRs s.heap it x i) (h : Q (.ref it) s) : wpAny (model prog w) A (pyIter (.ref it)) Q E s := by
  refine wpAny_pyIter_slot hit.typ RT.slot_rt_iter (wpAny_call_entry RT.slot_rt_iter hit.typ RT.entry_rt_iter ?_ (RT.args_rt_iter _)); show wpAny _ _ (ret (.ref it)) _ _ s
  exact wpAny_pure ⟨_, rfl, "reversed", _, hit.typ, RT.slot_rt_next.lookup, h⟩
end
/-! ### the walk -/
def Itrs (x : Str) : It := ⟨fun i _ => i < x.cps.size, fun i H v H' => H' = H ∧ ∃ c, x.cps[x.cps.size - 1 - i]? = some c ∧ v = .str ⟨#[c]⟩, fun i _ => x.cps.size ≤ i⟩
theorem turn_rs {P : Program} {w : World} {K : PySem.W.Frag} {tg : Expr} (x : Str) (it : Addr) (hz : x.length ≤ sizeLine) : Turn P w K tg (Itrs x) [it] it (fun i h => i ≤ x.cps.size ∧ IsRs h it x ((x.cps.size : Int) - 1 - (i : Nat))) where
  mem := by simp
  obj := fun i h st b hb => by
    have e : b = it := by simpa using hb
    subst e; obtain ⟨_, o, t, e, c, d⟩ := st
    exact ⟨o, e, fun v z => by rw [d] at z; cases z⟩
  keep := fun i h h' st k => ⟨st.1, let ⟨o, t, ho, r⟩ := st.2; ⟨o, t, k it (by simp) o ho, r⟩⟩
  item := by
    intro X hP hw hK hc i pins s σ H E I hf st hg
    subst hP hw hK
    have hin : i < x.cps.size := hg
    obtain ⟨f0, f1, f2, f3, f4, f5⟩ := hf it (by simp)
    obtain ⟨_, hit⟩ := st
    have e1 : (x.cps.size : Int) - 1 - ((i : Nat) : Int) = ((x.cps.size - 1 - i : Nat) : Int) := by omega
    rw [e1] at hit
    have hx : x.cps[x.cps.size - 1 - i]? = some x.cps[x.cps.size - 1 - i] := Array.getElem?_eq_getElem (by omega)
    refine rev_item hit hx hz fun h' tk u st' sb => ?_
    have e2 : ((x.cps.size - 1 - i : Nat) : Int) - 1 = (x.cps.size : Int) - 1 - ((i + 1 : Nat) : Int) := by omega
    rw [e2] at st'
    have I1 : Inv X pins σ H { s with heap := h', toks := tk } := I.turned (t' := tk) (fun b o hb e => (sb.2 b hb).trans e) f0 f1 f3 f4 f5
    obtain ⟨o, t, e, c, d⟩ := id st'
    exact ⟨_, rfl, go_of (s := { s with heap := h', toks := tk }) e c d (by decide) ⟨.str ⟨#[x.cps[x.cps.size - 1 - i]]⟩, H, I1, ⟨u, rfl⟩, ⟨rfl, _, hx, rfl⟩, ⟨hin, st'⟩, fun b hb => (hf b hb).1⟩⟩
  done := by
    intro X hP hw hK hc i pins s σ H E I hf st hg
    subst hP hw hK
    obtain ⟨f0, f1, f2, f3, f4, f5⟩ := hf it (by simp)
    obtain ⟨hin, hit⟩ := st
    have hge : x.cps.size ≤ i := hg
    have e1 : (x.cps.size : Int) - 1 - ((i : Nat) : Int) = -1 := by omega
    rw [e1] at hit
    exact rev_end (I.ok.hd hc) hit fun h' eb => ⟨rfl, I.turned (t' := s.toks) (fun b o hb e => eb b o hb e) f0 f1 f3 f4 f5⟩
  self := fun A i s Q E st h => rev_self st.2 h
def iRevS (te : TE) : TI := fun σ H R => te σ H fun v H1 => ∃ x : Str, v = .str x ∧ x.length ≤ sizeLine ∧ R (Itrs x) H1
section
variable {Γ : Tx} {W : WX} {X : Cx} {tg a : Expr} {fa : Env → Out Res} {p pos : Pos}
theorem pi_revS {te : TE} (hg : Gl X "reversed") (hm : X.mg "reversed" = none) (he : PE X a te) (hs : starEach [a] X.env = (false, eval a X.env) :: starEach [] X.env := by rfl) : PI X tg (.Call (.Name "reversed" p) [a] [] pos) (iRevS te) := by
  refine ⟨fun pins s σ H R I h => ?_⟩
  refine Call_ (ld_blt I hg hm PyProof.Rows.boot_reversed (PyProof.Rows.callWith_type1 (args_cons (thn (he.run pins s σ H _ I h) fun u s1 ⟨v, H1, I1, r1, q1⟩ => args_nil ?_) hs) hs rfl))
  obtain ⟨x, rfl, hz, q⟩ := q1
  obtain ⟨t, rfl⟩ := r1
  have hz' : ¬ (x.length : Int) ≥ 2 ^ 63 := by rw [sizeLine_eq] at hz; omega
  refine rev_call hz' fun s2 e2 => ?_
  subst e2
  have e1 : (x.length : Int) - 1 = (x.cps.size : Int) - 1 - ((0 : Nat) : Int) := by have : x.length = x.cps.size := rfl; omega
  refine rev_self (x := x) (i := (x.length : Int) - 1) ⟨_, t, Heap.get?_push_size _ rfl, rfl, rfl⟩ ?_
  refine pi_one (tk := s1.toks + 1 + 1) I1 _ (turn_rs x _ hz) ⟨Nat.zero_le _, ?_⟩ q
  rw [← e1]
  exact ⟨_, t, Heap.get?_push_size _ rfl, rfl, rfl⟩
/-- the signs of a text, each a text -/
def signs (x : Str) : List D := x.cps.toList.map fun c => .str ⟨#[c]⟩
def wRevS (f : Env → Out Res) (r : Env) : Out (List D) := (f r).bind fun x r1 => match cont r1 x with
  | some (.str x) => if x.length ≤ 100000 then .ok (signs x).reverse r1 else .bad
  | _ => .bad
theorem signs_len (x : Str) : (signs x).length = x.cps.size := by unfold signs; simp
theorem signs_get {x : Str} {i : Nat} {d : D} (h : (signs x)[i]? = some d) : ∃ c, x.cps[i]? = some c ∧ d = .str ⟨#[c]⟩ := by
  unfold signs at h
  rw [List.getElem?_map, Option.map_eq_some_iff] at h
  obtain ⟨c, h1, h2⟩ := h
  exact ⟨c, by simpa using h1, h2.symm⟩
theorem it_revS {C : Cfg} {P : Hp} (x : Str) : ItOk C P (Itrs x) (signs x).reverse := by
  have l := signs_len x
  refine ⟨fun i H P' σ r S s hi => ?_, fun i H P' σ r d v H' S s e y => ?_, fun i H P' σ r S s hi => ?_⟩
  · rw [List.length_reverse, l] at hi; exact hi
  · obtain ⟨rfl, c, hc, rfl⟩ := y
    have hi : i < (signs x).length := by
      have := (List.getElem?_eq_some_iff.mp e).1
      rwa [List.length_reverse] at this
    rw [List.getElem?_reverse hi, l] at e
    obtain ⟨c', h1, rfl⟩ := signs_get e
    rw [hc] at h1; cases h1
    exact ⟨P', Tr.refl S, .str _⟩
  · rw [List.length_reverse, l] at hi; exact hi
theorem qi_revS (hg : Gl X "reversed") (hm : X.mg "reversed" = none) (h : QE Γ W X a fa) (hs : starEach [a] X.env = (false, eval a X.env) :: starEach [] X.env := by rfl) : QI Γ W X tg (.Call (.Name "reversed" p) [a] [] pos) (wRevS fa) := by
  obtain ⟨t, pa, ka⟩ := h.ex
  refine ⟨_, pi_revS hg hm pa hs, fun C hC σ H P r R S q => ?_⟩
  refine ka C hC σ H P r _ S (Cont.expr q fun x r1 P1 H1 v t1 hv fv q1 => ?_)
  cases e : cont r1 x with
  | none => rw [e] at q1; exact q1.elim
  | some d =>
    rw [e] at q1
    have c := hv.ct t1.sit e
    cases d with
    | str x =>
      by_cases hl : x.length ≤ 100000
      · have q2 : Cont C W σ P H r (if x.length ≤ 100000 then Out.ok (signs x).reverse r1 else Out.bad) _ := q1
        rw [if_pos hl] at q2
        exact ⟨x, ct_str c, len_line hl, q2 P1 H1 t1 _ (it_revS x)⟩
      · have q2 : Cont C W σ P H r (if x.length ≤ 100000 then Out.ok (signs x).reverse r1 else Out.bad) _ := q1
        rw [if_neg hl] at q2; exact q2.elim
    | _ => exact q1.elim
/-! ### a text's signs in turn -/
def wStr (f : Env → Out Res) (r : Env) : Out (List D) := (f r).bind fun x r1 => match cont r1 x with
  | some (.str x) => .ok (signs x) r1
  | _ => .bad
theorem it_str {C : Cfg} {P : Hp} (x : Str) : ItOk C P (Its x) (signs x) := by
  have l := signs_len x
  refine ⟨fun i H P' σ r S s hi => ?_, fun i H P' σ r d v H' S s e y => ?_, fun i H P' σ r S s hi => ?_⟩
  · rw [l] at hi; exact hi
  · obtain ⟨rfl, c, hc, rfl⟩ := y
    obtain ⟨c', h1, rfl⟩ := signs_get e
    rw [hc] at h1; cases h1
    exact ⟨P', Tr.refl S, .str _⟩
  · rw [l] at hi; exact hi
theorem qi_str (h : QE Γ W X a fa) : QI Γ W X tg a (wStr fa) := by
  obtain ⟨t, pa, ka⟩ := h.ex
  refine ⟨_, pi_str pa, fun C hC σ H P r R S q => ?_⟩
  refine ka C hC σ H P r _ S (Cont.expr q fun x r1 P1 H1 v t1 hv fv q1 => ?_)
  cases e : cont r1 x with
  | none => rw [e] at q1; exact q1.elim
  | some d =>
    rw [e] at q1
    have c := hv.ct t1.sit e
    cases d with
    | str x => exact ⟨x, ct_str c, q1 P1 H1 t1 _ (it_str x)⟩
    | _ => exact q1.elim
/-! ### s.join(list) -/
def strsOf : List D → Option (List Str)
  | [] => some []
  | .str x :: r => (strsOf r).map fun xs => x :: xs
  | _ :: _ => none
theorem strs_rep {P : Hp} : ∀ {ds : List D} {vs : List V} {xs : List Str}, strsOf ds = some xs → RpAll P vs ds → vs = xs.map V.str
  | [], _, _, e, .nil => by cases e; rfl
  | d :: ds, _, _, e, .cons a b => by
    cases d with
    | str x =>
      obtain ⟨ys, e1, rfl⟩ := Option.map_eq_some_iff.mp e
      cases a
      rw [strs_rep e1 b]; rfl
    | _ => cases e
def gJoin (d e : D) : Option ORes := match d, e with
  | .str a, .list ds => (match strsOf ds with
    | some xs => if (xs.map (·.length)).sum + xs.length * a.length ≤ 1000000 then some (.val (.str (Txt.join a xs))) else none
    | none => none)
  | _, _ => none
def eJoin (fa fb : Env → Out Res) (r : Env) : Out Res := (fa r).bind fun x r1 => match cont r1 x with
  | some (.str _) => (fb r1).bind fun y r2 => op2 gJoin x y r2
  | _ => .bad
theorem qe_join {b : Expr} {fb : Env → Out Res} {apos : Pos} (h : QE Γ W X a fa) (h' : QE Γ W X b fb) (hs : starEach [b] X.env = [(false, eval b X.env)] := by rfl) (hbase : attributeBase a "join" X.env (eval a X.env) = eval a X.env := by rfl)
    (hline : (apos.endLine == pos.line) = true := by rfl) : QE Γ W X (.Call (.Attribute a "join" apos) [b] [] pos) (eJoin fa fb) := by
  obtain ⟨ta, pa, ka⟩ := h.ex
  obtain ⟨tb, pb, kb⟩ := h'.ex
  refine ⟨_, pe_join pa pb hs hbase hline, fun C hC σ H P r Q S q => ?_⟩
  refine ka C hC σ H P r _ S (Cont.expr (g := fun x r1 => match cont r1 x with
    | some (.str _) => (fb r1).bind fun y r2 => op2 gJoin x y r2
    | _ => .bad) q fun x r1 P1 H1 v t1 hv fv q1 => ?_)
  split at q1
  rotate_left
  · exact q1.elim
  rename_i z ez
  have cz := ct_str (hv.ct t1.sit ez)
  refine ⟨⟨z, cz⟩, ?_⟩
  refine kb C hC σ H1 P1 r1 _ t1.sit (Cont.bind (Cont.from q1 t1) fun y r2 P2 H2 t2 q2 w hw fw => ?_)
  obtain ⟨o, eo, oc⟩ := lfin (Hs := H) t2.sit q2 fun f => f.back (t1.trans t2)
  obtain ⟨d, e, e1, e2, e3⟩ := op2_some eo
  have c1 := (hv.mono t2).ct t2.sit e1
  have c2 := hw.ct t2.sit e2
  unfold gJoin at e3
  split at e3
  · rename_i a' ds
    split at e3
    · rename_i xs ex
      split at e3
      · rename_i hl
        cases e3
        obtain ⟨p, vs, rfl, hp, ra⟩ := ct_lst c2
        have := strs_rep ex ra
        subst this
        exact ⟨a', p, xs, ct_str c1, rfl, .inl (SqL.of hp), by omega, oc_use_str oc⟩
      · cases e3
    · cases e3
  · cases e3
end
end Dn

end
section
/-! Dn36: quiet int(e), quiet if-expressions. -/
namespace Dn
open PySem L2
open PyProof.Rows hiding St
section
variable {prog : Program} {w : World} {Bl : Str → Option Value} {M : List Str} {a b c : Expr} {fa fb : List D → Option D} {fc : List D → Option Bool} {p pos : Pos}
def xInt (fa : List D → Option D) (ρ : List D) : Option D := match fa ρ with
  | some (.int i) => some (.int i)
  | some (.bool b) => some (.int (if b = true then 1 else 0))
  | _ => none
theorem px_toint (hb : Bl "int" = some (.type "int")) (ha : PX prog w Bl M a fa) (hs : ∀ cenv : PySem.Env, starEach [a] cenv = (false, eval a cenv) :: starEach [] cenv := by exact fun _ => rfl) : PX prog w Bl M (.Call (.Name "int" p) [a] [] pos) (xInt fa) := by
  refine ⟨fun cenv h ρ d A E s G hA k e => ?_⟩
  refine Call_ (G.blt "int" _ hb p A _ E s k ?_)
  refine PyProof.Rows.callWith_type1 ?_ (hs cenv) (by rfl)
  rw [hs cenv]
  show wpAny _ _ (spliced ((false, eval a cenv) :: backTo pos (starEach [] cenv))) _ _ s
  unfold xInt at e
  split at e
  · rename_i i ea
    cases e
    refine Calls.spliced_cons (thn (ha.run cenv h ρ _ A E s G hA k ea) fun v s1 ⟨⟨as, r⟩, k1⟩ => Calls.spliced_nil ?_)
    obtain ⟨t, rfl⟩ := rd_int r
    exact call_int_int ⟨⟨_, .int _ _⟩, k1⟩
  · rename_i b ea
    cases e
    refine Calls.spliced_cons (thn (ha.run cenv h ρ _ A E s G hA k ea) fun v s1 ⟨⟨as, r⟩, k1⟩ => Calls.spliced_nil ?_)
    rw [rd_bool r]
    exact call_int_bool ⟨⟨_, by cases b <;> exact .int _ _⟩, k1.tr (GxR.keeps_tok _ _)⟩
  · cases e
def xIf (fc : List D → Option Bool) (fa fb : List D → Option D) (ρ : List D) : Option D := match fc ρ with
  | some true => fa ρ
  | some false => fb ρ
  | none => none
theorem px_if (hc : PXT prog w Bl M c fc) (ha : PX prog w Bl M a fa) (hb : PX prog w Bl M b fb) : PX prog w Bl M (.IfExp c a b pos) (xIf fc fa fb) := by
  refine ⟨fun cenv h ρ d A E s G hA k e => IfExp_ ?_⟩
  unfold xIf at e
  cases ec : fc ρ with
  | none => simp only [ec] at e; cases e
  | some z =>
    simp only [ec] at e
    refine thn (hc.run cenv h ρ z A E s G hA k ec) fun v s1 ⟨hv, k1⟩ => ?_
    subst hv
    cases v with
    | true => exact thn (ha.run cenv h ρ d A E s1 G hA (k.trans k1.ext) e) fun y s2 q => q.mono k1
    | false => exact thn (hb.run cenv h ρ d A E s1 G hA (k.trans k1.ext) e) fun y s2 q => q.mono k1
end
def blInt : Str → Option Value := fun x => if x = "int" then some (.type "int") else none
theorem blInt_int : blInt "int" = some (.type "int") := if_pos rfl
theorem blInt_ok {X : Cx} {scope : Scope} (h1 : scope.names.lookup ("int" : Str) = some NameKind.globalImplicit) (h2 : X.mg "int" = none) : BlOk X scope blInt := fun x v e => by
  unfold blInt at e
  by_cases h : x = "int"
  · subst h
    rw [if_pos rfl] at e; cases e
    exact ⟨h1, h2, bt_int, by decide, by decide⟩
  · rw [if_neg h] at e; cases e
end Dn

end
section
/-! Dn37: readings over things written as data. -/
namespace Dn
open PySem L2
/-- a way to write things as data -/
structure EOk {α : Type} [DecidableEq α] (f : α → D) (n : Nat) : Prop where
  lay : ∀ a, (f a).canLay0 = true
  dep : ∀ a, (f a).depth ≤ n
  eqv : ∀ a b, PyData.eqv (f a) (f b) = decide (a = b)
section
variable {α β : Type} [DecidableEq α] [DecidableEq β] {f : α → D} {g : β → D} {n m : Nat}
theorem EOk.layAll (h : EOk f n) : ∀ xs : List α, PyData.canLayAll0 (xs.map f) = true
  | [] => rfl
  | x :: xs => by show ((f x).canLay0 && PyData.canLayAll0 (xs.map f)) = true; rw [h.lay, EOk.layAll h xs]; rfl
theorem EOk.depAll (h : EOk f n) : ∀ xs : List α, PyData.depthAll (xs.map f) ≤ n
  | [] => Nat.zero_le _
  | x :: xs => by
    show max (f x).depth (PyData.depthAll (xs.map f)) ≤ n
    have := h.dep x
    have := EOk.depAll h xs
    omega
theorem EOk.eqvAll (h : EOk f n) : ∀ xs ys : List α, PyData.eqvAll (xs.map f) (ys.map f) = decide (xs = ys)
  | [], [] => rfl
  | [], y :: ys => by simp [PyData.eqvAll]
  | x :: xs, [] => by simp [PyData.eqvAll]
  | x :: xs, y :: ys => by
    show (PyData.eqv (f x) (f y) && PyData.eqvAll (xs.map f) (ys.map f)) = _
    rw [h.eqv, EOk.eqvAll h xs ys]
    simp
theorem eok_int : EOk (fun i : Int => (PyData.int i : D)) 0 := ⟨fun _ => rfl, fun _ => Nat.le_refl _, fun a b => by simp [PyData.eqv]; rfl⟩
theorem eok_bool : EOk (fun i : Bool => (PyData.bool i : D)) 0 := ⟨fun _ => rfl, fun _ => Nat.le_refl _, fun a b => by cases a <;> cases b <;> rfl⟩
theorem EOk.lst (h : EOk f n) : EOk (fun xs : List α => (PyData.list (xs.map f) : D)) (n + 1) := ⟨fun xs => h.layAll xs, fun xs => Nat.succ_le_succ (h.depAll xs), fun a b => h.eqvAll a b⟩
theorem EOk.tup (h : EOk f n) : EOk (fun xs : List α => (PyData.tuple (xs.map f) : D)) (n + 1) := ⟨fun xs => h.layAll xs, fun xs => Nat.succ_le_succ (h.depAll xs), fun a b => h.eqvAll a b⟩
theorem EOk.pair (h : EOk f n) (h' : EOk g m) : EOk (fun p : α × β => (PyData.tuple [f p.1, g p.2] : D)) (max n m + 1) := by
  refine ⟨fun p => ?_, fun p => ?_, fun a b => ?_⟩
  · show ((f p.1).canLay0 && ((g p.2).canLay0 && true)) = true
    rw [h.lay, h'.lay]; rfl
  · show max (f p.1).depth (max (g p.2).depth 0) + 1 ≤ _
    have := h.dep p.1
    have := h'.dep p.2
    omega
  · show (PyData.eqv (f a.1) (f b.1) && (PyData.eqv (g a.2) (g b.2) && true)) = _
    rw [h.eqv, h'.eqv, Bool.and_true]
    obtain ⟨a1, a2⟩ := a
    obtain ⟨b1, b2⟩ := b
    simp
theorem EOk.shaped (h : EOk f n) (hn : n ≤ 64) (a : α) : SeqAt.shaped (f a) = true := by
  unfold SeqAt.shaped
  rw [h.lay, Bool.true_and, decide_eq_true_eq]
  exact Nat.le_trans (h.dep a) hn
theorem eq_e (h : EOk f n) (hn : n ≤ 64) (a b : α) : gEq (f a) (f b) = some (.val (.bool (decide (a = b)))) := by
  have e1 : gEqv true (f a) (f b) = some (.val (.bool (decide (a = b)))) := by
    unfold gEqv
    rw [if_pos ⟨h.shaped hn a, h.shaped hn b⟩, h.eqv]; simp
  unfold gEq oelse
  split
  · rename_i o eo
    obtain ⟨i, j, z, e2, e3, e4, rfl⟩ := ig_inv eo
    cases e4
    have := h.eqv a b
    rw [e2, e3] at this
    rw [← this]; rfl
  · exact e1
theorem ne_e (h : EOk f n) (hn : n ≤ 64) (a b : α) : gNe (f a) (f b) = some (.val (.bool (!decide (a = b)))) := by
  have e1 : gEqv false (f a) (f b) = some (.val (.bool (!decide (a = b)))) := by
    unfold gEqv
    rw [if_pos ⟨h.shaped hn a, h.shaped hn b⟩, h.eqv]; simp
  unfold gNe oelse
  split
  · rename_i o eo
    obtain ⟨i, j, z, e2, e3, e4, rfl⟩ := ig_inv eo
    cases e4
    have := h.eqv a b
    rw [e2, e3] at this
    rw [← this]; rfl
  · exact e1
theorem any_e (h : EOk f n) (a : α) : ∀ xs : List α, (xs.map f).any (fun z => PyData.eqv z (f a)) = decide (a ∈ xs)
  | [] => by simp
  | x :: xs => by
    rw [List.map_cons, List.any_cons, any_e h a xs, h.eqv]
    by_cases q : x = a
    · subst q; simp
    · have q' : a ≠ x := fun e => q e.symm
      simp [q, q']
theorem in_el (h : EOk f n) (hn : n ≤ 64) (k : Bool) (a : α) (xs : List α) : gInS k (f a) (.list (xs.map f)) = some (.val (.bool (decide (a ∈ xs) == k))) := by
  show (if (f a).canLay0 = true ∧ PyData.canLayAll0 (xs.map f) = true ∧ (f a).depth ≤ 64 then some (ORes.val (PyData.bool (((xs.map f).any fun z => PyData.eqv z (f a)) == k))) else none) = _
  rw [if_pos ⟨h.lay a, h.layAll xs, Nat.le_trans (h.dep a) hn⟩, any_e h]
theorem in_et (h : EOk f n) (hn : n ≤ 64) (k : Bool) (a : α) (xs : List α) : gInS k (f a) (.tuple (xs.map f)) = some (.val (.bool (decide (a ∈ xs) == k))) := by
  show (if (f a).canLay0 = true ∧ PyData.canLayAll0 (xs.map f) = true ∧ (f a).depth ≤ 64 then some (ORes.val (PyData.bool (((xs.map f).any fun z => PyData.eqv z (f a)) == k))) else none) = _
  rw [if_pos ⟨h.lay a, h.layAll xs, Nat.le_trans (h.dep a) hn⟩, any_e h]
end
section
variable {α : Type} {f : α → D}
theorem len_l (xs : List α) : gLen (.list (xs.map f)) = some (.val (.int xs.length)) := by show some (ORes.val (PyData.int ((xs.map f).length : Nat))) = _; rw [List.length_map]
theorem len_t (xs : List α) : gLen (.tuple (xs.map f)) = some (.val (.int xs.length)) := by show some (ORes.val (PyData.int ((xs.map f).length : Nat))) = _; rw [List.length_map]
theorem at_n {xs : List D} {i : Nat} {a : D} (h : xs[i]? = some a) : atI xs (i : Int) = some a := by
  have l := (List.getElem?_eq_some_iff.mp h).1
  unfold atI ixN
  rw [if_pos (by omega), if_pos (by omega)]
  simpa using h
theorem ix_l {xs : List α} {i : Nat} {a : α} (h : xs[i]? = some a) : gIx (.list (xs.map f)) (.int i) = some (.val (f a)) := by
  show (atI (xs.map f) (i : Int)).map ORes.val = _
  rw [at_n (a := f a) (by rw [List.getElem?_map, h]; rfl)]; rfl
theorem ix_t {xs : List α} {i : Nat} {a : α} (h : xs[i]? = some a) : gIx (.tuple (xs.map f)) (.int i) = some (.val (f a)) := by
  show (atI (xs.map f) (i : Int)).map ORes.val = _
  rw [at_n (a := f a) (by rw [List.getElem?_map, h]; rfl)]; rfl
/-- the last -/
theorem ix_last {xs : List α} {a : α} (h : xs.getLast? = some a) : gIx (.tuple (xs.map f)) (.int (-1)) = some (.val (f a)) := by
  have l : xs ≠ [] := fun e => by rw [e] at h; cases h
  have l2 : 0 < xs.length := List.length_pos_iff.mpr l
  show (atI (xs.map f) (-1)).map ORes.val = _
  unfold atI ixN
  rw [if_neg (by omega), List.length_map, if_pos (by omega)]
  have e : ((-1 : Int) + (xs.length : Int)).toNat = xs.length - 1 := by omega
  show ((xs.map f)[((-1 : Int) + (xs.length : Int)).toNat]?).map ORes.val = _
  rw [e, List.getElem?_map, ← List.getLast?_eq_getElem?, h]; rfl
theorem ix_p0 (a b : D) : gIx (.tuple [a, b]) (.int 0) = some (.val a) := rfl
theorem ix_p1 (a b : D) : gIx (.tuple [a, b]) (.int 1) = some (.val b) := rfl
theorem rngL_eq : ∀ (lo : Int) (n : Nat), rngL lo n = (List.range n).map fun (k : Nat) => PyData.int (lo + (k : Int))
  | _, 0 => rfl
  | lo, n + 1 => by
    rw [rngL, rngL_eq (lo + 1) n, List.range_succ_eq_map, List.map_cons, List.map_map]
    congr 1
    · simp
    · apply List.map_congr_left
      intro k _
      show PyData.int (lo + 1 + (k : Int)) = PyData.int (lo + ((k + 1 : Nat) : Int))
      congr 1; omega
end
/-! ### the best of ints -/
theorem best_ints (ns : List Int) : bestB (ns.map PyData.int) = true := by
  unfold bestB
  have h1 : alikeB (ns.map PyData.int) = true := by
    unfold alikeB
    rw [List.all_eq_true]
    intro d hd
    rw [List.all_eq_true]
    intro e he
    obtain ⟨i, _, rfl⟩ := List.mem_map.mp hd
    obtain ⟨j, _, rfl⟩ := List.mem_map.mp he
    rfl
  have h2 : notNoneB (ns.map PyData.int) = true := by
    unfold notNoneB
    rw [List.all_eq_true]
    intro d hd
    obtain ⟨i, _, rfl⟩ := List.mem_map.mp hd
    rfl
  have h3 : depthB (ns.map PyData.int) = true := by
    unfold depthB
    rw [List.all_eq_true]
    intro d hd
    obtain ⟨i, _, rfl⟩ := List.mem_map.mp hd
    rfl
  rw [h1, h2, h3]; rfl
theorem max_l (n : Int) (ns : List Int) : gBest PySem.W.maxD (.list ((n :: ns).map .int)) = some (.val (.int (ns.foldl max n))) := by
  show (if bestB ((n :: ns).map PyData.int) = true then some (ORes.val (PySem.W.maxD (.int n) (ns.map .int))) else none) = _
  rw [if_pos (best_ints _), PySem.W.maxD_ints]
theorem max_t (n : Int) (ns : List Int) : gBest PySem.W.maxD (.tuple ((n :: ns).map .int)) = some (.val (.int (ns.foldl max n))) := by
  show (if bestB ((n :: ns).map PyData.int) = true then some (ORes.val (PySem.W.maxD (.int n) (ns.map .int))) else none) = _
  rw [if_pos (best_ints _), PySem.W.maxD_ints]
theorem min_l (n : Int) (ns : List Int) : gBest PySem.W.minD (.list ((n :: ns).map .int)) = some (.val (.int (ns.foldl min n))) := by
  show (if bestB ((n :: ns).map PyData.int) = true then some (ORes.val (PySem.W.minD (.int n) (ns.map .int))) else none) = _
  rw [if_pos (best_ints _), PySem.W.minD_ints]
theorem min_t (n : Int) (ns : List Int) : gBest PySem.W.minD (.tuple ((n :: ns).map .int)) = some (.val (.int (ns.foldl min n))) := by
  show (if bestB ((n :: ns).map PyData.int) = true then some (ORes.val (PySem.W.minD (.int n) (ns.map .int))) else none) = _
  rw [if_pos (best_ints _), PySem.W.minD_ints]
theorem intsD_map : ∀ ns : List Int, intsD (ns.map PyData.int) = some ns
  | [] => rfl
  | n :: ns => by show (intsD (ns.map PyData.int)).map (n :: ·) = _; rw [intsD_map ns]; rfl
theorem sum_l (ns : List Int) : gSum (.list (ns.map .int)) = some (.val (.int ns.sum)) := by show (intsD (ns.map PyData.int)).map _ = _; rw [intsD_map]; rfl
theorem sum_t (ns : List Int) : gSum (.tuple (ns.map .int)) = some (.val (.int ns.sum)) := by show (intsD (ns.map PyData.int)).map _ = _; rw [intsD_map]; rfl
theorem add_i (i j : Int) : gAdd (.int i) (.int j) = some (.val (.int (i + j))) := rfl
theorem sub_i (i j : Int) : Dn.gSub (.int i) (.int j) = some (.val (.int (i - j))) := rfl
theorem eq_i (i j : Int) : gEq (.int i) (.int j) = some (.val (.bool (decide (i = j)))) := rfl
theorem ne_i (i j : Int) : gNe (.int i) (.int j) = some (.val (.bool (!decide (i = j)))) := rfl
theorem max2_i (i j : Int) : gMax2 (.int i) (.int j) = some (.val (.int (if j > i then j else i))) := rfl
theorem rs1 (d : D) : (ORes.val d).res = .fz d := rfl
theorem rs2 (d : List D) : (ORes.newL d).res = .ow (.list d) := rfl
theorem rs3 (d : List D) : (ORes.newT d).res = .fz (.tuple d) := rfl
/-! ### comprehensions that change nothing -/
theorem back_wipeA (vs : List Nat) : ∀ (k : Nat) (r : Env), backA vs k r (wipeA vs k r) = r
  | k, [] => by simp [wipeA, backA]
  | k, s :: r => by
    unfold wipeA backA
    rw [back_wipeA vs (k + 1) r]
    by_cases h : vs.contains k = true
    · rw [if_pos h]
    · rw [if_neg h, if_neg h]
theorem back_wipe (vs : List Nat) (r : Env) : backE vs r (wipeE vs r) = r := back_wipeA vs 0 r
theorem lcD_pure {vs : List Nat} {G : D → Env → Option Env} {ft : Env → Out Bool} {fe : Env → Out Res} {r : Env} {p : D → Bool} {g : D → D} : ∀ {ds acc : List D}, acc.length + ds.length ≤ 100000 →
    (∀ d ∈ ds, ∃ rd, G d r = some rd ∧ ft rd = .ok (p d) rd ∧ (p d = true → ∃ x, fe rd = .ok x rd ∧ stl x rd = .ok (g d) rd) ∧ wipeE vs rd = r) → lcD G ft fe vs ds acc r = .ok (acc ++ (ds.filter p).map g) r
  | [], acc, _, _ => by simp [lcD]
  | d :: ds, acc, hl, h => by
    obtain ⟨rd, h1, h2, h3, h4⟩ := h d List.mem_cons_self
    have hl2 : acc.length + (ds.length + 1) ≤ 100000 := hl
    unfold lcD
    simp only [h1, h2]
    cases hp : p d with
    | false =>
      simp only [Bool.false_eq_true, if_false, h4]
      rw [lcD_pure (acc := acc) (by omega) fun e he => h e (List.mem_cons_of_mem _ he), List.filter_cons_of_neg (by simp [hp])]
    | true =>
      obtain ⟨x, h5, h6⟩ := h3 hp
      simp only [if_true, h5, h6]
      rw [if_pos (by omega), h4, lcD_pure (acc := acc ++ [g d]) (by simp; omega) fun e he => h e (List.mem_cons_of_mem _ he), List.filter_cons_of_pos hp]
      simp
theorem lc_pure {vs : List Nat} {fi : Env → Out (List D)} {G : D → Env → Option Env} {ft : Env → Out Bool} {fe : Env → Out Res} {r : Env} {ds : List D} {p : D → Bool} {g : D → D} (hi : fi r = .ok ds r) (hc : clearB vs r = true) (hl : ds.length ≤ 100000)
    (h : ∀ d ∈ ds, ∃ rd, G d (wipeE vs r) = some rd ∧ ft rd = .ok (p d) rd ∧ (p d = true → ∃ x, fe rd = .ok x rd ∧ stl x rd = .ok (g d) rd) ∧ wipeE vs rd = wipeE vs r) : eLc vs fi G ft fe r = .ok (.ow (.list ((ds.filter p).map g))) r := by
  unfold eLc
  rw [hi]
  show (if clearB vs r = true then (match lcD G ft fe vs ds [] (wipeE vs r) with
    | .ok ds r2 => (.ok (.ow (.list ds)) (backE vs r r2) : Out Res)
    | _ => .bad) else .bad) = _
  rw [if_pos hc, lcD_pure (by simpa using hl) h, List.nil_append]
  show Out.ok _ (backE vs r (wipeE vs r)) = _
  rw [back_wipe]
/-- over a range, one name -/
theorem lc_range {i : Nat} {fi : Env → Out (List D)} {ft : Env → Out Bool} {fe : Env → Out Res} {r : Env} {lo : Int} {n : Nat} {p : Int → Bool} {g : Int → D} (hi : fi r = .ok (rngL lo n) r) (hc : clearB [i] r = true) (hl : n ≤ 100000)
    (h : ∀ k : Int, lo ≤ k → k < lo + n → ft ((wipeE [i] r).set i (.fz (.int k))) = .ok (p k) ((wipeE [i] r).set i (.fz (.int k))) ∧ (p k = true → ∃ x, fe ((wipeE [i] r).set i (.fz (.int k))) = .ok x ((wipeE [i] r).set i (.fz (.int k))) ∧ stl x ((wipeE [i] r).set i (.fz (.int k))) = .ok (g k) ((wipeE [i] r).set i (.fz (.int k)))))
    (hw : ∀ s, wipeE [i] ((wipeE [i] r).set i s) = wipeE [i] r) :
    eLc [i] fi (gN i) ft fe r = .ok (.ow (.list ((((List.range n).map fun (k : Nat) => lo + (k : Int)).filter p).map g))) r := by
  have key := lc_pure (vs := [i]) (G := gN i) (ft := ft) (fe := fe) (p := fun d => match d with | .int k => p k | _ => false) (g := fun d => match d with | .int k => g k | _ => .none) hi hc (by rw [rngL_len]; exact hl) (fun d hd => by
    rw [rngL_eq, List.mem_map] at hd
    obtain ⟨k, hk, rfl⟩ := hd
    have hk := List.mem_range.mp hk
    obtain ⟨h1, h2⟩ := h (lo + (k : Int)) (by omega) (by omega)
    exact ⟨_, rfl, h1, h2, hw _⟩)
  rw [key]
  congr 3
  rw [rngL_eq, List.filter_map, List.map_map, List.filter_map, List.map_map]
  rfl
theorem filter_tt {α : Type} (l : List α) : l.filter (fun _ => true) = l := by simp
/-! ### one row after another -/
section
variable {f g : Env → Out Fl} {c : Env → Out Bool} {fe fe' : Env → Out Res} {r r1 r2 : Env} {x y : Res} {d e : D} {o : ORes} {i : Nat}
theorem seq_nx (h : f r = .ok .nx r1) : dSeq f g r = g r1 := by unfold dSeq; rw [h]; rfl
theorem seq_rt (h : f r = .ok (.rt x) r1) : dSeq f g r = .ok (.rt x) r1 := by unfold dSeq; rw [h]; rfl
theorem seq_exn {e : Ex} (h : f r = .exn e r1) : dSeq f g r = .exn e r1 := by unfold dSeq; rw [h]; rfl
theorem sif_t (h : c r = .ok true r1) : sIf c f g r = f r1 := by unfold sIf; rw [h]; rfl
theorem sif_f (h : c r = .ok false r1) : sIf c f g r = g r1 := by unfold sIf; rw [h]; rfl
theorem sret_of (h : fe r = .ok x r1) : sRet fe r = .ok (.rt x) r1 := by unfold sRet; rw [h]; rfl
theorem op1_of {g : D → Option ORes} (h : fe r = .ok x r1) (hc : cont r1 x = some d) (hg : g d = some o) : eOp1 g fe r = .ok o.res r1 := by unfold eOp1; rw [h]; show lift (sole (cont r1 x) g) r1 = _; rw [hc, sole_some, hg]; rfl
theorem op2_of {g : D → D → Option ORes} (h : fe r = .ok x r1) (h' : fe' r1 = .ok y r2) (hc : cont r2 x = some d) (hc' : cont r2 y = some e) (hg : g d e = some o) : eOp2 g fe fe' r = .ok o.res r2 := by
  unfold eOp2; rw [h]; show ((fe' r1).bind fun b r2 => op2 g x b r2) = _; rw [h']; show lift (both (cont r2 x) (cont r2 y) g) r2 = _; rw [hc, hc', both_some, hg]; rfl
theorem test_b {b : Bool} (h : fe r = .ok x r1) (hc : cont r1 x = some (.bool b)) : eTest fe r = .ok b r1 := by unfold eTest; rw [h]; show tst x r1 = _; unfold tst; rw [hc]
theorem set_of (h : fe r = .ok x r1) : sSet i fe r = put i x r1 := by unfold sSet; rw [h]; rfl
theorem set_fz (h : fe r = .ok (.fz d) r1) : sSet i fe r = .ok .nx (r1.set i (.fz d)) := by rw [set_of h]; rfl
theorem set_ow (h : fe r = .ok (.ow d) r1) : sSet i fe r = .ok .nx (r1.set i (.ow d)) := by rw [set_of h]; rfl
theorem for_of {fi : Env → Out (List D)} {G : D → Env → Option Env} {ds : List D} (h : fi r = .ok ds r1) : sFor fi G f r = loopD G f ds r1 := by unfold sFor; rw [h]; rfl
theorem tnot_of {b : Bool} (h : c r = .ok b r1) : tNotD c r = .ok (!b) r1 := by unfold tNotD; rw [h]; rfl
theorem tor_t {c' : Env → Out Bool} (h : c r = .ok true r1) : tOrD c c' r = .ok true r1 := by unfold tOrD; rw [h]; rfl
theorem tor_f {c' : Env → Out Bool} (h : c r = .ok false r1) : tOrD c c' r = c' r1 := by unfold tOrD; rw [h]; rfl
theorem tand_t {c' : Env → Out Bool} (h : c r = .ok true r1) : tAndD c c' r = c' r1 := by unfold tAndD; rw [h]; rfl
theorem tand_f {c' : Env → Out Bool} (h : c r = .ok false r1) : tAndD c c' r = .ok false r1 := by unfold tAndD; rw [h]; rfl
end
/-- a loop, its state written as s -/
theorem loop_fold {α S : Type} {G : D → Env → Option Env} {b : Env → Out Fl} {E : S → Env} {f : α → D} {step : S → α → S} : ∀ (xs : List α) (s : S) (Iv : S → Prop), Iv s → (∀ s a, Iv s → a ∈ xs → ∃ r1, G (f a) (E s) = some r1 ∧ b r1 = .ok .nx (E (step s a)) ∧ Iv (step s a)) →
    loopD G b (xs.map f) (E s) = .ok .nx (E (xs.foldl step s)) ∧ Iv (xs.foldl step s)
  | [], s, Iv, hi, _ => ⟨rfl, hi⟩
  | a :: xs, s, Iv, hi, h => by
    obtain ⟨r1, h1, h2, h3⟩ := h s a hi List.mem_cons_self
    obtain ⟨h4, h5⟩ := loop_fold (G := G) (b := b) (E := E) (f := f) (step := step) xs (step s a) Iv h3 fun s a hi ha => h s a hi (List.mem_cons_of_mem _ ha)
    refine ⟨?_, h5⟩
    rw [List.map_cons]
    unfold loopD
    rw [h1]
    show (match b r1 with
      | .ok .nx r2 => loopD G b (xs.map f) r2
      | .ok .ct r2 => loopD G b (xs.map f) r2
      | .ok .bk r2 => .ok .nx r2
      | .ok (.rt x) r2 => .ok (.rt x) r2
      | .exn e r2 => .exn e r2
      | .bad => .bad) = _
    rw [h2]
    exact h4
end Dn

end
section
/-! Dn38: an own exception whose __init__ says super().__init__(text); self.f = its one argument. -/
namespace Dn
open PySem L2 PySem.W PySem.Calls
/-- the written __init__ -/
structure PD where
  (qual self part f txt : Str)
  (params : Arguments)
  (scope : Scope)
  (j : Nat)
  (p0 p1 p2 p3 p4 p5 q1 q2 q3 q4 : Pos)
abbrev PD.sup (d : PD) : Expr := .Call (.Attribute (.Call (.Name "super" d.p0) [] [] d.p1) "__init__" d.p2) [.Constant (.str d.txt) d.j d.p3] [] d.p4
abbrev PD.body (d : PD) : List Stmt := [.Expr d.sup d.p5, .Assign [.Attribute (.Name d.self d.q1) d.f d.q2] (.Name d.part d.q3) d.q4]
abbrev PD.fd (d : PD) (cc cda : Addr) (kV doc pm ct : Value) (an : Option Addr) : FuncData := fnX "__init__" d.qual d.params d.body d.scope [("__class__", cc)] .none kV doc pm an (.ref cda) ct
/-- what the text alone says -/
structure PDOk (d : PD) : Prop where
  hd : ∃ ar, (d.params.posonlyargs ++ d.params.args).head? = some ar ∧ ar.arg = d.self
  bind : ∀ (cc cda : Addr) (kV doc pm ct : Value) (an : Option Addr) (u v : Value), bindArgs (d.fd cc cda kV doc pm ct an) ⟨[u, v], []⟩ = pure [(d.self, u), (d.part, v)]
  ev : ∀ (cc cda : Addr) (kV doc pm ct : Value) (an : Option Addr) (L a : Addr), ∃ pl : Sem Bool, eval d.sup (callEnv (d.fd cc cda kV doc pm ct an) L a) = (do
      let ov ← attributeBase (.Call (.Name "super" d.p0) [] [] d.p1) "__init__" (callEnv (d.fd cc cda kV doc pm ct an) L a) (eval (.Call (.Name "super" d.p0) [] [] d.p1) (callEnv (d.fd cc cda kV doc pm ct an) L a))
      standAt d.p2.atName
      let (f, first) ← holding [ov] (getMethod ov "__init__" pl)
      callWith d.p4 f first (backTo d.p4 (starEach [.Constant (.str d.txt) d.j d.p3] (callEnv (d.fd cc cda kV doc pm ct an) L a))) [])
  st : ∀ (cc cda : Addr) (kV doc pm ct : Value) (an : Option Addr) (L a : Addr), swapsWith d.sup none d.p5.line (callEnv (d.fd cc cda kV doc pm ct an) L a) = pure false ∧ swapsWith (.Name d.part d.q3) (some (.Attribute (.Name d.self d.q1) d.f d.q2)) d.q4.line (callEnv (d.fd cc cda kV doc pm ct an) L a) = pure false ∧ interactive (callEnv (d.fd cc cda kV doc pm ct an) L a) = false
  s1 : d.scope.names.lookup ("super" : Str) = some .globalImplicit
  s2 : d.scope.names.lookup ("__class__" : Str) = some .free
  s3 : d.scope.names.lookup d.self = some .local
  s4 : d.scope.names.lookup d.part = some .local
  k : d.scope.kind = .function
  co : d.scope.isCoroutine = false
  gen : d.scope.isGenerator = false
  cell : ∀ x ∈ d.scope.names, x.2 ≠ .cell
  ne : d.self ≠ d.part
  d1 : (d.self == ("__debug__" : Str)) = false
  d2 : (d.part == ("__debug__" : Str)) = false
/-- what the written part says of the class at C -/
structure PaperC (K : PySem.W.Frag) (prog : Program) (C : Addr) (d : PD) : Prop where
  q : excInitIn K C He.veBase "ValueError.__new__" = true
  mro : ∃ cd, clsIn K C = some cd ∧ PySem.HandSPX.refsVE cd.mro = true ∧ cd.hasDict = true
  sa : findIn K (.ref C) "__setattr__" = some (some (.builtin "object.__setattr__"))
  no : findIn K (.ref C) d.f = some none
  fn : ∃ (fI cc cda : Addr) (kV doc pm ct oc ccl cld2 : Value) (od cdd cld an : Option Addr) (osl ccs csl : Array (Option Value)) (vs : Array Value) (file : Str) (tf : Tok),
    findIn K (.ref C) "__init__" = some (some (.ref fI)) ∧ typeIn K (.ref fI) = some (.type "function") ∧
    K.lookup fI = some ⟨oc, od, .func (d.fd cc cda kV doc pm ct an), osl⟩ ∧
    codeIn K (.ref cda) d.qual = true ∧
    K.lookup cda = some ⟨ccl, cdd, .fields vs, ccs⟩ ∧ vs[2]? = some (.str file tf) ∧ ((prog.main.file : Str) == file) = true ∧
    K.lookup cc = some ⟨cld2, cld, .cell (some (.ref C)), csl⟩
  sup : ks_superIn K C C "__init__" = some (some (.builtin "ValueError.__init__"))
  sub : mroIn K C (.ref C) = some true
  ve : subIn K (.ref C) (.type "ValueError") = some true
  opq : nsIn K cStatics "thirdparty.any" = some none
  nos : nsIn K mainGlobals "super" = some none
  top : (prog.main.scope.names.lookup ("super" : Str)).isSome = false
  kC : keepIn K (.ref C) = true
section
variable {prog : Program} {w : World} {A : Around} {E : Value → Shared → Prop} {K : PySem.W.Frag} {mg : Str → Option Value} {base : Heap} {C : Addr} {p : PD}
/-- C(u) -/
theorem paper_call {u : Value} {s : Shared} {Q : Value → Shared → Prop} (O : PDOk p) (T : PaperC K prog C p) (M : Mod K mg base) (bk : ∀ b o, base.get? b = some o → s.heap.get? b = some o) (hr : Room 1 A)
    (hq : ∀ h' dx t1 tk, (∀ b o, s.heap.get? b = some o → h'.get? b = some o) → h'.get? (s.heap.objs.size + 1) = some (excObj C t1 (some dx) .none) → Q (.ref (s.heap.objs.size + 1)) ⟨h', s.gens, s.drawn, tk, s.os⟩) :
    wpAny (model prog w) A (call (.ref C) [u]) Q E s := by
  have X : K.In s.heap := M.kin.keeps bk
  obtain ⟨nm, N, qn, bs, bm, hdct, sn, sub, ab, col, dd, k0, k1, k2, k3, k5, hC, hT⟩ := excInit_of X T.q
  obtain ⟨cd, hcd, hmr, hdc⟩ := T.mro
  obtain ⟨fI, cc, cda, kV, doc, pm, ct, oc, ccl, cld2, od, cdd, cld, an, osl, ccs, csl, vs, file, tf, iC, tI, lk, cdI, lc, hvs, hfile, lcc⟩ := T.fn
  obtain ⟨ar, hhd, har⟩ := O.hd
  obtain ⟨hp, g, dr, tk, os⟩ := s
  have kk : ∀ b o, hp.get? b = some o → ((hp.push (PySem.W.kdv_tup [u])).push (PySem.HandSPX.excO C hp.objs.size)).get? b = some o := fun b o e => Heap.get?_push_of_some _ (Heap.get?_push_of_some _ e)
  have hget : ((hp.push (PySem.W.kdv_tup [u])).push (PySem.HandSPX.excO C hp.objs.size)).get? (hp.objs.size + 1) = some (PySem.HandSPX.excO C hp.objs.size) := by heap_get
  refine wpAny_call (PySem.HandSPX.call_own F.excBase_ValueError hT hC (PySem.W.looks_findIn X iC) (fun z => PySem.W.bind_fn X z tI) (by rw [sizeLine_eq]; show 1 ≤ _; decide) ?_)
  generalize hh1 : (hp.push (PySem.W.kdv_tup [u])).push (PySem.HandSPX.excO C hp.objs.size) = h1 at kk hget
  have hlt : hp.objs.size + 1 < h1.objs.size := Heap.lt_size hget
  refine ks_codeAny_call_defAt (binds := [(p.self, .ref (hp.objs.size + 1)), (p.part, u)]) (by have := (hr.make C [u] []).dp; omega) (kk _ _ (X _ _ lk)) rfl ((M.nolimit.keeps bk).keeps kk) (codeRec_of (X.keeps kk) cdI) rfl (BindsTo.of_eq (O.bind _ _ _ _ _ _ _ _ _)) O.cell (fun x hx => ?_) (fun h2 hns k2 => ?_) O.co O.gen O.k
  · rcases List.mem_cons.mp hx with rfl | hx
    · exact O.s3
    · rcases List.mem_cons.mp hx with rfl | hx
      · exact O.s4
      · cases hx
  have X2 : K.In h2 := (X.keeps kk).keeps k2
  have e2 := k2 _ _ hget
  obtain ⟨oD, hD1, hD2⟩ : ∃ oD, h2.get? C = some oD ∧ oD.data = .cls cd := by
    have hcd' := hcd
    unfold clsIn at hcd'
    split at hcd'
    · rename_i c d cd' sl ho
      cases hcd'
      exact ⟨_, X2 _ _ ho, rfl⟩
    · cases hcd'
  have m1 : (fun x => [(p.self, Value.ref (hp.objs.size + 1)), (p.part, u)].reverse.lookup x) p.self = some (.ref (hp.objs.size + 1)) := by
    have : (p.self == p.part) = false := by simpa using O.ne
    simp [List.lookup, this]
  have m2 : (fun x => [(p.self, Value.ref (hp.objs.size + 1)), (p.part, u)].reverse.lookup x) p.part = some u := by simp [List.lookup]
  obtain ⟨mb, hmb1, hmb2⟩ := M.blt
  have gk : ∀ b o, base.get? b = some o → h2.get? b = some o := fun b o z => k2 _ _ (kk _ _ (bk _ _ z))
  obtain ⟨pl, hev⟩ := O.ev cc cda kV doc pm ct an h1.objs.size fI
  obtain ⟨hs1, hs2, hs3⟩ := O.st cc cda kV doc pm ct an h1.objs.size fI
  refine ks_wpAt_execs_cons (ks_wpAt_Expr_any (hi := hs3) (hs := hs1) (ks_wpAt_MethodCall (he := hev) (ks_wpAt_super_base O.s1 O.s2 rfl rfl (X2 _ _ lk) rfl hhd rfl (X2 _ _ lc) rfl hvs hfile T.top ?_)))
  refine ks_loadName_global O.k O.s1 (loadGlobal_builtin (M.glob.keeps gk) (mg_none_of M.kin M.glob T.nos) (hmb1.keeps gk) ((hmb2 _ (by decide +kernel)).trans (by decide +kernel)) ⟨rfl, ?_⟩)
  refine wpAny_loadName_free O.k O.s2 rfl ⟨_, X2 _ _ lcc, rfl⟩ ?_
  rw [har]
  refine wpAny_loadName_local O.k O.s3 hns m1 ?_
  refine ks_wpAny_isType_cls hD1 hD2 ⟨rfl, ?_⟩
  refine ks_wpAny_call_super hD1 hD2 e2 rfl (fun c z => nomatch z) (looks_mroIn X2 T.sub) (fun h3 e3 k3 => ?_)
  have X3 : K.In h3 := X2.keeps k3
  have I3 : InstAt h3 (hp.objs.size + 1) (PySem.HandSPX.excO C hp.objs.size) C none := ⟨k3 _ _ e2, rfl, rfl, trivial⟩
  have hsu := T.sup
  unfold ks_superIn at hsu
  rw [hcd] at hsu
  refine kxs_getMethod kxs_ValueError e3 (looks_opaque X3 T.opq) (l₀ := cd.mro) (fun A Q E s k q => wpAny_bind ((looks_clsIn X3 hcd) A _ E s k (wpAny_pure q))) rfl X3 hsu (I3.type.andThen (looks_subIn X3 T.ve)) (ks_ne X3 I3 hcd) rfl ?_
  have k4 : ∀ b o, h3.get? b = some o → (h3.push (kxs_mw "ValueError.__init__" (hp.objs.size + 1))).get? b = some o := fun b o z => Heap.get?_push_of_some _ z
  have e4 : (h3.push (kxs_mw "ValueError.__init__" (hp.objs.size + 1))).get? h3.objs.size = some (kxs_mw "ValueError.__init__" (hp.objs.size + 1)) := Heap.get?_push_at rfl rfl
  generalize h3.push (kxs_mw "ValueError.__init__" (hp.objs.size + 1)) = h4 at k4 e4
  have X4 : K.In h4 := X3.keeps k4
  refine kxs_callWith (i := "ValueError.__init__") (x := hp.objs.size + 1) rfl (evalArgs_plain (spliced_cons (Constant_str (k := p.j) (pos := p.p3) (spliced_nil ⟨e4, ?_⟩))))
  have he4 : h4.get? (hp.objs.size + 1) = some (excObj C hp.objs.size none .none) := k4 _ _ (k3 _ _ e2)
  refine wpAny_call (codeAny_of_tree ?_)
  show wpAny _ _ (callAny (.ref h3.objs.size) ⟨[.str p.txt _], []⟩) _ _ _
  simp only [callAny]
  refine wpAny_bind (wpAny_load e4 ?_)
  simp only [kxs_mw, show (Value.type "method-wrapper" == Value.type "method" || Value.type "method-wrapper" == Value.type "builtin_function_or_method" || Value.type "method-wrapper" == Value.type "method-wrapper") = true by decide, if_true]
  refine KFB.if_so (by decide) ?_
  refine wpAny_bind (check_bound_init F.excBase_ValueError.toExcCallFacts (k4 _ _ (k3 _ _ (k2 _ _ (kk _ _ hC)))) he4 rfl ?_)
  refine wpAny_bind (wpAny_pure (wpAny_pure ?_))
  refine ⟨plainId_quiet F.excBase_ValueError.init.plain _, codeAny_builtin F.excBase_ValueError.initEntry ?_⟩
  refine exc_init_tree (cls := .ref C) (t0 := hp.objs.size) (dv := none) (c2 := .none) (c3 := .none) (b4 := .bool false) he4 (by rw [sizeLine_eq]; show 1 ≤ _; decide) (fun h5 k5 e5 _ => ?_)
  have ne : ∀ {b : Addr} {o : Obj}, hp.get? b = some o → b ≠ hp.objs.size + 1 := fun z => Nat.ne_of_lt (Nat.lt_succ_of_lt (Heap.lt_size z))
  have X5 : K.In h5 := fun b o z => k5 b o (ne (X b o z)) (X4 b o z)
  have hns5 : ∃ m', h5.Ns h1.objs.size m' ∧ m' p.self = some (.ref (hp.objs.size + 1)) ∧ m' p.part = some u := by
    obtain ⟨oL, es, ep, hL, r⟩ := hns
    exact ⟨_, ⟨oL, es, ep, k5 _ _ (by show h1.objs.size ≠ _; omega) (k4 _ _ (k3 _ _ hL)), r⟩, m1, m2⟩
  obtain ⟨m', hns5, m1', m2'⟩ := hns5
  refine ks_wpAt_execs_cons (ks_wpAt_Assign_Attr (hs := hs2) (wpAt_of_wpAny (wpAny_Name (wpAny_loadName_local O.k O.s4 hns5 m2' (wpAny_Name (wpAny_loadName_local O.k O.s3 hns5 m1' ?_) O.d1)) O.d2)))
  refine set_plain X5 (ox := excObj C h4.objs.size none .none) (od := none) ⟨e5, rfl, rfl, trivial⟩ T.sa ?_
  refine PySem.HandSPX.exc_osa X5 e5 hcd hmr hdc T.no (fun h6 tk6 dx k6 _ _ e6 _ => ?_)
  refine wpAt_of_wpAny (wpAny_pure ⟨rfl, hq h6 dx h4.objs.size tk6 (fun b o z => ?_) e6⟩)
  exact k6 b o (ne z) (k5 b o (ne z) (k4 _ _ (k3 _ _ (k2 _ _ (kk _ _ z)))))
end
section
variable {Γ : Tx} {W : WX} {X : Cx}
theorem pmk_paper {x : Str} {e : Expr} {te : TE} {C : Addr} {d : PD} {p pos : Pos} (O : PDOk d) (T : PaperC X.K X.prog C d) (rs : Raises X (.ref C)) (hr : Room 2 X.A) (hg : Gl X x) (hm : X.mg x = some (.ref C)) (he : PE X e te) (hdb : (x == ("__debug__" : Str)) = false := by decide)
    (hs : starEach [e] X.env = (false, eval e X.env) :: starEach [] X.env := by rfl) (hpl : (backTo pos (starEach [] X.env)).any (·.1) = false := by rfl) :
    PMk X (.Call (.Name x p) [e] [] pos) (fun σ H Q => te σ H fun _ H1 => ∀ dx, Q (.ref C) (some dx) H1) := by
  intro pins s σ H Q I h
  refine wpAny_Call_Name_kw (ld_glob I hg hm ?_ hdb)
  refine PySem.W.callWith_K (h₀ := X.base) I.ok.mod.kin T.kC (thn ((pa_cons he pa_nil hs).run pos pins _ σ H (fun vs H1 => match vs with | [_] => ∀ dx, Q (.ref C) (some dx) H1 | _ => False) I h) fun us s1 hu => ?_) hs hpl
  obtain ⟨vs, H1, I1, r1, q1⟩ := hu
  match vs, us, r1, q1 with
  | [_], [u], _, q1 =>
    refine ⟨I1.kIn, ?_⟩
    show wpAny _ _ (call (.ref C) [u]) _ _ _
    refine paper_call (mg := X.mg) (base := X.base) O T I1.ok.mod I1.bk (hr.mono (by omega)) fun h' dx t1 tk k he' => ?_
    obtain ⟨hp, g, dr, tk0, os⟩ := s1
    have hn : H1 (hp.objs.size + 1) = none := I1.hok.fresh (Nat.le_succ _)
    refine ⟨hp.objs.size + 1, _, _, ⟨hp, g, dr, tk0, os⟩, H1, .ref C, some dx, rfl, I1, k, ?_, he', ⟨rfl, rfl⟩, rfl, rfl, hn, rfl, I1.bare, rs, q1 dx⟩
    cases z : hp.get? (hp.objs.size + 1) with
    | none => rfl
    | some o => exact absurd (Heap.lt_size z) (by show ¬ hp.objs.size + 1 < hp.objs.size; omega)
/-- raise C(e) -/
def sRaiseE (e : Ex) (fe : Env → Out Res) (r : Env) : Out Fl := (fe r).bind fun _ r1 => .exn e r1
theorem qs_raiseE (ex : Ex) {x : Str} {e : Expr} {fe : Env → Out Res} {C : Addr} {d : PD} {p pos rpos : Pos} (hc : X.calm = true) (tk : Takes X W) (O : PDOk d) (T : PaperC X.K X.prog C d) (rs : Raises X (.ref C)) (hr : Room 2 X.A) (hg : Gl X x) (hm : X.mg x = some (.ref C)) (hcls : Γ.cls ex = .ref C) (he : QE Γ W X e fe)
    (hdb : (x == ("__debug__" : Str)) = false := by decide) (hs : starEach [e] X.env = (false, eval e X.env) :: starEach [] X.env := by rfl) (hpl : (backTo pos (starEach [] X.env)).any (·.1) = false := by rfl) : QS Γ W X (.Raise (some (.Call (.Name x p) [e] [] pos)) none rpos) (sRaiseE ex fe) := by
  obtain ⟨te, pe, le⟩ := he.ex
  refine ⟨_, ps_raise hc tk (pmk_paper O T rs hr hg hm pe hdb hs hpl), fun Cf hC σ H P r D S h => ?_⟩
  refine le Cf hC σ H P r _ S ?_
  unfold sRaiseE at h
  cases o : fe r with
  | bad => rw [o] at h; exact h
  | ok a r1 =>
    rw [o] at h
    intro P' H' t v _ _ dx
    have := h P' H' σ t.sit t.sub (some dx)
    rw [hC.2.2, hcls] at this
    exact this
  | exn e' r1 =>
    rw [o] at h
    intro P' H' t dd
    exact h P' H' σ t.sit t.sub dd
end
end Dn

end
section
/-! Dn39: the head's facts where an own exception has its own __init__. -/
namespace Dn
open PySem L2 PySem.W He
/-! ### what is read off the heap -/
abbrev FnV : Type := Option (Str × Str × Arguments × FuncBody × Scope × Addr × Addr × Value)
def fnP (K : PySem.W.Frag) (x : Str) : FnV := match K.lookup (ma K (ga K x) "__init__") with
  | some ⟨_, _, .func fd, _⟩ => some (fd.name, fd.qualname, fd.params, fd.body, fd.scope, fd.globals, fd.builtins, fd.defaults)
  | _ => none
def valP (d : PD) : FnV := some ("__init__", d.qual, d.params, .stmts d.body, d.scope, mainGlobals, builtinsNs, .none)
def fileB (K : PySem.W.Frag) (file : Str) (c : Value) : Bool := match c with
  | .ref cda => (match K.lookup cda with
    | some ⟨_, _, .fields vs, _⟩ => (match (vs[2]? : Option Value) with
      | some (Value.str f _) => file == f
      | _ => false)
    | _ => false)
  | _ => false
def cellB (K : PySem.W.Frag) (C : Addr) (cl : List (Str × Addr)) : Bool := match cl with
  | [(n, cc)] => decide (n = ("__class__" : Str)) && (match K.lookup cc with
    | some ⟨_, _, .cell (some (.ref D)), _⟩ => decide (D = C)
    | _ => false)
  | _ => false
def initB (K : PySem.W.Frag) (prog : Program) (C : Addr) (q : Str) : Bool := match K.lookup (ma K C "__init__") with
  | some ⟨_, _, .func fd, _⟩ => PySem.W.codeIn K fd.code q && (fileB K prog.main.file fd.code && cellB K C fd.closure)
  | _ => false
def mroB (K : PySem.W.Frag) (C : Addr) : Bool := match clsIn K C with
  | some cd => PySem.HandSPX.refsVE cd.mro && cd.hasDict
  | none => false
def paperB (K : PySem.W.Frag) (prog : Program) (x : Str) (d : PD) : Bool :=
  excInitIn K (ga K x) He.veBase "ValueError.__new__" && (mroB K (ga K x) && (decide (findIn K (.ref (ga K x)) "__setattr__" = some (some (.builtin "object.__setattr__"))) && (decide (findIn K (.ref (ga K x)) d.f = some none) &&
  (decide (findIn K (.ref (ga K x)) "__init__" = some (some (.ref (ma K (ga K x) "__init__")))) && (decide (typeIn K (.ref (ma K (ga K x) "__init__")) = some (.type "function")) && (initB K prog (ga K x) d.qual &&
  (decide (ks_superIn K (ga K x) (ga K x) "__init__" = some (some (.builtin "ValueError.__init__"))) && (decide (mroIn K (ga K x) (.ref (ga K x)) = some true) && (decide (subIn K (.ref (ga K x)) (.type "ValueError") = some true) &&
  (decide (nsIn K cStatics "thirdparty.any" = some none) && (decide (nsIn K mainGlobals "super" = some none) && (!(prog.main.scope.names.lookup ("super" : Str)).isSome && keepIn K (.ref (ga K x))))))))))))))
theorem fileB_ok {K : PySem.W.Frag} {file : Str} {c : Value} (h : fileB K file c = true) : ∃ (cda : Addr) (ccl : Value) (cdd : Option Addr) (ccs : Array (Option Value)) (vs : Array Value) (f : Str) (tf : Tok), c = .ref cda ∧ K.lookup cda = some ⟨ccl, cdd, .fields vs, ccs⟩ ∧ vs[2]? = some (.str f tf) ∧ (file == f) = true := by
  unfold fileB at h
  split at h
  · split at h
    · split at h
      · exact ⟨_, _, _, _, _, _, _, rfl, by assumption, by assumption, h⟩
      · cases h
    · cases h
  · cases h
theorem cellB_ok {K : PySem.W.Frag} {C : Addr} {cl : List (Str × Addr)} (h : cellB K C cl = true) : ∃ (cc : Addr) (v : Value) (od : Option Addr) (sl : Array (Option Value)), cl = [(("__class__" : Str), cc)] ∧ K.lookup cc = some ⟨v, od, .cell (some (.ref C)), sl⟩ := by
  unfold cellB at h
  split at h
  · rename_i n cc
    obtain ⟨h1, h2⟩ := Bool.and_eq_true_iff.mp h
    split at h2
    · rename_i D _ e
      have e2 : D = C := of_decide_eq_true h2
      subst e2
      have e3 : n = ("__class__" : Str) := of_decide_eq_true h1
      subst e3
      exact ⟨_, _, _, _, rfl, e⟩
    · cases h2
  · cases h
theorem paper_of {K : PySem.W.Frag} {prog : Program} {x : Str} {d : PD} (h : paperB K prog x d = true) (e : fnP K x = valP d) : PaperC K prog (ga K x) d := by
  unfold paperB at h
  simp only [Bool.and_eq_true, decide_eq_true_eq] at h
  obtain ⟨h1, h2, h3, h4, h5, h6, h7, h8, h9, h10, h11, h12, h13, h14⟩ := h
  refine ⟨h1, ?_, h3, h4, ?_, h8, h9, h10, h11, h12, by simpa using h13, h14⟩
  · unfold mroB at h2
    split at h2
    · rename_i cd hc
      obtain ⟨a, b⟩ := Bool.and_eq_true_iff.mp h2
      exact ⟨cd, hc, a, b⟩
    · cases h2
  · unfold initB at h7
    unfold fnP valP at e
    cases q : K.lookup (ma K (ga K x) "__init__") with
    | none => rw [q] at h7; cases h7
    | some o =>
      obtain ⟨oc, od, dt, osl⟩ := o
      rw [q] at h7 e
      cases dt with
      | func fd =>
        obtain ⟨n1, n2, n3, n4, n5, n6, n7, n8, n9, n10, n11, n12, n13, n14, n15⟩ := fd
        have e2 : (some (n1, n2, n3, n4, n5, n6, n15, n8) : FnV) = some (("__init__" : Str), d.qual, d.params, FuncBody.stmts d.body, d.scope, mainGlobals, builtinsNs, Value.none) := e
        simp only [Option.some.injEq, Prod.mk.injEq] at e2
        obtain ⟨e1, e2, e3, e4, e5, e6, e7, e8⟩ := e2
        subst e1 e2 e3 e4 e5 e6 e7 e8
        have h7' : (PySem.W.codeIn K n13 d.qual && (fileB K prog.main.file n13 && cellB K (ga K x) n7)) = true := h7
        simp only [Bool.and_eq_true] at h7'
        obtain ⟨k1, k2, k3⟩ := h7'
        obtain ⟨cda, ccl, cdd, ccs, vs, f, tf, rfl, lc, hv, hf⟩ := fileB_ok k2
        obtain ⟨cc, v, od2, sl2, rfl, lcc⟩ := cellB_ok k3
        exact ⟨_, cc, cda, n9, n10, n11, n14, oc, ccl, v, od, cdd, od2, n12, osl, ccs, sl2, vs, f, tf, h5, h6, q, k1, lc, hv, hf, lcc⟩
      | _ => cases h7
/-! ### the Hook -/
abbrev AlY : Type := He.AlX × FnV
def frY (g : Addr → Option Obj) (n : Nat) : PySem.W.Frag := frT g (cStatics :: asD g n)
def obsY (n : Nat) (fa : List Fa) (fn : List DefD) (tf : List Defn) (ex : PySem.W.Frag → Bool) (x : Str) (g : Addr → Option Obj) : AlY := ((obsT fa fn [] (frY g n), ex (frY g n) && tabsB g tf (frY g n)), fnP (frY g n) x)
def hookY (n : Nat) (fa : List Fa) (fn : List DefD) (tf : List Defn) (ex : PySem.W.Frag → Bool) (x : Str) (d : PD) : PySem.W.Hook where
  α := AlY
  obs := fun s => obsY n fa fn tf ex x s.heap.get?
  val := fun w => (valX fn [] w, valP d)
  says := fun w h => ∃ K : PySem.W.Frag, K.In h ∧ SaysX fa fn [] tf ex w h K ∧ fnP K x = valP d
  of := fun w s e => by
    have e0 := congrArg (fun z : AlY => z.1) e
    have e1 : obsT fa fn [] (frY s.heap.get? n) = valT fn [] w := congrArg (fun z : He.AlX => z.1) e0
    have e2 : (ex (frY s.heap.get? n) && tabsB s.heap.get? tf (frY s.heap.get? n)) = true := congrArg (fun z : He.AlX => z.2) e0
    obtain ⟨h1, h2⟩ := ba e2
    have key : ∀ p ∈ tf, PySem.W.codeHdIn (frY s.heap.get? n) (cT (frY s.heap.get? n) p).1 (cT (frY s.heap.get? n) p).2 = true ∧ ∃ o, s.heap.get? (cT (frY s.heap.get? n) p).2 = some o ∧ emptyTab o = true := fun p hp => by
      obtain ⟨h3, h4⟩ := ba (List.all_eq_true.mp h2 p hp)
      refine ⟨h3, ?_⟩
      cases q : s.heap.get? (cT (frY s.heap.get? n) p).2 with
      | none => rw [q] at h4; cases h4
      | some o => rw [q] at h4; exact ⟨o, rfl, h4⟩
    refine ⟨frY s.heap.get? n, frT_in, ⟨e1, h1, fun p hp => (key p hp).1, fun p hp => ?_, fun p hp => ?_⟩, congrArg (fun z : AlY => z.2) e⟩
    · obtain ⟨_, o, q, z⟩ := key p hp
      exact frT_none q z
    · obtain ⟨_, o, q, z⟩ := key p hp
      rw [q, emptyTab_eq z]
  keeps := fun _ _ _ ⟨K, hK, c, e⟩ k => ⟨K, PySem.W.Frag.In.keeps hK k, ⟨c.t, c.more, c.hd, c.out, fun p hp => k _ _ (c.empty p hp)⟩, e⟩
theorem obsY_eq {n : Nat} {fa : List Fa} {fn : List DefD} {tf : List Defn} {ex : PySem.W.Frag → Bool} {x : Str} {d : PD} {g : Addr → Option Obj} {s : Shared} (h : ∀ a, g a = s.heap.get? a) : obsY n fa fn tf ex x g = (hookY n fa fn tf ex x d).obs s := by
  have e : g = s.heap.get? := funext h
  rw [e] <;> rfl
/-- the written __init__, read off its class's text -/
def PD.of (st : Stmt) : PD := match st with
  | .ClassDef cn _ _ bd _ _ _ _ _ _ _ => (match bd.getLast? with
    | some (.FunctionDef _ a [.Expr (.Call (.Attribute (.Call (.Name _ p0) _ _ p1) _ p2) [.Constant (.str t) j p3] _ p4) p5, .Assign [.Attribute (.Name sf q1) f q2] (.Name pt q3) q4] _ _ _ sc _ _ _) => ⟨cn ++ ".__init__", sf, pt, f, t, a, sc, j, p0, p1, p2, p3, p4, p5, q1, q2, q3, q4⟩
    | _ => ⟨cn, cn, cn, cn, cn, defArgs st, defScope st, 0, ⟨0, 0, 0, 0⟩, ⟨0, 0, 0, 0⟩, ⟨0, 0, 0, 0⟩, ⟨0, 0, 0, 0⟩, ⟨0, 0, 0, 0⟩, ⟨0, 0, 0, 0⟩, ⟨0, 0, 0, 0⟩, ⟨0, 0, 0, 0⟩, ⟨0, 0, 0, 0⟩, ⟨0, 0, 0, 0⟩⟩)
  | _ => ⟨"", "", "", "", "", defArgs st, defScope st, 0, ⟨0, 0, 0, 0⟩, ⟨0, 0, 0, 0⟩, ⟨0, 0, 0, 0⟩, ⟨0, 0, 0, 0⟩, ⟨0, 0, 0, 0⟩, ⟨0, 0, 0, 0⟩, ⟨0, 0, 0, 0⟩, ⟨0, 0, 0, 0⟩, ⟨0, 0, 0, 0⟩, ⟨0, 0, 0, 0⟩⟩
end Dn

end
section
/-! Dn40: typed order, generator expressions, loops that look for something. -/
namespace Dn
open PySem L2
/-! ### data that are ordered -/
structure LOk {α : Type} [DecidableEq α] (f : α → D) (lt : α → α → Bool) (n : Nat) : Prop extends EOk f n where
  like : ∀ a b, PySem.W.alike (f a) (f b) = true
  nn : ∀ a, isNone (f a) = false
  lte : ∀ a b, PySem.W.dataLt (f a) (f b) = lt a b
theorem lok_int : LOk (fun i : Int => (PyData.int i : D)) (fun a b => decide (a < b)) 0 := { eok_int with like := fun _ _ => rfl, nn := fun _ => rfl, lte := fun a b => PySem.W.dataLt_int a b }
theorem alikeAll_ints : ∀ xs ys : List Int, PySem.W.alikeAll (xs.map PyData.int) (ys.map PyData.int) = true
  | [], _ => by simp [PySem.W.alikeAll]
  | _ :: _, [] => by simp [PySem.W.alikeAll]
  | x :: xs, y :: ys => by
    rw [List.map_cons, List.map_cons]
    unfold PySem.W.alikeAll
    rw [alikeAll_ints xs ys]
    rfl
abbrev TI (xs : List Int) : D := .tuple (xs.map .int)
theorem lok_ti : LOk TI (fun a b => decide (a < b)) 1 := { eok_int.tup with
  like := fun a b => by
    show PySem.W.alike (.tuple (a.map .int)) (.tuple (b.map .int)) = true
    unfold PySem.W.alike
    exact alikeAll_ints a b
  nn := fun _ => rfl
  lte := fun a b => by
    show PySem.W.dataLt (.tuple (a.map .int)) (.tuple (b.map .int)) = _
    rw [PySem.W.dataLt_tuple]
    exact PySem.W.dataLt_ints a b }
section
variable {α β : Type} [DecidableEq α] [DecidableEq β] {f : α → D} {g : β → D} {lt : α → α → Bool} {lt' : β → β → Bool} {n m : Nat}
theorem LOk.pair (h : LOk f lt n) (h' : LOk g lt' m) : LOk (fun p : α × β => (PyData.tuple [f p.1, g p.2] : D)) (fun p q => if p.1 = q.1 then (if p.2 = q.2 then false else lt' p.2 q.2) else lt p.1 q.1) (max n m + 1) := { EOk.pair h.toEOk h'.toEOk with
  like := fun a b => by
    show PySem.W.alike (.tuple [f a.1, g a.2]) (.tuple [f b.1, g b.2]) = true
    unfold PySem.W.alike PySem.W.alikeAll PySem.W.alikeAll PySem.W.alikeAll
    rw [h.like, h'.like]
    rfl
  nn := fun _ => rfl
  lte := fun a b => by
    show PySem.W.dataLt (.tuple [f a.1, g a.2]) (.tuple [f b.1, g b.2]) = _
    rw [PySem.W.dataLt_pair (h.like _ _) (h'.like _ _), h.lte, h'.lte, h.eqv, h'.eqv]
    simp only [decide_eq_true_eq] }
def minF (lt : α → α → Bool) (x : α) (xs : List α) : α := xs.foldl (fun a y => if lt y a then y else a) x
theorem LOk.best (h : LOk f lt n) (hn : n ≤ 60) (xs : List α) : bestB (xs.map f) = true := by
  unfold bestB alikeB notNoneB depthB
  simp only [Bool.and_eq_true, List.all_eq_true, List.mem_map]
  refine ⟨⟨?_, ?_⟩, ?_⟩
  · rintro _ ⟨a, _, rfl⟩ _ ⟨b, _, rfl⟩
    exact h.like a b
  · rintro _ ⟨a, _, rfl⟩
    rw [h.nn]; rfl
  · rintro _ ⟨a, _, rfl⟩
    exact decide_eq_true (Nat.le_trans (h.dep a) hn)
theorem LOk.minD (h : LOk f lt n) : ∀ (xs : List α) (x : α), PySem.W.minD (f x) (xs.map f) = f (minF lt x xs)
  | [], x => rfl
  | y :: xs, x => by
    have := h.minD xs (if lt y x then y else x)
    unfold PySem.W.minD minF at this ⊢
    rw [List.map_cons, List.foldl_cons, List.foldl_cons, ← this, h.lte]
    congr 1
    split <;> rfl
theorem LOk.min_l (h : LOk f lt n) (hn : n ≤ 60) (x : α) (xs : List α) : gBest PySem.W.minD (.list ((x :: xs).map f)) = some (.val (f (minF lt x xs))) := by
  show (if bestB ((x :: xs).map f) = true then some (ORes.val (PySem.W.minD (f x) (xs.map f))) else none) = _
  rw [if_pos (h.best hn _), h.minD]
theorem minF_of (m : α) : ∀ (xs : List α) (x : α), (∀ y ∈ x :: xs, y = m ∨ (lt m y = true ∧ lt y m = false)) → lt m m = false → m ∈ x :: xs → minF lt x xs = m
  | [], x, _, _, hm => by
    rcases List.mem_cons.mp hm with rfl | h
    · rfl
    · cases h
  | y :: xs, x, h, hi, hm => by
    unfold minF
    rw [List.foldl_cons]
    refine minF_of m xs (if lt y x then y else x) (fun z hz => ?_) hi ?_
    · rcases List.mem_cons.mp hz with rfl | hz
      · split
        · exact h y (by simp)
        · exact h x (by simp)
      · exact h z (by simp [hz])
    · rcases List.mem_cons.mp hm with rfl | hm
      · rcases h y (by simp) with rfl | ⟨_, e⟩
        · simp
        · rw [e]; simp
      · rcases List.mem_cons.mp hm with rfl | hm
        · rcases h x (by simp) with rfl | ⟨e, _⟩
          · simp
          · rw [e]; simp
        · exact List.mem_cons_of_mem _ hm
end
/-! ### generator expressions -/
section
variable {α : Type} {ft : List D → Option Bool} {fe : List D → Option D} {caps : List D} {h : α → List D} {p : α → Bool} {g : α → D}
theorem genD_pure : ∀ xs : List α, (∀ a ∈ xs, ft (h a ++ caps) = some (p a) ∧ (p a = true → fe (h a ++ caps) = some (g a))) → genD ft fe caps (xs.map h) = some ((xs.filter p).map g)
  | [], _ => rfl
  | a :: xs, H => by
    obtain ⟨h1, h2⟩ := H a List.mem_cons_self
    have ih := genD_pure xs fun b hb => H b (List.mem_cons_of_mem _ hb)
    rw [List.map_cons]
    unfold genD
    rw [h1]
    cases q : p a with
    | false => rw [List.filter_cons_of_neg (by rw [q]; decide)]; exact ih
    | true =>
      rw [List.filter_cons_of_pos q, h2 q]
      dsimp only
      rw [ih]
      rfl
theorem gen_of {agg : List D → Option D} {ci : List Nat} {fi : Env → Out (List (List D))} {r : Env} {d : D} (xs : List α) (hi : fi r = .ok (xs.map h) r) (hc : capsOf ci r = some caps) (H : ∀ a ∈ xs, ft (h a ++ caps) = some (p a) ∧ (p a = true → fe (h a ++ caps) = some (g a)))
    (ha : agg ((xs.filter p).map g) = some d) : eGen agg ci fi ft fe r = .ok (.fz d) r := by
  unfold eGen
  rw [hi]
  show (match capsOf ci r with
    | none => Out.bad
    | some caps => match genD ft fe caps (xs.map h) with
      | none => Out.bad
      | some outs => match agg outs with
        | none => Out.bad
        | some d => (.ok (.fz d) r : Out Res)) = _
  rw [hc]
  dsimp only
  rw [genD_pure xs H]
  dsimp only
  rw [ha]
end
theorem boolsD_map {α : Type} (g : α → Bool) : ∀ xs : List α, boolsD (xs.map fun a => .bool (g a)) = some (xs.map g)
  | [] => rfl
  | a :: xs => by
    rw [List.map_cons]
    unfold boolsD
    rw [boolsD_map g xs]
    rfl
theorem agAll_map {α : Type} (g : α → Bool) (xs : List α) : agAll (xs.map fun a => .bool (g a)) = some (.bool (xs.all g)) := by
  unfold agAll
  rw [boolsD_map]
  simp [List.all_map]
theorem agAny_map {α : Type} (g : α → Bool) (xs : List α) : agAny (xs.map fun a => .bool (g a)) = some (.bool (xs.any g)) := by
  unfold agAny
  rw [boolsD_map]
  simp [List.any_map]
theorem agSum_map {α : Type} (g : α → Int) (xs : List α) (h : ∀ a ∈ xs, fitI (g a) = true) (hl : xs.length ≤ 100000) : agSum (xs.map fun a => .int (g a)) = some (.int (xs.map g).sum) := by
  have e : (xs.map fun a => (PyData.int (g a) : D)) = (xs.map g).map .int := by rw [List.map_map]; rfl
  unfold agSum
  rw [e, intsD_map]
  dsimp only
  rw [if_pos]
  refine ⟨?_, by rw [List.length_map]; exact hl⟩
  rw [List.all_eq_true]
  intro z hz
  obtain ⟨a, ha, rfl⟩ := List.mem_map.mp hz
  exact h a ha
abbrev TP2 (p : Int × Int) : D := .tuple [.int p.1, .int p.2]
theorem eok_tp2 : EOk TP2 1 := EOk.pair eok_int eok_int
theorem rows_tp2 : ∀ bs : List (Int × Int), rowsOf 2 (bs.map TP2) = some (bs.map fun p => [.int p.1, .int p.2])
  | [] => rfl
  | p :: bs => by
    rw [List.map_cons]
    unfold rowsOf
    rw [rows_tp2 bs]
    rfl
theorem gseq_tp2 {fa : Env → Out Res} {r : Env} {x : Res} {bs : List (Int × Int)} (h : fa r = .ok x r) (hc : cont r x = some (.list (bs.map TP2))) : gSeq 2 fa r = .ok (bs.map fun p => [.int p.1, .int p.2]) r := by
  unfold gSeq
  rw [h]
  show (match cont r x with
    | some d => match seqD d with
      | some ds => match rowsOf 2 ds with
        | some rows => Out.ok rows r
        | none => Out.bad
      | none => Out.bad
    | none => (.bad : Out (List (List D)))) = _
  rw [hc]
  show (match rowsOf 2 (bs.map TP2) with
    | some rows => Out.ok rows r
    | none => (.bad : Out (List (List D)))) = _
  rw [rows_tp2]
theorem row1_map (xs : List Int) : row1 (xs.map .int) = xs.map fun k => [PyData.int k] := by
  unfold row1
  rw [List.map_map]
  rfl
theorem grng1_of {f : Env → Out (List D)} {r : Env} {n : Nat} (h : f r = .ok [.int (n : Int)] r) (hn : n ≤ 100000) : gRng1 f r = .ok ((List.range n).map fun k => [PyData.int ((k : Nat) : Int)]) r := by
  unfold gRng1
  rw [h]
  show (if smallI (n : Int) = true then .ok (row1 (rngL 0 (n : Int).toNat)) r else (.bad : Out (List (List D)))) = _
  rw [if_pos (by simp [smallI]; omega), rngL_eq]
  congr 1
  unfold row1
  rw [List.map_map]
  apply List.map_congr_left
  intro k _
  simp
theorem fc1 {fe : Env → Out Res} {r : Env} {d : D} (h : fe r = .ok (.fz d) r) (hd : isDic d = false) : fCons fe fNil r = .ok [d] r := by
  unfold fCons
  rw [h]
  simp [Out.bind, stl, Dn.settle, hd, fNil]
theorem fc1b {r : Env} {i : Nat} {d : Int} (h : r[i]? = some (.fz (.int d))) : fCons (eV i) fNil r = .ok [.int d] r := by
  unfold fCons eV
  rw [h]
  simp [Out.bind, stl, Dn.settle, h, isDic, fNil]
theorem tup2_of {fe fe' : Env → Out Res} {r r1 r2 r3 : Env} {a b : D} {y : Res} (h : fe r = .ok (.fz a) r1) (ha : isDic a = false) (h' : fe' r1 = .ok y r2) (hb : stl y r2 = .ok b r3) : dTup (fCons fe (fCons fe' fNil)) r = .ok (.fz (.tuple [a, b])) r3 := by
  have s1 : stl (.fz a) r1 = .ok a r1 := by unfold stl; show (if isDic a = true then Out.bad else Out.ok a r1) = _; rw [ha]; rfl
  have i1 : fCons fe' fNil r1 = .ok [b] r3 := by
    unfold fCons
    rw [h']
    show ((stl y r2).bind _) = _
    rw [hb]
    rfl
  have i2 : fCons fe (fCons fe' fNil) r = .ok [a, b] r3 := by
    show ((fe r).bind _) = _
    rw [h]
    show ((stl (.fz a) r1).bind _) = _
    rw [s1]
    show ((fCons fe' fNil r1).bind _) = _
    rw [i1]
    rfl
  unfold dTup
  rw [i2]
  rfl
theorem wrng1_of {f : Env → Out (List D)} {r : Env} {n : Nat} (h : f r = .ok [.int (n : Int)] r) (hn : n ≤ 100000) : wRng1 f r = .ok ((List.range n).map fun k : Nat => PyData.int (k : Int)) r := by
  unfold wRng1
  rw [h]
  have sm : smallI (n : Int) = true := by simp [smallI]; omega
  simp only [Out.bind, sm, if_true, rngL_eq, Int.toNat_natCast, Int.zero_add]
theorem add_n (a b : Nat) : gAdd (.int (a : Int)) (.int (b : Int)) = some (.val (.int ((a + b : Nat) : Int))) := by
  rw [add_i, Int.natCast_add]
/-! ### tuples, lists put together -/
theorem add_t {xs ys : List D} (h : xs.length + ys.length ≤ 100000) : ∃ o, gAdd (.tuple xs) (.tuple ys) = some o ∧ o.res = .fz (.tuple (xs ++ ys)) := by
  cases xs with
  | nil =>
    have h' : ys.length ≤ 100000 := by simpa using h
    exact ⟨.val (.tuple ys), by simp [gAdd, oelse, ig, gCatT, h'], rfl⟩
  | cons x xs =>
    cases ys with
    | nil =>
      have h' : xs.length + 1 ≤ 100000 := by simpa using h
      exact ⟨.val (.tuple (x :: xs)), by simp [gAdd, oelse, ig, gCatT, h'], by rw [List.append_nil]; rfl⟩
    | cons y ys =>
      have h' : xs.length + 1 + (ys.length + 1) ≤ 100000 := by simpa using h
      exact ⟨.newT ((x :: xs) ++ (y :: ys)), by simp [gAdd, oelse, ig, gCatT, h'], rfl⟩
theorem add_l {xs ys : List D} (h : xs.length + ys.length ≤ 100000) : gAdd (.list xs) (.list ys) = some (.newL (xs ++ ys)) := by
  simp [gAdd, oelse, ig, gCatT, gCatL, h]
theorem addT_of {fe fe' : Env → Out Res} {r r1 r2 : Env} {x y : Res} {xs ys : List D} (h : fe r = .ok x r1) (h' : fe' r1 = .ok y r2) (hc : cont r2 x = some (.tuple xs)) (hc' : cont r2 y = some (.tuple ys)) (hl : xs.length + ys.length ≤ 100000) : eOp2 gAdd fe fe' r = .ok (.fz (.tuple (xs ++ ys))) r2 := by
  obtain ⟨o, h1, h2⟩ := add_t hl
  rw [op2_of h h' hc hc' h1, h2]
theorem addL_of {fe fe' : Env → Out Res} {r r1 r2 : Env} {x y : Res} {xs ys : List D} (h : fe r = .ok x r1) (h' : fe' r1 = .ok y r2) (hc : cont r2 x = some (.list xs)) (hc' : cont r2 y = some (.list ys)) (hl : xs.length + ys.length ≤ 100000) : eOp2 gAdd fe fe' r = .ok (.ow (.list (xs ++ ys))) r2 := by
  rw [op2_of h h' hc hc' (add_l hl)]
  rfl
/-! ### a loop that looks for something -/
theorem loop_find {α β : Type} {G : D → Env → Option Env} {b : Env → Out Fl} {f : α → D} (P : Env → Prop) (Z : Res → Env → β → Prop) (g : α → Option β) : ∀ (xs : List α) (r : Env), P r →
    (∀ r a, a ∈ xs → P r → ∃ r1, G (f a) r = some r1 ∧ match g a with | some v => ∃ x r2, b r1 = .ok (.rt x) r2 ∧ Z x r2 v | none => ∃ r2, b r1 = .ok .nx r2 ∧ P r2) →
    match xs.findSome? g with | some v => ∃ x r2, loopD G b (xs.map f) r = .ok (.rt x) r2 ∧ Z x r2 v | none => ∃ r2, loopD G b (xs.map f) r = .ok .nx r2 ∧ P r2
  | [], r, hp, _ => ⟨r, rfl, hp⟩
  | a :: xs, r, hp, h => by
    obtain ⟨r1, h1, h2⟩ := h r a List.mem_cons_self hp
    rw [List.findSome?_cons]
    cases q : g a with
    | some v =>
      rw [q] at h2
      obtain ⟨x, r2, h3, h4⟩ := h2
      refine ⟨x, r2, ?_, h4⟩
      rw [List.map_cons]
      unfold loopD
      rw [h1]
      dsimp only
      rw [h3]
    | none =>
      rw [q] at h2
      obtain ⟨r2, h3, h4⟩ := h2
      have ih := loop_find P Z g xs r2 h4 fun r b hb => h r b (List.mem_cons_of_mem _ hb)
      have e : loopD G b ((a :: xs).map f) r = loopD G b (xs.map f) r2 := by
        rw [List.map_cons]
        conv => lhs; unfold loopD
        rw [h1]
        dsimp only
        rw [h3]
      rw [e]
      exact ih
theorem loop_raise {α : Type} {G : D → Env → Option Env} {b : Env → Out Fl} {f : α → D} (P : Env → Prop) (e : Ex) (bad : α → Bool) : ∀ (xs : List α) (r : Env), P r →
    (∀ r a, a ∈ xs → P r → ∃ r1, G (f a) r = some r1 ∧ (bad a = true → ∃ r2, b r1 = .exn e r2 ∧ P r2) ∧ (bad a = false → ∃ r2, b r1 = .ok .nx r2 ∧ P r2)) →
    (xs.any bad = true → ∃ r2, loopD G b (xs.map f) r = .exn e r2 ∧ P r2) ∧ (xs.any bad = false → ∃ r2, loopD G b (xs.map f) r = .ok .nx r2 ∧ P r2)
  | [], r, hp, _ => ⟨fun h => by simp at h, fun _ => ⟨r, rfl, hp⟩⟩
  | a :: xs, r, hp, h => by
    obtain ⟨r1, h1, h2, h3⟩ := h r a List.mem_cons_self hp
    rw [List.any_cons]
    cases q : bad a with
    | true =>
      obtain ⟨r2, h4, h5⟩ := h2 q
      refine ⟨fun _ => ⟨r2, ?_, h5⟩, fun z => by simp at z⟩
      rw [List.map_cons]
      unfold loopD
      rw [h1]
      dsimp only
      rw [h4]
    | false =>
      obtain ⟨r2, h4, h5⟩ := h3 q
      have ih := loop_raise P e bad xs r2 h5 fun r b hb => h r b (List.mem_cons_of_mem _ hb)
      have e : loopD G b ((a :: xs).map f) r = loopD G b (xs.map f) r2 := by
        rw [List.map_cons]
        conv => lhs; unfold loopD
        rw [h1]
        dsimp only
        rw [h4]
      rw [e, Bool.false_or]
      exact ih
/-! ### list comprehensions, the slots within a set -/
section
variable {α : Type} {vs : List Nat} {fi : Env → Out (List D)} {G : D → Env → Option Env} {ft : Env → Out Bool} {fe : Env → Out Res} {f g : α → D} {p : α → Bool} {P : Env → Prop} {r r0 : Env}
theorem lcD_rel : ∀ (xs : List α) (acc : List D) (e : Env), P e → acc.length + xs.length ≤ 100000 →
    (∀ a ∈ xs, ∀ e, P e → ∃ r1 r2, G (f a) e = some r1 ∧ ft r1 = .ok (p a) r2 ∧ (p a = false → P (wipeE vs r2)) ∧ (p a = true → ∃ x r3 r4, fe r2 = .ok x r3 ∧ stl x r3 = .ok (g a) r4 ∧ P (wipeE vs r4))) →
    ∃ r', lcD G ft fe vs (xs.map f) acc e = .ok (acc ++ (xs.filter p).map g) r' ∧ P r'
  | [], acc, e, hp, _, _ => ⟨e, by simp [lcD], hp⟩
  | a :: xs, acc, e, hp, hl, h => by
    obtain ⟨r1, r2, h1, h2, h3, h4⟩ := h a List.mem_cons_self e hp
    rw [List.map_cons]
    unfold lcD
    rw [h1]
    dsimp only
    rw [h2]
    dsimp only
    cases q : p a with
    | false =>
      rw [if_neg (by decide), List.filter_cons_of_neg (by rw [q]; decide)]
      exact lcD_rel xs acc _ (h3 q) (by simp at hl; omega) fun b hb => h b (List.mem_cons_of_mem _ hb)
    | true =>
      obtain ⟨x, r3, r4, h5, h6, h7⟩ := h4 q
      rw [if_pos rfl, h5]
      dsimp only
      rw [h6]
      dsimp only
      rw [if_pos (by simp at hl; omega), List.filter_cons_of_pos q, List.map_cons]
      obtain ⟨r', h8, h9⟩ := lcD_rel xs (acc ++ [g a]) _ h7 (by simp at hl ⊢; omega) fun b hb => h b (List.mem_cons_of_mem _ hb)
      exact ⟨r', by rw [h8, List.append_assoc]; rfl, h9⟩
theorem eLc_of {ds : List D} {ds' : List D} {r' : Env} (hi : fi r = .ok ds r0) (hc : clearB vs r0 = true) (h : lcD G ft fe vs ds [] (wipeE vs r0) = .ok ds' r') : eLc vs fi G ft fe r = .ok (.ow (.list ds')) (backE vs r0 r') := by
  unfold eLc
  rw [hi]
  show (if clearB vs r0 = true then (match lcD G ft fe vs ds [] (wipeE vs r0) with
    | .ok ds r2 => (.ok (.ow (.list ds)) (backE vs r0 r2) : Out Res)
    | _ => .bad) else .bad) = _
  rw [if_pos hc, h]
theorem lc_rel (xs : List α) (hi : fi r = .ok (xs.map f) r0) (hc : clearB vs r0 = true) (hP : P (wipeE vs r0)) (hl : xs.length ≤ 100000)
    (h : ∀ a ∈ xs, ∀ e, P e → ∃ r1 r2, G (f a) e = some r1 ∧ ft r1 = .ok (p a) r2 ∧ (p a = false → P (wipeE vs r2)) ∧ (p a = true → ∃ x r3 r4, fe r2 = .ok x r3 ∧ stl x r3 = .ok (g a) r4 ∧ P (wipeE vs r4))) :
    ∃ r', eLc vs fi G ft fe r = .ok (.ow (.list ((xs.filter p).map g))) (backE vs r0 r') ∧ P r' := by
  obtain ⟨r', h1, h2⟩ := lcD_rel xs [] _ hP (by simpa using hl) h
  exact ⟨r', eLc_of hi hc h1, h2⟩
theorem lcD_any : ∀ (xs : List α) (acc : List D) (e : Env), P e → acc.length + xs.length ≤ 100000 →
    (∀ a ∈ xs, ∀ e, P e → ∃ r1 r2 b, G (f a) e = some r1 ∧ ft r1 = .ok b r2 ∧ (b = false → P (wipeE vs r2)) ∧ (b = true → ∃ x r3 r4, fe r2 = .ok x r3 ∧ stl x r3 = .ok (g a) r4 ∧ P (wipeE vs r4))) →
    ∃ (sub : List α) (r' : Env), sub.Sublist xs ∧ lcD G ft fe vs (xs.map f) acc e = .ok (acc ++ sub.map g) r' ∧ P r'
  | [], acc, e, hp, _, _ => ⟨[], e, List.Sublist.refl _, by simp [lcD], hp⟩
  | a :: xs, acc, e, hp, hl, h => by
    obtain ⟨r1, r2, b, h1, h2, h3, h4⟩ := h a List.mem_cons_self e hp
    rw [List.map_cons]
    unfold lcD
    rw [h1]
    dsimp only
    rw [h2]
    dsimp only
    cases q : b with
    | false =>
      rw [if_neg (by decide)]
      obtain ⟨sub, r', h5, h6, h7⟩ := lcD_any xs acc _ (h3 q) (by simp at hl; omega) fun b hb => h b (List.mem_cons_of_mem _ hb)
      exact ⟨sub, r', h5.cons _, h6, h7⟩
    | true =>
      obtain ⟨x, r3, r4, h5, h6, h7⟩ := h4 q
      rw [if_pos rfl, h5]
      dsimp only
      rw [h6]
      dsimp only
      rw [if_pos (by simp at hl; omega)]
      obtain ⟨sub, r', h8, h9, h10⟩ := lcD_any xs (acc ++ [g a]) _ h7 (by simp at hl ⊢; omega) fun b hb => h b (List.mem_cons_of_mem _ hb)
      exact ⟨a :: sub, r', h8.cons₂ _, by rw [h9, List.append_assoc]; rfl, h10⟩
theorem lc_any (xs : List α) (hi : fi r = .ok (xs.map f) r0) (hc : clearB vs r0 = true) (hP : P (wipeE vs r0)) (hl : xs.length ≤ 100000)
    (h : ∀ a ∈ xs, ∀ e, P e → ∃ r1 r2 b, G (f a) e = some r1 ∧ ft r1 = .ok b r2 ∧ (b = false → P (wipeE vs r2)) ∧ (b = true → ∃ x r3 r4, fe r2 = .ok x r3 ∧ stl x r3 = .ok (g a) r4 ∧ P (wipeE vs r4))) :
    ∃ (sub : List α) (r' : Env), sub.Sublist xs ∧ eLc vs fi G ft fe r = .ok (.ow (.list (sub.map g))) (backE vs r0 r') ∧ P r' := by
  obtain ⟨sub, r', h0, h1, h2⟩ := lcD_any xs [] _ hP (by simpa using hl) h
  exact ⟨sub, r', h0, eLc_of hi hc h1, h2⟩
/-- values that are drawn -/
theorem lcD_val {β : Type} {gv : β → D} {Q : β → Prop} : ∀ (xs : List α) (acc : List D) (e : Env), P e → acc.length + xs.length ≤ 100000 →
    (∀ a ∈ xs, ∀ e, P e → ∃ r1 v x r3 r4, G (f a) e = some r1 ∧ fe r1 = .ok x r3 ∧ stl x r3 = .ok (gv v) r4 ∧ Q v ∧ P (wipeE vs r4)) →
    ∃ (out : List β) (r' : Env), out.length = xs.length ∧ (∀ v ∈ out, Q v) ∧ lcD G tYesD fe vs (xs.map f) acc e = .ok (acc ++ out.map gv) r' ∧ P r'
  | [], acc, e, hp, _, _ => ⟨[], e, rfl, (fun v h => nomatch h), by simp [lcD], hp⟩
  | a :: xs, acc, e, hp, hl, h => by
    obtain ⟨r1, v, x, r3, r4, h1, h2, h3, h4, h5⟩ := h a List.mem_cons_self e hp
    rw [List.map_cons]
    unfold lcD
    rw [h1]
    dsimp only
    rw [show tYesD r1 = .ok true r1 from rfl]
    dsimp only
    rw [if_pos rfl, h2]
    dsimp only
    rw [h3]
    dsimp only
    rw [if_pos (by simp at hl; omega)]
    obtain ⟨out, r', k1, k2, k3, k4⟩ := lcD_val xs (acc ++ [gv v]) _ h5 (by simp at hl ⊢; omega) fun b hb => h b (List.mem_cons_of_mem _ hb)
    refine ⟨v :: out, r', by simp [k1], fun w hw => ?_, by rw [k3, List.append_assoc]; rfl, k4⟩
    rcases List.mem_cons.mp hw with rfl | hw
    · exact h4
    · exact k2 w hw
theorem lc_val {β : Type} {gv : β → D} {Q : β → Prop} (xs : List α) (hi : fi r = .ok (xs.map f) r0) (hc : clearB vs r0 = true) (hP : P (wipeE vs r0)) (hl : xs.length ≤ 100000)
    (h : ∀ a ∈ xs, ∀ e, P e → ∃ r1 v x r3 r4, G (f a) e = some r1 ∧ fe r1 = .ok x r3 ∧ stl x r3 = .ok (gv v) r4 ∧ Q v ∧ P (wipeE vs r4)) :
    ∃ (out : List β) (r' : Env), out.length = xs.length ∧ (∀ v ∈ out, Q v) ∧ eLc vs fi G tYesD fe r = .ok (.ow (.list (out.map gv))) (backE vs r0 r') ∧ P r' := by
  obtain ⟨out, r', k1, k2, k3, k4⟩ := lcD_val xs [] _ hP (by simpa using hl) h
  exact ⟨out, r', k1, k2, eLc_of hi hc k3, k4⟩
end
/-- a loop, what is known at each turn -/
theorem loop_rel {α : Type} {G : D → Env → Option Env} {b : Env → Out Fl} {f : α → D} (P : List α → Env → Prop) : ∀ (xs l : List α) (r : Env), P l r →
    (∀ l a r, a ∈ xs → P l r → ∃ r1 r2, G (f a) r = some r1 ∧ b r1 = .ok .nx r2 ∧ P (l ++ [a]) r2) → ∃ r2, loopD G b (xs.map f) r = .ok .nx r2 ∧ P (l ++ xs) r2
  | [], l, r, hp, _ => ⟨r, rfl, by simpa using hp⟩
  | a :: xs, l, r, hp, h => by
    obtain ⟨r1, r2, h1, h2, h3⟩ := h l a r List.mem_cons_self hp
    obtain ⟨r3, h4, h5⟩ := loop_rel P xs (l ++ [a]) r2 h3 fun l b r hb => h l b r (List.mem_cons_of_mem _ hb)
    refine ⟨r3, ?_, by rw [List.append_assoc] at h5; exact h5⟩
    rw [List.map_cons]
    unfold loopD
    rw [h1]
    dsimp only
    rw [h2]
    exact h4
/-! ### a, b, .. = e, f, .. -/
section
variable {f : Env → Out Res} {fs : List (Env → Out Res)} {r r1 r2 : Env} {d : D} {xs ys : List Res} {is : List Nat}
theorem hL_fz (h : f r = .ok (.fz d) r1) (h' : hL fs r1 = .ok ys r2) : hL (f :: fs) r = .ok (.fz d :: ys) r2 := by
  unfold hL
  rw [h]
  show ((hL fs r1).bind fun ys r3 => .ok (.fz d :: ys) r3) = _
  rw [h']
  rfl
theorem hL_ow (h : f r = .ok (.ow d) r1) (h' : hL fs r1 = .ok ys r2) : hL (f :: fs) r = .ok (.ow d :: ys) r2 := by
  unfold hL
  rw [h]
  show ((hL fs r1).bind fun ys r3 => .ok (.ow d :: ys) r3) = _
  rw [h']
  rfl
theorem parN_of (h : hL fs r = .ok xs r1) (h2 : setsL is xs r1 = some r2) : sParN is fs r = .ok .nx r2 := by
  unfold sParN
  rw [h]
  show (match setsL is xs r1 with
    | some r2 => Out.ok Fl.nx r2
    | none => .bad) = _
  rw [h2]
end
theorem loop_pre {α : Type} {G : D → Env → Option Env} {b : Env → Out Fl} {f : α → D} (P : List α → Env → Prop) (full : List α) : ∀ (xs l : List α) (r : Env), l ++ xs = full → P l r →
    (∀ l a r, (l ++ [a]) <+: full → P l r → ∃ r1 r2, G (f a) r = some r1 ∧ b r1 = .ok .nx r2 ∧ P (l ++ [a]) r2) → ∃ r2, loopD G b (xs.map f) r = .ok .nx r2 ∧ P full r2
  | [], l, r, e, hp, _ => ⟨r, rfl, by rw [← e, List.append_nil]; exact hp⟩
  | a :: xs, l, r, e, hp, h => by
    have e' : (l ++ [a]) ++ xs = full := by rw [List.append_assoc]; exact e
    obtain ⟨r1, r2, h1, h2, h3⟩ := h l a r ⟨xs, e'⟩ hp
    obtain ⟨r3, h4, h5⟩ := loop_pre P full xs (l ++ [a]) r2 e' h3 h
    refine ⟨r3, ?_, h5⟩
    rw [List.map_cons]
    unfold loopD
    rw [h1]
    dsimp only
    rw [h2]
    exact h4
theorem pre_range {l : List Nat} {a n : Nat} (h : (l ++ [a]) <+: List.range n) : l = List.range a ∧ a < n := by
  obtain ⟨t, e⟩ := h
  have hlen : l.length < n := by
    have := congrArg List.length e
    simp at this
    omega
  have ha : a = l.length := by
    have := congrArg (fun z : List Nat => z[l.length]?) e
    simp [List.getElem?_append, hlen] at this
    omega
  refine ⟨?_, by omega⟩
  have := congrArg (List.take l.length) e
  rw [List.append_assoc, List.take_left, List.take_range, Nat.min_eq_left (by omega)] at this
  rw [ha]; exact this
end Dn

end
section
namespace K13
open PySem L2 Dn
open PyProof.Rows hiding St
abbrev GE := PySem.Env
def top (i : Nat) : Stmt := PySem.Challenge.pw_tailorshop_k13_work_in_a_line.main.body.getD i (.Pass ⟨0, 0, 0, 0⟩)
abbrev FnP (K : PySem.W.Frag) (x : Str) (st : Stmt) (fd : FuncData) : Prop := FunD K x x (defArgs st) (defBody st) (defScope st) [] [] (He.fAd K (x, none)) fd
abbrev s_BadPaper : Stmt := top 4
abbrev pd : PD := PD.of s_BadPaper
theorem pd_ok : PDOk pd := ⟨⟨_, rfl, rfl⟩, fun _ _ _ _ _ _ _ _ _ => by kernel_rfl, fun _ _ _ _ _ _ _ _ _ => ⟨_, rfl⟩, fun _ _ _ _ _ _ _ _ _ => ⟨rfl, rfl, rfl⟩, rfl, rfl, rfl, rfl, rfl, rfl, rfl, by decide +kernel, by decide +kernel, rfl, rfl⟩
structure Txt (K : PySem.W.Frag) (mg : Str → Option Value) (P : Program) : Prop where
  pp : PaperC K P (He.ga K "BadPaper") pd
  sb_BadPaper : PySem.W.subIn K (.ref (He.ga K "BadPaper")) (.type "BaseException") = some true
  ty_BadPaper : PySem.W.typeIn K (.ref (He.ga K "BadPaper")) = some (.type "type")
  n_range : mg "range" = none
  n_sum : mg "sum" = none
  n_max : mg "max" = none
  n_min : mg "min" = none
  n_len : mg "len" = none
  n_int : mg "int" = none
  n_any : mg "any" = none
  n_all : mg "all" = none
  n_tuple : mg "tuple" = none
  n_abs : mg "abs" = none
  g__law_roll : mg "_law_roll" = some (.ref (He.fAd K ("_law_roll", none)))
  k__law_roll : PySem.W.keepIn K (.ref (He.fAd K ("_law_roll", none))) = true
  g_check_seams : mg "check_seams" = some (.ref (He.fAd K ("check_seams", none)))
  k_check_seams : PySem.W.keepIn K (.ref (He.fAd K ("check_seams", none))) = true
  g_first_order : mg "first_order" = some (.ref (He.fAd K ("first_order", none)))
  k_first_order : PySem.W.keepIn K (.ref (He.fAd K ("first_order", none))) = true
  g_placed : mg "placed" = some (.ref (He.fAd K ("placed", none)))
  k_placed : PySem.W.keepIn K (.ref (He.fAd K ("placed", none))) = true
  g_places : mg "places" = some (.ref (He.fAd K ("places", none)))
  k_places : PySem.W.keepIn K (.ref (He.fAd K ("places", none))) = true
  g_look_places : mg "look_places" = some (.ref (He.fAd K ("look_places", none)))
  k_look_places : PySem.W.keepIn K (.ref (He.fAd K ("look_places", none))) = true
  g__law_dice : mg "_law_dice" = some (.ref (He.fAd K ("_law_dice", none)))
  k__law_dice : PySem.W.keepIn K (.ref (He.fAd K ("_law_dice", none))) = true
  g__law_rounds : mg "_law_rounds" = some (.ref (He.fAd K ("_law_rounds", none)))
  k__law_rounds : PySem.W.keepIn K (.ref (He.fAd K ("_law_rounds", none))) = true
  g__law_told : mg "_law_told" = some (.ref (He.fAd K ("_law_told", none)))
  k__law_told : PySem.W.keepIn K (.ref (He.fAd K ("_law_told", none))) = true
  e_BadPaper : mg "BadPaper" = some (.ref (He.ga K "BadPaper"))
  e_BadSize : mg "BadSize" = some (.ref (He.ga K "BadSize"))
  x_BadSize : PySem.W.excIn K (He.ga K "BadSize") He.veBase "ValueError.__new__" = true
  ke_BadSize : PySem.W.keepIn K (.ref (He.ga K "BadSize")) = true
  sb_BadSize : PySem.W.subIn K (.ref (He.ga K "BadSize")) (.type "BaseException") = some true
  ty_BadSize : PySem.W.typeIn K (.ref (He.ga K "BadSize")) = some (.type "type")
  e_NoFit : mg "NoFit" = some (.ref (He.ga K "NoFit"))
  x_NoFit : PySem.W.excIn K (He.ga K "NoFit") He.veBase "ValueError.__new__" = true
  ke_NoFit : PySem.W.keepIn K (.ref (He.ga K "NoFit")) = true
  sb_NoFit : PySem.W.subIn K (.ref (He.ga K "NoFit")) (.type "BaseException") = some true
  ty_NoFit : PySem.W.typeIn K (.ref (He.ga K "NoFit")) = some (.type "type")
  e_TooLarge : mg "TooLarge" = some (.ref (He.ga K "TooLarge"))
  x_TooLarge : PySem.W.excIn K (He.ga K "TooLarge") He.veBase "ValueError.__new__" = true
  ke_TooLarge : PySem.W.keepIn K (.ref (He.ga K "TooLarge")) = true
  sb_TooLarge : PySem.W.subIn K (.ref (He.ga K "TooLarge")) (.type "BaseException") = some true
  ty_TooLarge : PySem.W.typeIn K (.ref (He.ga K "TooLarge")) = some (.type "type")
def clsN : Ex → Str
  | .size => "BadSize"
  | .fit => "NoFit"
  | .paper => "BadPaper"
  | .large => "TooLarge"
  | .deed => "BadSize"
def toldF : Ex → Option Str
  | .size => some "size"
  | .fit => some "no fit"
  | .paper => some "paper"
  | .large => none
  | .deed => some "size"
def toldL (K : PySem.W.Frag) : List (Value × Str) := [(.ref (He.ga K "NoFit"), "no fit"), (.ref (He.ga K "BadSize"), "size"), (.ref (He.ga K "BadPaper"), "paper")]
abbrev lamQ : Str := "law.<locals>.<lambda>"
abbrev s__law_told : Stmt := top 16
theorem sc__law_told : FnScope ["what"] ["what"] (defScope s__law_told) := ⟨rfl, rfl, rfl, by decide +kernel, rfl, by decide +kernel, by decide +kernel⟩
theorem td_told {P : Program} {K : PySem.W.Frag} {mg : Str → Option Value} (T : Txt K mg P) {fd : FuncData} (F : FnP K "_law_told" s__law_told fd) {X : Cx} (hK : X.K = K) (hmg : X.mg = mg) (hq : lq X = lamQ) : ToldD X "_law_told" "what" (He.fAd K ("_law_told", none)) ["what"] (TTm X.K (toldL K)) := by
  subst hK hmg
  obtain ⟨oc, od, dV, kV, doc, pm, an, cdv, ct, osl, rfl, lk, hcd, hdv, hkw⟩ := F.ex
  refine ⟨oc, od, osl, _, _, _, dV, kV, doc, pm, an, cdv, ct, lk, hcd, F.bindsN fun _ _ _ _ _ _ us hl => match us, hl with | [_], _ => rfl, sc__law_told, rfl, .inl rfl, ?_⟩
  exact told_gives (l := toldL X.K) (fun f => rfl) fun s H => hds_cons ⟨by rfl, by rfl, .inl T.e_NoFit⟩ (hds_cons ⟨by rfl, by rfl, .inl T.e_BadSize⟩ (hds_cons ⟨by rfl, by rfl, .inl T.e_BadPaper⟩ (.nil)))
abbrev s__law_roll : Stmt := top 14
abbrev N__law_roll : List Str := ["dice", "many", "found"]
def b__law_roll : Dn.Env → Out Fl :=
  (dSeq (sIf (tOrD (eTest (eOp2 gEq (eOp2 gIx (eV 0) (eC (.int 2))) (eC (.int 2)))) (tAndD (eTest (eOp2 gEq (eOp2 gIx (eV 0) (eC (.int 2))) (eC (.int 1)))) (eTest (eOp2 gGt (eOp2 gIx (eV 0) (eC (.int 0))) (eC (.int 0)))))) (dSeq (sSet 2 (eOp2 gMod (eOp1 gInt (eOp2 gIx (eV 0) (eC (.int 0)))) (eV 1)))
    (dSeq (sSetIx 0 (eC (.int 0)) (eOp2 gFdiv (eOp2 gIx (eV 0) (eC (.int 0))) (eV 1)))
    (sRet (eV 2)))) dNil)
    (dSeq (sSetIx 0 (eC (.int 2)) (eC (.int 0)))
    (dSeq (sSetIx 0 (eC (.int 0)) (eOp2 gMod (eOp1 gInt (eOp2 gAdd (eOp2 gAdd (eOp2 gMul (eOp2 gIx (eV 0) (eC (.int 0))) (eC (.int 48271))) (eOp2 gMul (eOp2 gIx (eV 0) (eC (.int 1))) (eC (.int 69621)))) (eC (.int 11)))) (eC (.int 2147483647))))
    (dSeq (sSetIx 0 (eC (.int 1)) (eOp2 gAdd (eOp2 gIx (eV 0) (eC (.int 1))) (eC (.int 1))))
    (sRet (eOp2 gMod (eOp1 gInt (eOp2 gAdd (eOp2 gFdiv (eOp2 gIx (eV 0) (eC (.int 0))) (eC (.int 7))) (eOp2 gIx (eV 0) (eC (.int 0))))) (eV 1)))))))
theorem sc__law_roll : FnScope N__law_roll ["dice", "many"] (defScope s__law_roll) := ⟨rfl, rfl, rfl, by decide +kernel, rfl, by decide +kernel, by decide +kernel⟩
theorem ok__law_roll {P : Program} {w : World} {K : PySem.W.Frag} {mg : Str → Option Value} {base : Heap} (Γ : Tx) (T : Txt K mg P) {fd : FuncData} (F : FnP K "_law_roll" s__law_roll fd) {k : Nat} :
    FnOk P w K mg base (L2.CX P w) (k + 1) (He.fAd K ("_law_roll", none)) fd ["dice", "many"] (spD Γ 3 2 [0] (defDen 3 [0] (b__law_roll))) := by
  refine def_okD Γ [0] (b__law_roll) F sc__law_roll rfl rfl fun A outer s H E hr hp tk => ?_
  have nd := sc__law_roll.nd
  have hu4 : (cxD P w K mg base N__law_roll "_law_roll" (defScope s__law_roll) (He.fAd K ("_law_roll", none)) (.ref (He.codeOf K ("_law_roll", none))) A outer s H E).A.units + 64 < cLine := room_u hr 64 (by decide)
  have hu5 : (cxD P w K mg base N__law_roll "_law_roll" (defScope s__law_roll) (He.fAd K ("_law_roll", none)) (.ref (He.codeOf K ("_law_roll", none))) A outer s H E).A.units + 65 < cLine := room_u hr 65 (by decide)
  have hu6 : (cxD P w K mg base N__law_roll "_law_roll" (defScope s__law_roll) (He.fAd K ("_law_roll", none)) (.ref (He.codeOf K ("_law_roll", none))) A outer s H E).A.units + 66 < cLine := room_u hr 66 (by decide)
  exact (qss_cons (qs_if (QW.qt (qw_or (qt_cmp (op_eqA hu4) o2_eq (qe_ix (qv 0) qe_int) qe_int) (qw_or1 (QW.qt (qw_and (qt_cmp (op_eqA hu4) o2_eq (qe_ix (qv 0) qe_int) qe_int) (qw_and1 (qt_cmp (op_gtD hu4) o2_gt (qe_ix (qv 0) qe_int) qe_int))))))) (qss_cons (qs_set (i := 2) nd rfl (by first | exact .inl rfl | exact .inr rfl) (qe_op2 op_modN o2_mod (qe_callT1 call_int1 o1_int (by rfl) T.n_int bt_int (qe_ix (qv 0) qe_int)) (qv 1)))
    (qss_cons (qs_setIx 0 (qe_op2 op_fdivN o2_fdiv (qe_ix (qv 0) qe_int) (qv 1)) qe_int)
    (qss_one (qs_ret (qv 2))))) qss_nil)
    (qss_cons (qs_setIx 0 qe_int qe_int)
    (qss_cons (qs_setIx 0 (qe_op2 op_modN o2_mod (qe_callT1 call_int1 o1_int (by rfl) T.n_int bt_int (qe_op2 op_addD o2_add (qe_op2 op_addD o2_add (qe_op2 op_mulD o2_mul (qe_ix (qv 0) qe_int) qe_int) (qe_op2 op_mulD o2_mul (qe_ix (qv 0) qe_int) qe_int)) qe_int)) qe_int) qe_int)
    (qss_cons (qs_setIx 0 (qe_op2 op_addD o2_add (qe_ix (qv 0) qe_int) qe_int) qe_int)
    (qss_one (qs_ret (qe_op2 op_modN o2_mod (qe_callT1 call_int1 o1_int (by rfl) T.n_int bt_int (qe_op2 op_addD o2_add (qe_op2 op_fdivN o2_fdiv (qe_ix (qv 0) qe_int) qe_int) (qe_ix (qv 0) qe_int))) (qv 1))))))))
abbrev s_check_seams : Stmt := top 7
abbrev N_check_seams : List Str := ["many", "before"]
def b_check_seams : Dn.Env → Out Fl :=
  (sIf (eTest (eGen agAny [0] (gSeq 2 (eV 1)) xYes (xOr (x2 xEq (fun ρ => ρ[0]?) (fun ρ => ρ[1]?)) (xOr (xNot (xChain xLe xLt (fun _ => some (.int 0)) (fun ρ => ρ[0]?) (fun ρ => ρ[2]?))) (xNot (xChain xLe xLt (fun _ => some (.int 0)) (fun ρ => ρ[1]?) (fun ρ => ρ[2]?))))))) (sRaise .size) dNil)
theorem sc_check_seams : FnScope N_check_seams ["many", "before"] (defScope s_check_seams) := ⟨rfl, rfl, rfl, by decide +kernel, rfl, by decide +kernel, by decide +kernel⟩
theorem ok_check_seams {P : Program} {w : World} {K : PySem.W.Frag} {mg : Str → Option Value} {base : Heap} (Γ : Tx) (T : Txt K mg P) {fd : FuncData} (F : FnP K "check_seams" s_check_seams fd) {k : Nat}
    (hx_BadSize : Γ.cls .size = .ref (He.ga K "BadSize"))
    (TB : GxR.TabB base mg (He.cT K ("check_seams", none)).1 (He.cT K ("check_seams", none)).2) (hT : (He.cT K ("check_seams", none)).2 ∈ Γ.TG) (hTl : ∀ p ∈ Γ.T, p.1 ≠ (He.cT K ("check_seams", none)).2) :
    FnOk P w K mg base (L2.CX P w) (k + 1) (He.fAd K ("check_seams", none)) fd ["many", "before"] (spD Γ 2 2 [] (defDen 2 [] (b_check_seams))) := by
  refine def_okD Γ [] (b_check_seams) F sc_check_seams rfl rfl fun A outer s H E hr hp tk => ?_
  have nd := sc_check_seams.nd
  have hu4 : (cxD P w K mg base N_check_seams "check_seams" (defScope s_check_seams) (He.fAd K ("check_seams", none)) (.ref (He.codeOf K ("check_seams", none))) A outer s H E).A.units + 64 < cLine := room_u hr 64 (by decide)
  have hu5 : (cxD P w K mg base N_check_seams "check_seams" (defScope s_check_seams) (He.fAd K ("check_seams", none)) (.ref (He.codeOf K ("check_seams", none))) A outer s H E).A.units + 65 < cLine := room_u hr 65 (by decide)
  have hu6 : (cxD P w K mg base N_check_seams "check_seams" (defScope s_check_seams) (He.fAd K ("check_seams", none)) (.ref (He.codeOf K ("check_seams", none))) A outer s H E).A.units + 66 < cLine := room_u hr 66 (by decide)
  exact (qss_one (qs_if (qt_val (qe_gen (tn := ["one", "other"]) (cn := ["many"]) (Bl := fun _ => none) [0] ag_any (by rfl) T.n_any bt_any hr TB rfl hT hTl (gscp_by (sc := defScope s_check_seams) rfl (by decide +kernel)) (fun _ _ e => by cases e) (capN_by (N := N_check_seams) rfl (by decide +kernel)) rfl (gsrc_seq (by constructor) (qv 1) hr.hd) (px_or (px_cmp ox_eq (px_var 0) (px_var 1)) (px_or (px_not (px_chain ox_le ox_lt px_int (px_var 0) (px_var 2))) (px_one (px_not (px_chain ox_le ox_lt px_int (px_var 1) (px_var 2)))))) pxts_nil)) (qss_one (qs_raise .size rfl tk PySem.F.excBase_ValueError T.x_BadSize T.e_BadSize T.ke_BadSize (raises_own T.sb_BadSize T.ty_BadSize) (by rfl) hx_BadSize)) qss_nil))
abbrev s_first_order : Stmt := top 8
abbrev N_first_order : List Str := ["many", "before", "found", "ready", "k"]
def b_first_order (F_check_seams : List D → FOut) : Dn.Env → Out Fl :=
  (dSeq (sDrop (eCall [] F_check_seams (aVal (eV 0) (aVal (eV 1) aNil))))
    (dSeq (sSet 2 (dLst fNil))
    (dSeq (whileD (eTest (eOp2 gLt (eOp1 gLen (eV 2)) (eV 0))) (dSeq (sSet 3 (eLc [4] (wRng1 (fCons (eV 0) fNil)) (gN 4) (tAndD (eTest (eOp2 (gInS false) (eV 4) (eV 2))) (eTest (eGen agAll [2, 4] (gSeq 2 (eV 1)) (fun ρ => xB ((x2 xEq (fun ρ => ρ[1]?) (fun ρ => ρ[3]?)) ρ)) (x2 (xIn true) (fun ρ => ρ[0]?) (fun ρ => ρ[2]?))))) (eV 4)))
    (dSeq (sIf (eTest (eOp2 gEq (eV 3) (dLst fNil))) (sRaise .fit) dNil)
    (sDrop (eMut mAppend 2 (fCons (eOp2 gIx (eV 3) (eC (.int 0))) fNil))))) 1000)
    (sRet (eOp1 gTupleOf (eV 2))))))
theorem sc_first_order : FnScope N_first_order ["many", "before"] (defScope s_first_order) := ⟨rfl, rfl, rfl, by decide +kernel, rfl, by decide +kernel, by decide +kernel⟩
theorem ok_first_order {P : Program} {w : World} {K : PySem.W.Frag} {mg : Str → Option Value} {base : Heap} (Γ : Tx) (T : Txt K mg P) {fd : FuncData} (F : FnP K "first_order" s_first_order fd) {k : Nat}
    {fd_check_seams : FuncData} {k_check_seams : Nat} {F_check_seams : List D → FOut} (G_check_seams : FnOk P w K mg base (L2.CX P w) k_check_seams (He.fAd K ("check_seams", none)) fd_check_seams ["many", "before"] (spD Γ 2 2 [] F_check_seams)) (B_check_seams : L2.Binds K fd_check_seams ["many", "before"] []) (hk_check_seams : k_check_seams ≤ k)
    (hx_NoFit : Γ.cls .fit = .ref (He.ga K "NoFit"))
    (TB : GxR.TabB base mg (He.cT K ("first_order", none)).1 (He.cT K ("first_order", none)).2) (hT : (He.cT K ("first_order", none)).2 ∈ Γ.TG) (hTl : ∀ p ∈ Γ.T, p.1 ≠ (He.cT K ("first_order", none)).2) :
    FnOk P w K mg base (L2.CX P w) (k + 1) (He.fAd K ("first_order", none)) fd ["many", "before"] (spD Γ 5 2 [] (defDen 5 [] (b_first_order F_check_seams))) := by
  refine def_okD Γ [] (b_first_order F_check_seams) F sc_first_order rfl rfl fun A outer s H E hr hp tk => ?_
  have nd := sc_first_order.nd
  have hu4 : (cxD P w K mg base N_first_order "first_order" (defScope s_first_order) (He.fAd K ("first_order", none)) (.ref (He.codeOf K ("first_order", none))) A outer s H E).A.units + 64 < cLine := room_u hr 64 (by decide)
  have hu5 : (cxD P w K mg base N_first_order "first_order" (defScope s_first_order) (He.fAd K ("first_order", none)) (.ref (He.codeOf K ("first_order", none))) A outer s H E).A.units + 65 < cLine := room_u hr 65 (by decide)
  have hu6 : (cxD P w K mg base N_first_order "first_order" (defScope s_first_order) (He.fAd K ("first_order", none)) (.ref (He.codeOf K ("first_order", none))) A outer s H E).A.units + 66 < cLine := room_u hr 66 (by decide)
  exact (qss_cons (qs_expr (qe_call G_check_seams tk (hr.mono hk_check_seams) (by rfl) T.g_check_seams T.k_check_seams B_check_seams (by decide) (by decide) rfl (qa_val (qv 0) (qa_val (qv 1) qa_nil))))
    (qss_cons (qs_set (i := 2) nd rfl (by first | exact .inl rfl | exact .inr rfl) (qe_lst qf_nil))
    (qss_cons (qs_while 1000 hp (qt_cmp (op_ltD hu4) o2_lt (qe_call1 cr_lenD o1_len (by rfl) T.n_len bt_len (qv 2)) (qv 0)) (qss_cons (qs_setLc (i := 3) (own := [("k", 4)]) rfl nd rfl rfl (sw_true rfl rfl rfl (by decide +kernel)) (qi_range1 (by rfl) T.n_range (qf_cons (qv 0) qf_nil)) (blkOk_by (own := [("k", 4)]) (N := N_first_order) (sc := defScope s_first_order) (by decide +kernel)) (fun _ => (qg_name (i := 4) nd rfl (by first | exact .inl rfl | exact .inr rfl))) (fun _ => (qts_one (QW.qt (qw_and (qt_cmp (op_ninS hu5) o2_inS (qv 4) (qv 2)) (qw_and1 (qt_val (qe_gen (tn := ["one", "other"]) (cn := ["found", "k"]) (Bl := fun _ => none) [2, 4] ag_all (by rfl) T.n_all bt_all hr TB rfl hT hTl (gscp_by rfl (by kernel_rfl)) (fun _ _ e => by cases e) (capN_by (N := N_first_order) rfl (by decide +kernel)) rfl (gsrc_seq (by constructor) (qv 1) hr.hd) (px_cmp ox_in (px_var 0) (px_var 2)) (pxts_one (pxt_cmp ox_eq (px_var 1) (px_var 3)))))))))) (fun _ => (qv 4)) (by decide))
    (qss_cons (qs_if (qt_cmp (op_eqA hu4) o2_eq (qv 3) (qe_lst qf_nil)) (qss_one (qs_raise .fit rfl tk PySem.F.excBase_ValueError T.x_NoFit T.e_NoFit T.ke_NoFit (raises_own T.sb_NoFit T.ty_NoFit) (by rfl) hx_NoFit)) qss_nil)
    (qss_one (qs_expr (qe_mut 2 mt_append mo_append PySem.F.plainAttrs_list PySem.F.slot_list_append PySem.F.type_list_append (qf_cons (qe_ix (qv 3) qe_int) qf_nil)))))))
    (qss_one (qs_ret (qe_callT1 call_tuple_of o1_tuple (by rfl) T.n_tuple bt_tuple (qv 2)))))))
abbrev s_placed : Stmt := top 10
abbrev N_placed : List Str := ["times", "before", "beat", "many", "row", "k", "place", "load", "early", "late", "found"]
def b_placed (F_placed : List D → FOut) : Dn.Env → Out Fl :=
  (dSeq (sSet 5 (eOp1 gLen (eV 4)))
    (dSeq (sIf (eTest (eOp2 gEq (eV 5) (eOp1 gLen (eV 0)))) (sRet (eV 4)) dNil)
    (dSeq (sFor (wRng1 (fCons (eV 3) fNil)) (gN 6) (dSeq (sSet 7 (eGen agSum [0, 6, 4] (gRng1 (fCons (eV 5) fNil)) (fun ρ => xB ((x2 xEq (x2 xIx (fun ρ => ρ[3]?) (fun ρ => ρ[0]?)) (fun ρ => ρ[2]?)) ρ)) (x2 xIx (fun ρ => ρ[1]?) (fun ρ => ρ[0]?))))
    (dSeq (sSet 8 (eGen agAll [6, 4, 5] (gSeq 2 (eV 1)) (yAnd (fun ρ => xB ((x2 xEq (fun ρ => ρ[1]?) (fun ρ => ρ[4]?)) ρ)) (fun ρ => xB ((x2 xLt (fun ρ => ρ[0]?) (fun ρ => ρ[4]?)) ρ))) (x2 xLe (x2 xIx (fun ρ => ρ[3]?) (fun ρ => ρ[0]?)) (fun ρ => ρ[2]?))))
    (dSeq (sSet 9 (eGen agAll [6, 4, 5] (gSeq 2 (eV 1)) (yAnd (fun ρ => xB ((x2 xEq (fun ρ => ρ[0]?) (fun ρ => ρ[4]?)) ρ)) (fun ρ => xB ((x2 xLt (fun ρ => ρ[1]?) (fun ρ => ρ[4]?)) ρ))) (x2 xLe (fun ρ => ρ[2]?) (x2 xIx (fun ρ => ρ[3]?) (fun ρ => ρ[1]?)))))
    (sIf (tAndD (eTest (eOp2 gLe (eOp2 gAdd (eV 7) (eOp2 gIx (eV 0) (eV 5))) (eV 2))) (tAndD (eTest (eV 8)) (eTest (eV 9)))) (dSeq (sSet 10 (eCall [] F_placed (aVal (eV 0) (aVal (eV 1) (aVal (eV 2) (aVal (eV 3) (aVal (eOp2 gAdd (eV 4) (dTup (fCons (eV 6) fNil))) aNil)))))))
    (sIf (eTest (eOp2 (gIsN false) (eV 10) (eC .none))) (sRet (eV 10)) dNil)) dNil)))))
    (sRet (eC .none)))))
theorem sc_placed : FnScope N_placed ["times", "before", "beat", "many", "row"] (defScope s_placed) := ⟨rfl, rfl, rfl, by decide +kernel, rfl, by decide +kernel, by decide +kernel⟩
theorem ok_placed {P : Program} {w : World} {K : PySem.W.Frag} {mg : Str → Option Value} {base : Heap} (Γ : Tx) (T : Txt K mg P) {fd : FuncData} (F : FnP K "placed" s_placed fd) {k : Nat}
    {fd_placed : FuncData} {k_placed : Nat} {F_placed : List D → FOut} (G_placed : FnOk P w K mg base (L2.CX P w) k_placed (He.fAd K ("placed", none)) fd_placed ["times", "before", "beat", "many", "row"] (spD Γ 11 5 [] F_placed)) (B_placed : L2.Binds K fd_placed ["times", "before", "beat", "many", "row"] []) (hk_placed : k_placed ≤ k)
    (TB : GxR.TabB base mg (He.cT K ("placed", none)).1 (He.cT K ("placed", none)).2) (hT : (He.cT K ("placed", none)).2 ∈ Γ.TG) (hTl : ∀ p ∈ Γ.T, p.1 ≠ (He.cT K ("placed", none)).2) :
    FnOk P w K mg base (L2.CX P w) (k + 1) (He.fAd K ("placed", none)) fd ["times", "before", "beat", "many", "row"] (spD Γ 11 5 [] (defDen 11 [] (b_placed F_placed))) := by
  refine def_okD Γ [] (b_placed F_placed) F sc_placed rfl rfl fun A outer s H E hr hp tk => ?_
  have nd := sc_placed.nd
  have hu4 : (cxD P w K mg base N_placed "placed" (defScope s_placed) (He.fAd K ("placed", none)) (.ref (He.codeOf K ("placed", none))) A outer s H E).A.units + 64 < cLine := room_u hr 64 (by decide)
  have hu5 : (cxD P w K mg base N_placed "placed" (defScope s_placed) (He.fAd K ("placed", none)) (.ref (He.codeOf K ("placed", none))) A outer s H E).A.units + 65 < cLine := room_u hr 65 (by decide)
  have hu6 : (cxD P w K mg base N_placed "placed" (defScope s_placed) (He.fAd K ("placed", none)) (.ref (He.codeOf K ("placed", none))) A outer s H E).A.units + 66 < cLine := room_u hr 66 (by decide)
  exact (qss_cons (qs_set (i := 5) nd rfl (by first | exact .inl rfl | exact .inr rfl) (qe_call1 cr_lenD o1_len (by rfl) T.n_len bt_len (qv 4)))
    (qss_cons (qs_if (qt_cmp (op_eqA hu4) o2_eq (qv 5) (qe_call1 cr_lenD o1_len (by rfl) T.n_len bt_len (qv 0))) (qss_one (qs_ret (qv 4))) qss_nil)
    (qss_cons (qs_for hp rfl (qi_range1 (by rfl) T.n_range (qf_cons (qv 3) qf_nil)) (qg_name (i := 6) nd rfl (by first | exact .inl rfl | exact .inr rfl)) (qss_cons (qs_set (i := 7) nd rfl (by first | exact .inl rfl | exact .inr rfl) (qe_gen (tn := ["j"]) (cn := ["times", "place", "row"]) (Bl := fun _ => none) [0, 6, 4] ag_sum (by rfl) T.n_sum bt_sum hr TB rfl hT hTl (gscp_by (sc := defScope s_placed) rfl (by decide +kernel)) (fun _ _ e => by cases e) (capN_by (N := N_placed) rfl (by decide +kernel)) rfl (gsrc_rng1 (by constructor) rfl hr.hd (by rfl) T.n_range (qf_cons (qv 5) qf_nil)) (px_ix (px_var 1) (px_var 0)) (pxts_one (pxt_cmp ox_eq (px_ix (px_var 3) (px_var 0)) (px_var 2)))))
    (qss_cons (qs_set (i := 8) nd rfl (by first | exact .inl rfl | exact .inr rfl) (qe_gen (tn := ["one", "other"]) (cn := ["place", "row", "k"]) (Bl := fun _ => none) [6, 4, 5] ag_all (by rfl) T.n_all bt_all hr TB rfl hT hTl (gscp_by (sc := defScope s_placed) rfl (by decide +kernel)) (fun _ _ e => by cases e) (capN_by (N := N_placed) rfl (by decide +kernel)) rfl (gsrc_seq (by constructor) (qv 1) hr.hd) (px_cmp ox_le (px_ix (px_var 3) (px_var 0)) (px_var 2)) (pxts_one (PXW.pxt (pxw_and (pxt_cmp ox_eq (px_var 1) (px_var 4)) (pxw_and1 (pxt_cmp ox_lt (px_var 0) (px_var 4))))))))
    (qss_cons (qs_set (i := 9) nd rfl (by first | exact .inl rfl | exact .inr rfl) (qe_gen (tn := ["one", "other"]) (cn := ["place", "row", "k"]) (Bl := fun _ => none) [6, 4, 5] ag_all (by rfl) T.n_all bt_all hr TB rfl hT hTl (gscp_by (sc := defScope s_placed) rfl (by decide +kernel)) (fun _ _ e => by cases e) (capN_by (N := N_placed) rfl (by decide +kernel)) rfl (gsrc_seq (by constructor) (qv 1) hr.hd) (px_cmp ox_le (px_var 2) (px_ix (px_var 3) (px_var 1))) (pxts_one (PXW.pxt (pxw_and (pxt_cmp ox_eq (px_var 0) (px_var 4)) (pxw_and1 (pxt_cmp ox_lt (px_var 1) (px_var 4))))))))
    (qss_one (qs_if (QW.qt (qw_and (qt_cmp (op_leD hu4) o2_le (qe_op2 op_addD o2_add (qv 7) (qe_ix (qv 0) (qv 5))) (qv 2)) (qw_and (qt_val (qv 8)) (qw_and1 (qt_val (qv 9)))))) (qss_cons (qs_set (i := 10) nd rfl (by first | exact .inl rfl | exact .inr rfl) (qe_call G_placed tk (hr.mono hk_placed) (by rfl) T.g_placed T.k_placed B_placed (by decide) (by decide) rfl (qa_val (qv 0) (qa_val (qv 1) (qa_val (qv 2) (qa_val (qv 3) (qa_val (qe_op2 op_addD o2_add (qv 4) (qe_tup (qf_cons (qv 6) qf_nil))) qa_nil)))))))
    (qss_one (qs_if (qt_cmp op_notN o2_notN (qv 10) qe_non) (qss_one (qs_ret (qv 10))) qss_nil))) qss_nil))))))
    (qss_one (qs_ret qe_non)))))
abbrev s_places : Stmt := top 9
abbrev N_places : List Str := ["times", "before", "beat", "many", "row"]
def b_places (F_check_seams F_first_order F_placed : List D → FOut) : Dn.Env → Out Fl :=
  (dSeq (sDrop (eCall [] F_check_seams (aVal (eOp1 gLen (eV 0)) (aVal (eV 1) aNil))))
    (dSeq (sIf (eTest (eGen agAny [2] (gSeq 1 (eV 0)) xYes (xOr (x2 xGt (fun ρ => ρ[0]?) (fun ρ => ρ[1]?)) (x2 xLt (fun ρ => ρ[0]?) (fun _ => some (.int 1)))))) (sRaise .fit) dNil)
    (dSeq (sIf (eTest (eOp2 gGt (eOp1 gLen (eV 0)) (eC (.int 9)))) (sRaise .large) dNil)
    (dSeq (sDrop (eCall [] F_first_order (aVal (eOp1 gLen (eV 0)) (aVal (eV 1) aNil))))
    (dSeq (sFor (wRng1 (fCons (eOp2 gAdd (eOp1 gLen (eV 0)) (eC (.int 1))) fNil)) (gN 3) (dSeq (sSet 4 (eCall [] F_placed (aVal (eV 0) (aVal (eV 1) (aVal (eV 2) (aVal (eV 3) (aVal (dTup fNil) aNil)))))))
    (sIf (eTest (eOp2 (gIsN false) (eV 4) (eC .none))) (sRet (dTup (fCons (eV 3) (fCons (eV 4) fNil)))) dNil)))
    (sRaise .fit))))))
theorem sc_places : FnScope N_places ["times", "before", "beat"] (defScope s_places) := ⟨rfl, rfl, rfl, by decide +kernel, rfl, by decide +kernel, by decide +kernel⟩
theorem ok_places {P : Program} {w : World} {K : PySem.W.Frag} {mg : Str → Option Value} {base : Heap} (Γ : Tx) (T : Txt K mg P) {fd : FuncData} (F : FnP K "places" s_places fd) {k : Nat}
    {fd_check_seams : FuncData} {k_check_seams : Nat} {F_check_seams : List D → FOut} (G_check_seams : FnOk P w K mg base (L2.CX P w) k_check_seams (He.fAd K ("check_seams", none)) fd_check_seams ["many", "before"] (spD Γ 2 2 [] F_check_seams)) (B_check_seams : L2.Binds K fd_check_seams ["many", "before"] []) (hk_check_seams : k_check_seams ≤ k)
    {fd_first_order : FuncData} {k_first_order : Nat} {F_first_order : List D → FOut} (G_first_order : FnOk P w K mg base (L2.CX P w) k_first_order (He.fAd K ("first_order", none)) fd_first_order ["many", "before"] (spD Γ 5 2 [] F_first_order)) (B_first_order : L2.Binds K fd_first_order ["many", "before"] []) (hk_first_order : k_first_order ≤ k)
    {fd_placed : FuncData} {k_placed : Nat} {F_placed : List D → FOut} (G_placed : FnOk P w K mg base (L2.CX P w) k_placed (He.fAd K ("placed", none)) fd_placed ["times", "before", "beat", "many", "row"] (spD Γ 11 5 [] F_placed)) (B_placed : L2.Binds K fd_placed ["times", "before", "beat", "many", "row"] []) (hk_placed : k_placed ≤ k)
    (hx_NoFit : Γ.cls .fit = .ref (He.ga K "NoFit"))
    (hx_TooLarge : Γ.cls .large = .ref (He.ga K "TooLarge"))
    (TB : GxR.TabB base mg (He.cT K ("places", none)).1 (He.cT K ("places", none)).2) (hT : (He.cT K ("places", none)).2 ∈ Γ.TG) (hTl : ∀ p ∈ Γ.T, p.1 ≠ (He.cT K ("places", none)).2) :
    FnOk P w K mg base (L2.CX P w) (k + 1) (He.fAd K ("places", none)) fd ["times", "before", "beat"] (spD Γ 5 3 [] (defDen 5 [] (b_places F_check_seams F_first_order F_placed))) := by
  refine def_okD Γ [] (b_places F_check_seams F_first_order F_placed) F sc_places rfl rfl fun A outer s H E hr hp tk => ?_
  have nd := sc_places.nd
  have hu4 : (cxD P w K mg base N_places "places" (defScope s_places) (He.fAd K ("places", none)) (.ref (He.codeOf K ("places", none))) A outer s H E).A.units + 64 < cLine := room_u hr 64 (by decide)
  have hu5 : (cxD P w K mg base N_places "places" (defScope s_places) (He.fAd K ("places", none)) (.ref (He.codeOf K ("places", none))) A outer s H E).A.units + 65 < cLine := room_u hr 65 (by decide)
  have hu6 : (cxD P w K mg base N_places "places" (defScope s_places) (He.fAd K ("places", none)) (.ref (He.codeOf K ("places", none))) A outer s H E).A.units + 66 < cLine := room_u hr 66 (by decide)
  exact (qss_cons (qs_expr (qe_call G_check_seams tk (hr.mono hk_check_seams) (by rfl) T.g_check_seams T.k_check_seams B_check_seams (by decide) (by decide) rfl (qa_val (qe_call1 cr_lenD o1_len (by rfl) T.n_len bt_len (qv 0)) (qa_val (qv 1) qa_nil))))
    (qss_cons (qs_if (qt_val (qe_gen (tn := ["time"]) (cn := ["beat"]) (Bl := fun _ => none) [2] ag_any (by rfl) T.n_any bt_any hr TB rfl hT hTl (gscp_by (sc := defScope s_places) rfl (by decide +kernel)) (fun _ _ e => by cases e) (capN_by (N := N_places) rfl (by decide +kernel)) rfl (gsrc_seq (by constructor) (qv 0) hr.hd) (px_or (px_cmp ox_gt (px_var 0) (px_var 1)) (px_one (px_cmp ox_lt (px_var 0) px_int))) pxts_nil)) (qss_one (qs_raise .fit rfl tk PySem.F.excBase_ValueError T.x_NoFit T.e_NoFit T.ke_NoFit (raises_own T.sb_NoFit T.ty_NoFit) (by rfl) hx_NoFit)) qss_nil)
    (qss_cons (qs_if (qt_cmp (op_gtD hu4) o2_gt (qe_call1 cr_lenD o1_len (by rfl) T.n_len bt_len (qv 0)) qe_int) (qss_one (qs_raise .large rfl tk PySem.F.excBase_ValueError T.x_TooLarge T.e_TooLarge T.ke_TooLarge (raises_own T.sb_TooLarge T.ty_TooLarge) (by rfl) hx_TooLarge)) qss_nil)
    (qss_cons (qs_expr (qe_call G_first_order tk (hr.mono hk_first_order) (by rfl) T.g_first_order T.k_first_order B_first_order (by decide) (by decide) rfl (qa_val (qe_call1 cr_lenD o1_len (by rfl) T.n_len bt_len (qv 0)) (qa_val (qv 1) qa_nil))))
    (qss_cons (qs_for hp rfl (qi_range1 (by rfl) T.n_range (qf_cons (qe_op2 op_addD o2_add (qe_call1 cr_lenD o1_len (by rfl) T.n_len bt_len (qv 0)) qe_int) qf_nil)) (qg_name (i := 3) nd rfl (by first | exact .inl rfl | exact .inr rfl)) (qss_cons (qs_set (i := 4) nd rfl (by first | exact .inl rfl | exact .inr rfl) (qe_call G_placed tk (hr.mono hk_placed) (by rfl) T.g_placed T.k_placed B_placed (by decide) (by decide) rfl (qa_val (qv 0) (qa_val (qv 1) (qa_val (qv 2) (qa_val (qv 3) (qa_val (qe_tup qf_nil) qa_nil)))))))
    (qss_one (qs_if (qt_cmp op_notN o2_notN (qv 4) qe_non) (qss_one (qs_ret (qe_tup (qf_cons (qv 3) (qf_cons (qv 4) qf_nil))))) qss_nil))))
    (qss_one (qs_raise .fit rfl tk PySem.F.excBase_ValueError T.x_NoFit T.e_NoFit T.ke_NoFit (raises_own T.sb_NoFit T.ty_NoFit) (by rfl) hx_NoFit)))))))
abbrev s_look_places : Stmt := top 11
abbrev N_look_places : List Str := ["times", "before", "beat", "row", "k"]
def b_look_places : Dn.Env → Out Fl :=
  (sFor (wRng1 (fCons (eOp1 gLen (eV 0)) fNil)) (gN 4) (dSeq (sIf (eTest (eOp2 gGt (eGen agSum [0, 3, 4] (gRng1 (fCons (eOp2 gAdd (eV 4) (eC (.int 1))) fNil)) (fun ρ => xB ((x2 xEq (x2 xIx (fun ρ => ρ[2]?) (fun ρ => ρ[0]?)) (x2 xIx (fun ρ => ρ[2]?) (fun ρ => ρ[3]?))) ρ)) (x2 xIx (fun ρ => ρ[1]?) (fun ρ => ρ[0]?))) (eV 2))) (sRaiseE .paper (eV 4)) dNil)
    (sIf (eTest (eGen agAny [4, 3] (gSeq 2 (eV 1)) xYes (xAnd (x2 xEq (fun ρ => ρ[1]?) (fun ρ => ρ[2]?)) (x2 xGt (x2 xIx (fun ρ => ρ[3]?) (fun ρ => ρ[0]?)) (x2 xIx (fun ρ => ρ[3]?) (fun ρ => ρ[2]?)))))) (sRaiseE .paper (eV 4)) dNil)))
theorem sc_look_places : FnScope N_look_places ["times", "before", "beat", "row"] (defScope s_look_places) := ⟨rfl, rfl, rfl, by decide +kernel, rfl, by decide +kernel, by decide +kernel⟩
theorem ok_look_places {P : Program} {w : World} {K : PySem.W.Frag} {mg : Str → Option Value} {base : Heap} (Γ : Tx) (T : Txt K mg P) {fd : FuncData} (F : FnP K "look_places" s_look_places fd) {k : Nat}
    (hkR : 2 ≤ k)
    (hx_BadPaper : Γ.cls .paper = .ref (He.ga K "BadPaper"))
    (TB : GxR.TabB base mg (He.cT K ("look_places", none)).1 (He.cT K ("look_places", none)).2) (hT : (He.cT K ("look_places", none)).2 ∈ Γ.TG) (hTl : ∀ p ∈ Γ.T, p.1 ≠ (He.cT K ("look_places", none)).2) :
    FnOk P w K mg base (L2.CX P w) (k + 1) (He.fAd K ("look_places", none)) fd ["times", "before", "beat", "row"] (spD Γ 5 4 [] (defDen 5 [] (b_look_places))) := by
  refine def_okD Γ [] (b_look_places) F sc_look_places rfl rfl fun A outer s H E hr hp tk => ?_
  have nd := sc_look_places.nd
  have hu4 : (cxD P w K mg base N_look_places "look_places" (defScope s_look_places) (He.fAd K ("look_places", none)) (.ref (He.codeOf K ("look_places", none))) A outer s H E).A.units + 64 < cLine := room_u hr 64 (by decide)
  have hu5 : (cxD P w K mg base N_look_places "look_places" (defScope s_look_places) (He.fAd K ("look_places", none)) (.ref (He.codeOf K ("look_places", none))) A outer s H E).A.units + 65 < cLine := room_u hr 65 (by decide)
  have hu6 : (cxD P w K mg base N_look_places "look_places" (defScope s_look_places) (He.fAd K ("look_places", none)) (.ref (He.codeOf K ("look_places", none))) A outer s H E).A.units + 66 < cLine := room_u hr 66 (by decide)
  exact (qss_one (qs_for hp rfl (qi_range1 (by rfl) T.n_range (qf_cons (qe_call1 cr_lenD o1_len (by rfl) T.n_len bt_len (qv 0)) qf_nil)) (qg_name (i := 4) nd rfl (by first | exact .inl rfl | exact .inr rfl)) (qss_cons (qs_if (qt_cmp (op_gtD hu4) o2_gt (qe_gen (tn := ["j"]) (cn := ["times", "row", "k"]) (Bl := fun _ => none) [0, 3, 4] ag_sum (by rfl) T.n_sum bt_sum hr TB rfl hT hTl (gscp_by (sc := defScope s_look_places) rfl (by decide +kernel)) (fun _ _ e => by cases e) (capN_by (N := N_look_places) rfl (by decide +kernel)) rfl (gsrc_rng1 (by constructor) rfl hr.hd (by rfl) T.n_range (qf_cons (qe_op2 op_addD o2_add (qv 4) qe_int) qf_nil)) (px_ix (px_var 1) (px_var 0)) (pxts_one (pxt_cmp ox_eq (px_ix (px_var 2) (px_var 0)) (px_ix (px_var 2) (px_var 3))))) (qv 2)) (qss_one (qs_raiseE .paper rfl tk pd_ok T.pp (raises_own T.sb_BadPaper T.ty_BadPaper) (hr.mono hkR) (by rfl) T.e_BadPaper (hx_BadPaper) (qv 4))) qss_nil)
    (qss_one (qs_if (qt_val (qe_gen (tn := ["one", "other"]) (cn := ["k", "row"]) (Bl := fun _ => none) [4, 3] ag_any (by rfl) T.n_any bt_any hr TB rfl hT hTl (gscp_by (sc := defScope s_look_places) rfl (by decide +kernel)) (fun _ _ e => by cases e) (capN_by (N := N_look_places) rfl (by decide +kernel)) rfl (gsrc_seq (by constructor) (qv 1) hr.hd) (px_and (px_cmp ox_eq (px_var 1) (px_var 2)) (px_one (px_cmp ox_gt (px_ix (px_var 3) (px_var 0)) (px_ix (px_var 3) (px_var 2))))) pxts_nil)) (qss_one (qs_raiseE .paper rfl tk pd_ok T.pp (raises_own T.sb_BadPaper T.ty_BadPaper) (hr.mono hkR) (by rfl) T.e_BadPaper (hx_BadPaper) (qv 4))) qss_nil)))))
abbrev s__law_dice : Stmt := top 13
abbrev N__law_dice : List Str := ["cell"]
def b__law_dice : Dn.Env → Out Fl :=
  (dSeq (sIf (eTest (eChain gLt gLt (eOp2 gSub (eC (.int 0)) (eC (.int 10))) (eV 0) (eC (.int 10)))) (sRet (dLst (fCons (eOp1 gAbs (eV 0)) (fCons (eC (.int 0)) (fCons (eC (.int 2)) fNil))))) dNil)
    (sRet (dLst (fCons (eV 0) (fCons (eOp2 gAdd (eC (.int 1)) (eOp2 gMod (eOp1 gInt (eV 0)) (eC (.int 1009)))) (fCons (eOp1 gInt (eOp2 gGe (eV 0) (eOp2 gPow (eC (.int 10)) (eC (.int 18))))) fNil))))))
theorem sc__law_dice : FnScope N__law_dice ["cell"] (defScope s__law_dice) := ⟨rfl, rfl, rfl, by decide +kernel, rfl, by decide +kernel, by decide +kernel⟩
theorem ok__law_dice {P : Program} {w : World} {K : PySem.W.Frag} {mg : Str → Option Value} {base : Heap} (Γ : Tx) (T : Txt K mg P) {fd : FuncData} (F : FnP K "_law_dice" s__law_dice fd) {k : Nat} :
    FnOk P w K mg base (L2.CX P w) (k + 1) (He.fAd K ("_law_dice", none)) fd ["cell"] (spD Γ 1 1 [] (defDen 1 [] (b__law_dice))) := by
  refine def_okD Γ [] (b__law_dice) F sc__law_dice rfl rfl fun A outer s H E hr hp tk => ?_
  have nd := sc__law_dice.nd
  have hu4 : (cxD P w K mg base N__law_dice "_law_dice" (defScope s__law_dice) (He.fAd K ("_law_dice", none)) (.ref (He.codeOf K ("_law_dice", none))) A outer s H E).A.units + 64 < cLine := room_u hr 64 (by decide)
  have hu5 : (cxD P w K mg base N__law_dice "_law_dice" (defScope s__law_dice) (He.fAd K ("_law_dice", none)) (.ref (He.codeOf K ("_law_dice", none))) A outer s H E).A.units + 65 < cLine := room_u hr 65 (by decide)
  have hu6 : (cxD P w K mg base N__law_dice "_law_dice" (defScope s__law_dice) (He.fAd K ("_law_dice", none)) (.ref (He.codeOf K ("_law_dice", none))) A outer s H E).A.units + 66 < cLine := room_u hr 66 (by decide)
  exact (qss_cons (qs_if (qt_chain (op_ltD hu4) (op_ltD hu4) o2_lt o2_lt (qe_op2 op_sub o2_sub qe_int qe_int) (qv 0) qe_int) (qss_one (qs_ret (qe_lst (qf_cons (qe_call1 call_abs o1_abs (by rfl) T.n_abs bt_abs (qv 0)) (qf_cons qe_int (qf_cons qe_int qf_nil)))))) qss_nil)
    (qss_one (qs_ret (qe_lst (qf_cons (qv 0) (qf_cons (qe_op2 op_addD o2_add qe_int (qe_op2 op_modN o2_mod (qe_callT1 call_int1 o1_int (by rfl) T.n_int bt_int (qv 0)) qe_int)) (qf_cons (qe_callT1 call_int1 o1_int (by rfl) T.n_int bt_int (qe_cmp (op_geD hu4) o2_ge (qv 0) (qe_op2 op_pow o2_pow qe_int qe_int))) qf_nil)))))))
abbrev s__law_rounds : Stmt := top 15
abbrev N__law_rounds : List Str := ["script", "most", "cells", "cell"]
theorem sc__law_rounds : FnScope N__law_rounds ["script", "most"] (defScope s__law_rounds) := ⟨rfl, rfl, rfl, by decide +kernel, rfl, by decide +kernel, by decide +kernel⟩

theorem dice_den (c : Int) : defDen 1 [] b__law_dice [.int c] = .ok (.ow (.list ((diceOf c).map .int))) [] := by
  have e18 : (10 : Int) ^ Int.toNat 18 = 10 ^ 18 := rfl
  have p18 : CPow 10 18 := by unfold CPow; decide
  unfold defDen b__law_dice diceOf
  by_cases h1 : (-10 : Int) < c
  · by_cases h2 : c < 10
    · simp [dSeq, andThen, sIf, thenS, sRet, sSet, put, dNil, eTest, tst, eChain, eOp2, op2, lift, cont, slotC, eC, eV, eOp1, dLst, dTup, fCons, fNil, stl, Dn.settle, isDic, boolOf, Out.bind, ORes.res, Dn.gSub, gLt, gLe, gGt, gGe, gAdd, gMod, gMul, gMulI, gFdiv, gPow, gAbs, gInt, ig, oelse, startEnv, startAux, Dn.finish, retv, outsOf, h1, h2, p18]
    · simp [dSeq, andThen, sIf, thenS, sRet, sSet, put, dNil, eTest, tst, eChain, eOp2, op2, lift, cont, slotC, eC, eV, eOp1, dLst, dTup, fCons, fNil, stl, Dn.settle, isDic, boolOf, Out.bind, ORes.res, Dn.gSub, gLt, gLe, gGt, gGe, gAdd, gMod, gMul, gMulI, gFdiv, gPow, gAbs, gInt, ig, oelse, startEnv, startAux, Dn.finish, retv, outsOf, h1, h2, p18]
  · simp [dSeq, andThen, sIf, thenS, sRet, sSet, put, dNil, eTest, tst, eChain, eOp2, op2, lift, cont, slotC, eC, eV, eOp1, dLst, dTup, fCons, fNil, stl, Dn.settle, isDic, boolOf, Out.bind, ORes.res, Dn.gSub, gLt, gLe, gGt, gGe, gAdd, gMod, gMul, gMulI, gFdiv, gPow, gAbs, gInt, ig, oelse, startEnv, startAux, Dn.finish, retv, outsOf, h1, p18]
theorem ok__law_rounds {P : Program} {w : World} {K : PySem.W.Frag} {mg : Str → Option Value} {base : Heap} (Γ : Tx) (T : Txt K mg P) {fd : FuncData} (F : FnP K "_law_rounds" s__law_rounds fd) {k : Nat}
    {fd_d : FuncData} {k_d : Nat} (G : FnOk P w K mg base (L2.CX P w) k_d (He.fAd K ("_law_dice", none)) fd_d ["cell"] (spD Γ 1 1 [] (defDen 1 [] b__law_dice))) (B : L2.Binds K fd_d ["cell"] []) (hk : k_d ≤ k) :
    FnOk P w K mg base (L2.CX P w) (k + 1) (He.fAd K ("_law_rounds", none)) fd ["script", "most"] (spRounds Γ K) := by
  obtain ⟨oc, od, dV, kV, doc, pm, an, cdv, ct, osl, rfl, lk, hcd, hdv, hkw⟩ := F.ex
  refine fn_of lk hcd sc__law_rounds (fun vs H Q E h => ?_) (fun A outer s H vs Q E hr h => ?_)
  · obtain ⟨a, ns, m, rfl, _⟩ := h; rfl
  · obtain ⟨a, ns, m, rfl, hm, hS, hb, ht, kk⟩ := h
    have nd := sc__law_rounds.nd
    replace hr : Room k (cxD P w K mg base N__law_rounds "_law_rounds" (defScope s__law_rounds) (He.fAd K ("_law_rounds", none)) cdv A outer s H E).A := hr
    have hu4 : (cxD P w K mg base N__law_rounds "_law_rounds" (defScope s__law_rounds) (He.fAd K ("_law_rounds", none)) cdv A outer s H E).A.units + 64 < cLine := by have := hr.un; omega
    refine ⟨_, pss_cons (ps_set (i := 2) nd rfl (by first | exact .inl rfl | exact .inr rfl) (pe_slice sl_list (pv 0) po_none (po_some (pv 1)))) (pss_cons (ps_if (pt_cmpR (op_eqD hu4) (pv 2) (pe_lst pa_nil) (nomark _)) (pss_one (ps_set (i := 2) nd rfl (by first | exact .inl rfl | exact .inr rfl) (pe_lst (pa_cons pe_int pa_nil)))) pss_nil)
      (pss_one (ps_ret (pe_lc (own := [("cell", 3)]) (by rfl) nd (pi_list (pv 2)) (blkOk_by (own := [("cell", 3)]) (N := N__law_rounds) (sc := defScope s__law_rounds) (by decide +kernel)) (fun _ _ _ _ _ => pg_name (i := 3) nd rfl (by first | exact .inl rfl | exact .inr rfl)) (fun _ _ _ _ _ => pts_nil)
        (fun _ _ _ _ _ => pe_callS G (hr.mono hk) (by rfl) T.g__law_dice T.k__law_dice B (fun σ => passAt (W := WN) takes_N σ) (pa_cons (pv 3) pa_nil)))))), ?_⟩
    exact rounds_run hS hb hm ht dice_den kk

abbrev s_law : Stmt := top 17
abbrev N_law : List Str := ["script", "dice", "many", "before", "beat", "a", "times", "rows", "k", "longer", "row", "good", "told", "wrong", "b", "one", "j"]
def b_law (F__law_roll F_places F_look_places : List D → FOut) : Dn.Env → Out Fl :=
  (dSeq (sParN [2, 3, 4] [(eCall [0] F__law_roll (aRef 1 (aVal (eC (.int 5)) aNil))), (dLst fNil), (eOp2 gAdd (eC (.int 4)) (eCall [0] F__law_roll (aRef 1 (aVal (eC (.int 4)) aNil))))])
    (dSeq (sFor (wRng1 (fCons (eV 2) fNil)) (gN 5) (sSet 3 (eOp2 gAdd (eV 3) (eLc [14] (wRng2 (fCons (eOp2 gAdd (eV 5) (eC (.int 1))) (fCons (eV 2) fNil))) (gN 14) (eTest (eOp2 gEq (eCall [0] F__law_roll (aRef 1 (aVal (eC (.int 3)) aNil))) (eC (.int 0)))) (dTup (fCons (eV 5) (fCons (eV 14) fNil)))))))
    (dSeq (sIf (eTest (eOp2 gEq (eCall [0] F__law_roll (aRef 1 (aVal (eC (.int 2)) aNil))) (eC (.int 0)))) (sSet 3 (eLc [5, 14] (wSeq (eV 3)) (gT (gsCons (gN 5) (gsCons (gN 14) gsNil))) tYesD (dTup (fCons (eOp2 gSub (eOp2 gSub (eV 2) (eC (.int 1))) (eV 5)) (fCons (eOp2 gSub (eOp2 gSub (eV 2) (eC (.int 1))) (eV 14)) fNil))))) dNil)
    (dSeq (sParN [6, 7] [(eLc [8] (wRng1 (fCons (eV 2) fNil)) (gN 8) tYesD (eOp2 gAdd (eC (.int 1)) (eCall [0] F__law_roll (aRef 1 (aVal (eC (.int 4)) aNil))))), (dLst (fCons (dTup fNil) fNil))])
    (dSeq (sFor (wRng1 (fCons (eV 2) fNil)) (gN 8) (dSeq (sSet 9 (dLst fNil))
    (dSeq (sFor (wSeq (eV 7)) (gN 10) (sSet 9 (eOp2 gAdd (eV 9) (eLc [15] (wRng1 (fCons (eV 2) fNil)) (gN 15) (eTest (eOp2 gLe (eOp2 gAdd (eOp1 gSum (eLc [16] (wRng1 (fCons (eV 8) fNil)) (gN 16) (eTest (eOp2 gEq (eOp2 gIx (eV 10) (eV 16)) (eV 15))) (eOp2 gIx (eV 6) (eV 16)))) (eOp2 gIx (eV 6) (eV 8))) (eV 4))) (eOp2 gAdd (eV 10) (dTup (fCons (eV 15) fNil)))))))
    (sSet 7 (eV 9)))))
    (dSeq (sSet 11 (eLc [10] (wSeq (eV 7)) (gN 10) (eTest (eOp2 gEq (eLc [5, 14] (wSeq (eV 3)) (gT (gsCons (gN 5) (gsCons (gN 14) gsNil))) (eTest (eOp2 gGt (eOp2 gIx (eV 10) (eV 5)) (eOp2 gIx (eV 10) (eV 14)))) (eC (.int 1))) (dLst fNil))) (dTup (fCons (eOp2 gAdd (eOp1 (gBest PySem.W.maxD) (eOp2 gAdd (dTup (fCons (eOp2 gSub (eC (.int 0)) (eC (.int 1))) fNil)) (eV 10))) (eC (.int 1))) (fCons (eV 10) fNil)))))
    (dSeq (sSet 12 (eCall [] F_places (aVal (eV 6) (aVal (eV 3) (aVal (eV 4) aNil)))))
    (dSeq (sIf (tOrD (eTest (eOp2 gNe (eV 12) (eOp1 (gBest PySem.W.minD) (eV 11)))) (eTest (eOp2 (gIsN false) (eTold toldF (eCall [] F_look_places (aVal (eV 6) (aVal (eV 3) (aVal (eV 4) (aVal (eOp2 gIx (eV 12) (eC (.int 1))) aNil)))))) (eC .none)))) (sRet (eC (.bool false))) dNil)
    (dSeq (sIf (eTest (eOp2 gNe (eV 3) (dLst fNil))) (dSeq (sSet 13 (eLc [10] (wSeq (eV 7)) (gN 10) (eTest (eOp2 gNe (eLc [5, 14] (wSeq (eV 3)) (gT (gsCons (gN 5) (gsCons (gN 14) gsNil))) (eTest (eOp2 gGt (eOp2 gIx (eV 10) (eV 5)) (eOp2 gIx (eV 10) (eV 14)))) (eC (.int 1))) (dLst fNil))) (eV 10)))
    (sIf (tAndD (eTest (eOp2 gNe (eV 13) (dLst fNil))) (eTest (eOp2 gNe (eTold toldF (eCall [] F_look_places (aVal (eV 6) (aVal (eV 3) (aVal (eV 4) (aVal (eOp2 gIx (eV 13) (eCall [0] F__law_roll (aRef 1 (aVal (eOp1 gLen (eV 13)) aNil)))) aNil)))))) (eC (.str "paper"))))) (sRet (eC (.bool false))) dNil)) dNil)
    (dSeq (sIf (tAndD (eTest (eOp2 gGt (eV 2) (eC (.int 0)))) (tAndD (eTest (eOp2 gGt (eOp1 gSum (eV 6)) (eV 4))) (eTest (eOp2 gNe (eTold toldF (eCall [] F_look_places (aVal (eV 6) (aVal (eV 3) (aVal (eV 4) (aVal (eOp2 gMul (dTup (fCons (eC (.int 0)) fNil)) (eV 2)) aNil)))))) (eC (.str "paper")))))) (sRet (eC (.bool false))) dNil)
    (sIf (eTest (eOp2 gNe (eTold toldF (eCall [] F_places (aVal (dLst (fCons (eOp2 gAdd (eV 4) (eC (.int 1))) fNil)) (aVal (dLst fNil) (aVal (eV 4) aNil))))) (eC (.str "no fit")))) (sRet (eC (.bool false))) dNil)))))))))))
theorem sc_law : FnScope N_law ["script"] (defScope s_law) := ⟨rfl, rfl, rfl, by decide +kernel, rfl, by decide +kernel, by decide +kernel⟩
theorem ok_law {P : Program} {w : World} {K : PySem.W.Frag} {mg : Str → Option Value} {base : Heap} (Γ : Tx) (T : Txt K mg P) {fd : FuncData} (F : FnP K "law" s_law fd) {k : Nat}
    {kL : Nat} (hkL : kL + 2 ≤ k)
    {fd_t : FuncData} (F_told : FnP K "_law_told" s__law_told fd_t)
    (TL : LamX.TabB base mg (He.cT K ("law", none)).1 (He.cT K ("law", none)).2)
    (hTT : Γ.T = [((He.cT K ("law", none)).2, lamQ)])
    (nGL : (He.cT K ("law", none)).2 ∉ Γ.TG)
    (hxt : ∀ (e : Ex) (w : Str), toldF e = some w → ∀ (H : Hp) (Q : VK), Q (.str w) H → WM K (toldL K) (Γ.cls e) H Q)
    {fd__law_roll : FuncData} {k__law_roll : Nat} {F__law_roll : List D → FOut} (G__law_roll : FnOk P w K mg base (L2.CX P w) k__law_roll (He.fAd K ("_law_roll", none)) fd__law_roll ["dice", "many"] (spD Γ 3 2 [0] F__law_roll)) (B__law_roll : L2.Binds K fd__law_roll ["dice", "many"] []) (hk__law_roll : k__law_roll ≤ k) (hkl__law_roll : k__law_roll ≤ kL)
    {fd_places : FuncData} {k_places : Nat} {F_places : List D → FOut} (G_places : FnOk P w K mg base (L2.CX P w) k_places (He.fAd K ("places", none)) fd_places ["times", "before", "beat"] (spD Γ 5 3 [] F_places)) (B_places : L2.Binds K fd_places ["times", "before", "beat"] []) (hk_places : k_places ≤ k) (hkl_places : k_places ≤ kL)
    {fd_look_places : FuncData} {k_look_places : Nat} {F_look_places : List D → FOut} (G_look_places : FnOk P w K mg base (L2.CX P w) k_look_places (He.fAd K ("look_places", none)) fd_look_places ["times", "before", "beat", "row"] (spD Γ 5 4 [] F_look_places)) (B_look_places : L2.Binds K fd_look_places ["times", "before", "beat", "row"] []) (hk_look_places : k_look_places ≤ k) (hkl_look_places : k_look_places ≤ kL)
    {fd_r : FuncData} {k_r : Nat} (G_r : FnOk P w K mg base (L2.CX P w) k_r (He.fAd K ("_law_rounds", none)) fd_r ["script", "most"] (spRounds Γ K)) (B_r : L2.Binds K fd_r ["script", "most"] []) (hk_r : k_r ≤ k)
    (hf : ∀ c, bitsOk c → goesOn 17 (b_law F__law_roll F_places F_look_places (rnd 17 1 c))) :
    FnOk P w K mg base (L2.CX P w) (k + 1) (He.fAd K ("law", none)) fd ["script"] (spLaw Γ K) := by
  obtain ⟨oc, od, dV, kV, doc, pm, an, cdv, ct, osl, rfl, lk, hcd, hdv, hkw⟩ := F.ex
  obtain ⟨c0, rfl⟩ := He.codeIn_ref hcd
  have ec0 : He.codeOf K ("law", none) = c0 := He.codeOf_eq lk rfl
  subst ec0
  refine fn_of lk hcd sc_law (fun vs H Q E h => ?_) (fun A outer s H vs Q E hr h => ?_)
  · obtain ⟨a, ns, rfl, _⟩ := h; rfl
  · obtain ⟨a, ns, rfl, hS, hb, ht, kk⟩ := h
    have nd := sc_law.nd
    replace hr : Room k (cxD P w K mg base N_law "law" (defScope s_law) (He.fAd K ("law", none)) (.ref (He.codeOf K ("law", none))) A outer s H E).A := hr
    have hp : PassesOwn (model P w) (cxD P w K mg base N_law "law" (defScope s_law) (He.fAd K ("law", none)) (.ref (He.codeOf K ("law", none))) A outer s H E).A (cxD P w K mg base N_law "law" (defScope s_law) (He.fAd K ("law", none)) (.ref (He.codeOf K ("law", none))) A outer s H E).env (cxD P w K mg base N_law "law" (defScope s_law) (He.fAd K ("law", none)) (.ref (He.codeOf K ("law", none))) A outer s H E).xe := passes_of rfl
    have tk : Takes (cxD P w K mg base N_law "law" (defScope s_law) (He.fAd K ("law", none)) (.ref (He.codeOf K ("law", none))) A outer s H E) (fun cls d _ H => E cls d H) := takes_of rfl rfl rfl rfl
    have hu4 : (cxD P w K mg base N_law "law" (defScope s_law) (He.fAd K ("law", none)) (.ref (He.codeOf K ("law", none))) A outer s H E).A.units + 64 < cLine := room_u hr 64 (by decide)
    have hu5 : (cxD P w K mg base N_law "law" (defScope s_law) (He.fAd K ("law", none)) (.ref (He.codeOf K ("law", none))) A outer s H E).A.units + 65 < cLine := room_u hr 65 (by decide)
    have hu6 : (cxD P w K mg base N_law "law" (defScope s_law) (He.fAd K ("law", none)) (.ref (He.codeOf K ("law", none))) A outer s H E).A.units + 66 < cLine := room_u hr 66 (by decide)
    have memL : ((He.cT K ("law", none)).2, lamQ) ∈ Γ.T := by rw [hTT]; exact List.mem_singleton.mpr rfl
    have uqL : ∀ p ∈ Γ.T, p.1 = (He.cT K ("law", none)).2 → p.2 = lamQ := fun p hp _ => by rw [hTT, List.mem_singleton] at hp; rw [hp]
    have body : QSs Γ (fun cls d _ H => E cls d H) (cxD P w K mg base N_law "law" (defScope s_law) (He.fAd K ("law", none)) (.ref (He.codeOf K ("law", none))) A outer s H E) (forBody ((defBody s_law).getD 0 (.Pass ⟨0, 0, 0, 0⟩))) (b_law F__law_roll F_places F_look_places) := (qss_cons (qs_parT (is := [2, 3, 4]) rfl (qh_cons (qe_call G__law_roll tk (hr.mono hk__law_roll) (by rfl) T.g__law_roll T.k__law_roll B__law_roll (by decide) (by decide) rfl (qa_ref 1 (qa_val qe_int qa_nil))) (qh_cons (qe_lst qf_nil) (qh_cons (qe_op2 op_addD o2_add qe_int (qe_call G__law_roll tk (hr.mono hk__law_roll) (by rfl) T.g__law_roll T.k__law_roll B__law_roll (by decide) (by decide) rfl (qa_ref 1 (qa_val qe_int qa_nil)))) qh_nil))) (pgs_cons (pg_name (i := 2) nd rfl (by first | exact .inl rfl | exact .inr rfl)) (pgs_cons (pg_name (i := 3) nd rfl (by first | exact .inl rfl | exact .inr rfl)) (pgs_cons (pg_name (i := 4) nd rfl (by first | exact .inl rfl | exact .inr rfl)) pgs_nil))) (Nat.le_of_ble_eq_true rfl))
    (qss_cons (qs_for hp rfl (qi_range1 (by rfl) T.n_range (qf_cons (qv 2) qf_nil)) (qg_name (i := 5) nd rfl (by first | exact .inl rfl | exact .inr rfl)) (qss_one (qs_set (i := 3) nd rfl (by first | exact .inl rfl | exact .inr rfl) (qe_op2 op_addD o2_add (qv 3) (qe_lc (own := [("b", 14)]) rfl nd (qi_range2 (by rfl) T.n_range (qf_cons (qe_op2 op_addD o2_add (qv 5) qe_int) (qf_cons (qv 2) qf_nil))) (blkOk_by (own := [("b", 14)]) (N := N_law) (sc := defScope s_law) (by decide +kernel)) (fun _ => (qg_name (i := 14) nd rfl (by first | exact .inl rfl | exact .inr rfl))) (fun _ => (qts_one (qt_cmp (op_eqA hu4) o2_eq (qe_call G__law_roll takes_N (hr.mono hk__law_roll) (by rfl) T.g__law_roll T.k__law_roll B__law_roll (by decide) (by decide) rfl (qa_ref 1 (qa_val qe_int qa_nil))) qe_int))) (fun _ => (qe_tup (qf_cons (qv 5) (qf_cons (qv 14) qf_nil)))) (by decide))))))
    (qss_cons (qs_if (qt_cmp (op_eqA hu4) o2_eq (qe_call G__law_roll tk (hr.mono hk__law_roll) (by rfl) T.g__law_roll T.k__law_roll B__law_roll (by decide) (by decide) rfl (qa_ref 1 (qa_val qe_int qa_nil))) qe_int) (qss_one (qs_set (i := 3) nd rfl (by first | exact .inl rfl | exact .inr rfl) (qe_lc (own := [("a", 5), ("b", 14)]) rfl nd (qi_seq (qv 3)) (blkOk_by (own := [("a", 5), ("b", 14)]) (N := N_law) (sc := defScope s_law) (by decide +kernel)) (fun _ => (qg_tup rfl (qgs_cons (qg_name (i := 5) nd rfl (by first | exact .inl rfl | exact .inr rfl)) (qgs_cons (qg_name (i := 14) nd rfl (by first | exact .inl rfl | exact .inr rfl)) qgs_nil)))) (fun _ => qts_nil) (fun _ => (qe_tup (qf_cons (qe_op2 op_sub o2_sub (qe_op2 op_sub o2_sub (qv 2) qe_int) (qv 5)) (qf_cons (qe_op2 op_sub o2_sub (qe_op2 op_sub o2_sub (qv 2) qe_int) (qv 14)) qf_nil)))) (by decide)))) qss_nil)
    (qss_cons (qs_parT (is := [6, 7]) rfl (qh_cons (qe_lc (own := [("k", 8)]) rfl nd (qi_range1 (by rfl) T.n_range (qf_cons (qv 2) qf_nil)) (blkOk_by (own := [("k", 8)]) (N := N_law) (sc := defScope s_law) (by decide +kernel)) (fun _ => (qg_name (i := 8) nd rfl (by first | exact .inl rfl | exact .inr rfl))) (fun _ => qts_nil) (fun _ => (qe_op2 op_addD o2_add qe_int (qe_call G__law_roll takes_N (hr.mono hk__law_roll) (by rfl) T.g__law_roll T.k__law_roll B__law_roll (by decide) (by decide) rfl (qa_ref 1 (qa_val qe_int qa_nil))))) (by decide)) (qh_cons (qe_lst (qf_cons (qe_tup qf_nil) qf_nil)) qh_nil)) (pgs_cons (pg_name (i := 6) nd rfl (by first | exact .inl rfl | exact .inr rfl)) (pgs_cons (pg_name (i := 7) nd rfl (by first | exact .inl rfl | exact .inr rfl)) pgs_nil)) (Nat.le_of_ble_eq_true rfl))
    (qss_cons (qs_for hp rfl (qi_range1 (by rfl) T.n_range (qf_cons (qv 2) qf_nil)) (qg_name (i := 8) nd rfl (by first | exact .inl rfl | exact .inr rfl)) (qss_cons (qs_set (i := 9) nd rfl (by first | exact .inl rfl | exact .inr rfl) (qe_lst qf_nil))
    (qss_cons (qs_for hp rfl (qi_seq (qv 7)) (qg_name (i := 10) nd rfl (by first | exact .inl rfl | exact .inr rfl)) (qss_one (qs_set (i := 9) nd rfl (by first | exact .inl rfl | exact .inr rfl) (qe_op2 op_addD o2_add (qv 9) (qe_lc (own := [("one", 15)]) rfl nd (qi_range1 (by rfl) T.n_range (qf_cons (qv 2) qf_nil)) (blkOk_by (own := [("one", 15)]) (N := N_law) (sc := defScope s_law) (by decide +kernel)) (fun _ => (qg_name (i := 15) nd rfl (by first | exact .inl rfl | exact .inr rfl))) (fun _ => (qts_one (qt_cmp (op_leD hu4) o2_le (qe_op2 op_addD o2_add (qe_call1 (cr_sumD rfl) o1_sum (by rfl) T.n_sum bt_sum (qe_lc (own := [("j", 16)]) rfl nd (qi_range1 (by rfl) T.n_range (qf_cons (qv 8) qf_nil)) (blkOk_by (own := [("j", 16)]) (by kernel_rfl)) (fun _ => (qg_name (i := 16) nd rfl (by first | exact .inl rfl | exact .inr rfl))) (fun _ => (qts_one (qt_cmp (op_eqA hu4) o2_eq (qe_ix (qv 10) (qv 16)) (qv 15)))) (fun _ => (qe_ix (qv 6) (qv 16))) (by decide))) (qe_ix (qv 6) (qv 8))) (qv 4)))) (fun _ => (qe_op2 op_addD o2_add (qv 10) (qe_tup (qf_cons (qv 15) qf_nil)))) (by decide))))))
    (qss_one (qs_set (i := 7) nd rfl (by first | exact .inl rfl | exact .inr rfl) (qv 9))))))
    (qss_cons (qs_setLc (i := 11) (own := [("row", 10)]) rfl nd rfl rfl (sw_true rfl rfl rfl (by decide +kernel)) (qi_seq (qv 7)) (blkOk_by (own := [("row", 10)]) (N := N_law) (sc := defScope s_law) (by decide +kernel)) (fun _ => (qg_name (i := 10) nd rfl (by first | exact .inl rfl | exact .inr rfl))) (fun _ => (qts_one (qt_cmp (op_eqA hu4) o2_eq (qe_lc (own := [("a", 5), ("b", 14)]) rfl nd (qi_seq (qv 3)) (blkOk_by (own := [("a", 5), ("b", 14)]) (by kernel_rfl)) (fun _ => (qg_tup rfl (qgs_cons (qg_name (i := 5) nd rfl (by first | exact .inl rfl | exact .inr rfl)) (qgs_cons (qg_name (i := 14) nd rfl (by first | exact .inl rfl | exact .inr rfl)) qgs_nil)))) (fun _ => (qts_one (qt_cmp (op_gtD hu4) o2_gt (qe_ix (qv 10) (qv 5)) (qe_ix (qv 10) (qv 14))))) (fun _ => qe_int) (by decide)) (qe_lst qf_nil)))) (fun _ => (qe_tup (qf_cons (qe_op2 op_addD o2_add (qe_call1 (cr_maxD rfl hu6) o1_best (by rfl) T.n_max bt_max (qe_op2 op_addD o2_add (qe_tup (qf_cons (qe_op2 op_sub o2_sub qe_int qe_int) qf_nil)) (qv 10))) qe_int) (qf_cons (qv 10) qf_nil)))) (by decide))
    (qss_cons (qs_set (i := 12) nd rfl (by first | exact .inl rfl | exact .inr rfl) (qe_call G_places tk (hr.mono hk_places) (by rfl) T.g_places T.k_places B_places (by decide) (by decide) rfl (qa_val (qv 6) (qa_val (qv 3) (qa_val (qv 4) qa_nil)))))
    (qss_cons (qs_if (QW.qt (qw_or (qt_cmp (op_neA hu4) o2_ne (qv 12) (qe_call1 (cr_minD rfl hu6) o1_best (by rfl) T.n_min bt_min (qv 11))) (qw_or1 (qt_cmp op_notN o2_notN (qe_told (k := kL) (l := toldL K) (told := toldF) (by rfl) T.g__law_told T.k__law_told (td_told T F_told rfl rfl rfl) hxt TL rfl memL uqL nGL (hr.mono hkL) (LamX.lamS_by (by kernel_rfl)) rfl (fun _ _ _ _ _ => rfl) (fun A1 outer1 s1 H1 E1 f1 c1 hr => by have hu4 := room_u hr 64 (by decide); have hu5 := room_u hr 65 (by decide); have hu6 := room_u hr 66 (by decide); exact (qe_call G_look_places (takes_of rfl rfl rfl rfl) (hr.mono hkl_look_places) (by rfl) T.g_look_places T.k_look_places B_look_places (by decide) (by decide) rfl (qa_val (qv 6) (qa_val (qv 3) (qa_val (qv 4) (qa_val (qe_ix (qv 12) qe_int) qa_nil))))))) qe_non)))) (qss_one (qs_ret qe_bl)) qss_nil)
    (qss_cons (qs_if (qt_cmp (op_neA hu4) o2_ne (qv 3) (qe_lst qf_nil)) (qss_cons (qs_set (i := 13) nd rfl (by first | exact .inl rfl | exact .inr rfl) (qe_lc (own := [("row", 10)]) rfl nd (qi_seq (qv 7)) (blkOk_by (own := [("row", 10)]) (N := N_law) (sc := defScope s_law) (by decide +kernel)) (fun _ => (qg_name (i := 10) nd rfl (by first | exact .inl rfl | exact .inr rfl))) (fun _ => (qts_one (qt_cmp (op_neA hu4) o2_ne (qe_lc (own := [("a", 5), ("b", 14)]) rfl nd (qi_seq (qv 3)) (blkOk_by (own := [("a", 5), ("b", 14)]) (by kernel_rfl)) (fun _ => (qg_tup rfl (qgs_cons (qg_name (i := 5) nd rfl (by first | exact .inl rfl | exact .inr rfl)) (qgs_cons (qg_name (i := 14) nd rfl (by first | exact .inl rfl | exact .inr rfl)) qgs_nil)))) (fun _ => (qts_one (qt_cmp (op_gtD hu4) o2_gt (qe_ix (qv 10) (qv 5)) (qe_ix (qv 10) (qv 14))))) (fun _ => qe_int) (by decide)) (qe_lst qf_nil)))) (fun _ => (qv 10)) (by decide)))
    (qss_one (qs_if (QW.qt (qw_and (qt_cmp (op_neA hu4) o2_ne (qv 13) (qe_lst qf_nil)) (qw_and1 (qt_cmp (op_neA hu4) o2_ne (qe_told (k := kL) (l := toldL K) (told := toldF) (by rfl) T.g__law_told T.k__law_told (td_told T F_told rfl rfl rfl) hxt TL rfl memL uqL nGL (hr.mono hkL) (LamX.lamS_by (by kernel_rfl)) rfl (fun _ _ _ _ _ => rfl) (fun A1 outer1 s1 H1 E1 f1 c1 hr => by have hu4 := room_u hr 64 (by decide); have hu5 := room_u hr 65 (by decide); have hu6 := room_u hr 66 (by decide); exact (qe_call G_look_places (takes_of rfl rfl rfl rfl) (hr.mono hkl_look_places) (by rfl) T.g_look_places T.k_look_places B_look_places (by decide) (by decide) rfl (qa_val (qv 6) (qa_val (qv 3) (qa_val (qv 4) (qa_val (qe_ix (qv 13) (qe_call G__law_roll (takes_of rfl rfl rfl rfl) (hr.mono hkl__law_roll) (by rfl) T.g__law_roll T.k__law_roll B__law_roll (by decide) (by decide) rfl (qa_ref 1 (qa_val (qe_call1 cr_lenD o1_len (by rfl) T.n_len bt_len (qv 13)) qa_nil)))) qa_nil))))))) qe_str)))) (qss_one (qs_ret qe_bl)) qss_nil))) qss_nil)
    (qss_cons (qs_if (QW.qt (qw_and (qt_cmp (op_gtD hu4) o2_gt (qv 2) qe_int) (qw_and (qt_cmp (op_gtD hu4) o2_gt (qe_call1 (cr_sumD rfl) o1_sum (by rfl) T.n_sum bt_sum (qv 6)) (qv 4)) (qw_and1 (qt_cmp (op_neA hu4) o2_ne (qe_told (k := kL) (l := toldL K) (told := toldF) (by rfl) T.g__law_told T.k__law_told (td_told T F_told rfl rfl rfl) hxt TL rfl memL uqL nGL (hr.mono hkL) (LamX.lamS_by (by kernel_rfl)) rfl (fun _ _ _ _ _ => rfl) (fun A1 outer1 s1 H1 E1 f1 c1 hr => by have hu4 := room_u hr 64 (by decide); have hu5 := room_u hr 65 (by decide); have hu6 := room_u hr 66 (by decide); exact (qe_call G_look_places (takes_of rfl rfl rfl rfl) (hr.mono hkl_look_places) (by rfl) T.g_look_places T.k_look_places B_look_places (by decide) (by decide) rfl (qa_val (qv 6) (qa_val (qv 3) (qa_val (qv 4) (qa_val (qe_op2 op_mulD o2_mul (qe_tup (qf_cons qe_int qf_nil)) (qv 2)) qa_nil))))))) qe_str))))) (qss_one (qs_ret qe_bl)) qss_nil)
    (qss_one (qs_if (qt_cmp (op_neA hu4) o2_ne (qe_told (k := kL) (l := toldL K) (told := toldF) (by rfl) T.g__law_told T.k__law_told (td_told T F_told rfl rfl rfl) hxt TL rfl memL uqL nGL (hr.mono hkL) (LamX.lamS_by (by kernel_rfl)) rfl (fun _ _ _ _ _ => rfl) (fun A1 outer1 s1 H1 E1 f1 c1 hr => by have hu4 := room_u hr 64 (by decide); have hu5 := room_u hr 65 (by decide); have hu6 := room_u hr 66 (by decide); exact (qe_call G_places (takes_of rfl rfl rfl rfl) (hr.mono hkl_places) (by rfl) T.g_places T.k_places B_places (by decide) (by decide) rfl (qa_val (qe_lst (qf_cons (qe_op2 op_addD o2_add (qv 4) qe_int) qf_nil)) (qa_val (qe_lst qf_nil) (qa_val (qv 4) qa_nil)))))) qe_str) (qss_one (qs_ret qe_bl)) qss_nil))))))))))))
    obtain ⟨tb, pb, kb⟩ := body.ex
    refine ⟨_, pss_cons (ps_for hp rfl (pi_list (pe_callS G_r (hr.mono hk_r) (by rfl) T.g__law_rounds T.k__law_rounds B_r (fun σ => passAt tk σ) (pa_cons (pv 0) (pa_cons pe_int pa_nil)))) (pg_name (i := 1) nd rfl (by first | exact .inl rfl | exact .inr rfl)) pb) (pss_one (ps_ret pe_bl)), ?_⟩
    refine ⟨_, rfl, a, ns, 2, rfl, by decide, hS, hb, ht, fun H' D ls cs s1 s2 t1 nD hD hDl hR => ⟨D, rfl, ⟨_, SqL.of hD⟩, ?_⟩⟩
    exact law_loop (n := 17) (i := 1) (cs := cs) kb hf (by decide) rfl t1 hD hDl hR fun σ' H' => kk H'
end K13

end
section
namespace K13
open PySem L2 Dn
open PyProof.Rows hiding St
def d__law_roll : He.DefD := ⟨("_law_roll", none), "_law_roll", "_law_roll", defArgs s__law_roll, defBody s__law_roll, defScope s__law_roll, [], []⟩
def d_check_seams : He.DefD := ⟨("check_seams", none), "check_seams", "check_seams", defArgs s_check_seams, defBody s_check_seams, defScope s_check_seams, [], []⟩
def d_first_order : He.DefD := ⟨("first_order", none), "first_order", "first_order", defArgs s_first_order, defBody s_first_order, defScope s_first_order, [], []⟩
def d_placed : He.DefD := ⟨("placed", none), "placed", "placed", defArgs s_placed, defBody s_placed, defScope s_placed, [], []⟩
def d_places : He.DefD := ⟨("places", none), "places", "places", defArgs s_places, defBody s_places, defScope s_places, [], []⟩
def d_look_places : He.DefD := ⟨("look_places", none), "look_places", "look_places", defArgs s_look_places, defBody s_look_places, defScope s_look_places, [], []⟩
def d__law_dice : He.DefD := ⟨("_law_dice", none), "_law_dice", "_law_dice", defArgs s__law_dice, defBody s__law_dice, defScope s__law_dice, [], []⟩
def d__law_rounds : He.DefD := ⟨("_law_rounds", none), "_law_rounds", "_law_rounds", defArgs s__law_rounds, defBody s__law_rounds, defScope s__law_rounds, [], []⟩
def d__law_told : He.DefD := ⟨("_law_told", none), "_law_told", "_law_told", defArgs s__law_told, defBody s__law_told, defScope s__law_told, [], []⟩
def d_law : He.DefD := ⟨("law", none), "law", "law", defArgs s_law, defBody s_law, defScope s_law, [], []⟩
def fn : List He.DefD := [d__law_roll, d_check_seams, d_first_order, d_placed, d_places, d_look_places, d__law_dice, d__law_rounds, d__law_told, d_law]
def fa : List He.Fa := [.glo "_law_roll", .glo "check_seams", .glo "first_order", .glo "placed", .glo "places", .glo "look_places", .glo "_law_dice", .glo "_law_rounds", .glo "_law_told", .glo "law", .free "range", .free "sum", .free "max", .free "min", .free "len", .free "int", .free "any", .free "all", .free "tuple", .free "abs", .glo "BadPaper", .glo "BadSize", .glo "NoFit", .glo "TooLarge", .exc "BadSize", .exc "NoFit", .exc "TooLarge", .exm "BadPaper" "BadPaper" true, .exm "BadPaper" "BadSize" false, .exm "BadPaper" "NoFit" false, .exm "BadSize" "BadPaper" false, .exm "BadSize" "BadSize" true, .exm "BadSize" "NoFit" false, .exm "NoFit" "BadPaper" false, .exm "NoFit" "BadSize" false, .exm "NoFit" "NoFit" true, .exm "TooLarge" "BadPaper" false, .exm "TooLarge" "BadSize" false, .exm "TooLarge" "NoFit" false]
def tf : List He.Defn := [("check_seams", none), ("first_order", none), ("placed", none), ("places", none), ("look_places", none), ("law", none)]
def exB (K : PySem.W.Frag) : Bool := decide ((tf.map fun p => (He.cT K p).2).Nodup) && (paperB K (PySem.Challenge.rw_tailorshop_k13_work_in_a_line).prog "BadPaper" pd && (decide (PySem.W.subIn K (.ref (He.ga K "BadPaper")) (.type "BaseException") = some true) && decide (PySem.W.typeIn K (.ref (He.ga K "BadPaper")) = some (.type "type"))))
abbrev R : PySem.W.OpenRow := PySem.W.OpenLaw.row PySem.Challenge.rw_tailorshop_k13_work_in_a_line
abbrev hk : PySem.W.Hook := hookY 5 fa fn tf exB "BadPaper" pd
def ob (s : PySem.W.SharedT) : AlY := obsY 5 fa fn tf exB "BadPaper" (HandSHeadRun.getT s)
theorem ob_eq (s : PySem.W.SharedT) : ob s = hk.obs s.abs := obsY_eq (HandSHeadRun.getT_eq s)
def loose : List Str := ["__name__", "ShopFault", "BadSize", "NoFit", "BadPaper", "TooLarge", "check_seams", "first_order", "places", "placed", "look_places", "_law_dice", "_law_roll", "_law_rounds", "_law_told"]
theorem run (w : World) : HandSHeadRun.RunEq R (PySem.W.view R.prog [17]) hk ob 3000 loose w := by
  intro os
  kernel_rfl
theorem txt {K : PySem.W.Frag} {h : Heap} {mg : Str → Option Value} (X : K.In h) (G : h.Ns mainGlobals mg) (c : He.SaysD fa fn K) (cx : exB K = true) (cp : fnP K "BadPaper" = valP pd) : Txt K mg (PySem.Challenge.rw_tailorshop_k13_work_in_a_line).prog where
  pp := paper_of (He.ba (He.ba cx).2).1 cp
  sb_BadPaper := of_decide_eq_true (He.ba (He.ba (He.ba cx).2).2).1
  ty_BadPaper := of_decide_eq_true (He.ba (He.ba (He.ba cx).2).2).2
  n_range := He.free_ok X G (c.fact 10 (f := .free "range") rfl)
  n_sum := He.free_ok X G (c.fact 11 (f := .free "sum") rfl)
  n_max := He.free_ok X G (c.fact 12 (f := .free "max") rfl)
  n_min := He.free_ok X G (c.fact 13 (f := .free "min") rfl)
  n_len := He.free_ok X G (c.fact 14 (f := .free "len") rfl)
  n_int := He.free_ok X G (c.fact 15 (f := .free "int") rfl)
  n_any := He.free_ok X G (c.fact 16 (f := .free "any") rfl)
  n_all := He.free_ok X G (c.fact 17 (f := .free "all") rfl)
  n_tuple := He.free_ok X G (c.fact 18 (f := .free "tuple") rfl)
  n_abs := He.free_ok X G (c.fact 19 (f := .free "abs") rfl)
  g__law_roll := He.glo_ok X G (c.fact 0 (f := .glo "_law_roll") rfl)
  k__law_roll := by obtain ⟨fd, F⟩ := c.def_ 0 (d := d__law_roll) rfl; exact F.kp
  g_check_seams := He.glo_ok X G (c.fact 1 (f := .glo "check_seams") rfl)
  k_check_seams := by obtain ⟨fd, F⟩ := c.def_ 1 (d := d_check_seams) rfl; exact F.kp
  g_first_order := He.glo_ok X G (c.fact 2 (f := .glo "first_order") rfl)
  k_first_order := by obtain ⟨fd, F⟩ := c.def_ 2 (d := d_first_order) rfl; exact F.kp
  g_placed := He.glo_ok X G (c.fact 3 (f := .glo "placed") rfl)
  k_placed := by obtain ⟨fd, F⟩ := c.def_ 3 (d := d_placed) rfl; exact F.kp
  g_places := He.glo_ok X G (c.fact 4 (f := .glo "places") rfl)
  k_places := by obtain ⟨fd, F⟩ := c.def_ 4 (d := d_places) rfl; exact F.kp
  g_look_places := He.glo_ok X G (c.fact 5 (f := .glo "look_places") rfl)
  k_look_places := by obtain ⟨fd, F⟩ := c.def_ 5 (d := d_look_places) rfl; exact F.kp
  g__law_dice := He.glo_ok X G (c.fact 6 (f := .glo "_law_dice") rfl)
  k__law_dice := by obtain ⟨fd, F⟩ := c.def_ 6 (d := d__law_dice) rfl; exact F.kp
  g__law_rounds := He.glo_ok X G (c.fact 7 (f := .glo "_law_rounds") rfl)
  k__law_rounds := by obtain ⟨fd, F⟩ := c.def_ 7 (d := d__law_rounds) rfl; exact F.kp
  g__law_told := He.glo_ok X G (c.fact 8 (f := .glo "_law_told") rfl)
  k__law_told := by obtain ⟨fd, F⟩ := c.def_ 8 (d := d__law_told) rfl; exact F.kp
  e_BadPaper := He.glo_ok X G (c.fact 20 (f := .glo "BadPaper") rfl)
  e_BadSize := He.glo_ok X G (c.fact 21 (f := .glo "BadSize") rfl)
  x_BadSize := (He.exc_ok (c.fact 24 (f := .exc "BadSize") rfl)).1
  ke_BadSize := (He.exc_ok (c.fact 24 (f := .exc "BadSize") rfl)).2.1
  sb_BadSize := (He.exc_ok (c.fact 24 (f := .exc "BadSize") rfl)).2.2.1
  ty_BadSize := (He.exc_ok (c.fact 24 (f := .exc "BadSize") rfl)).2.2.2
  e_NoFit := He.glo_ok X G (c.fact 22 (f := .glo "NoFit") rfl)
  x_NoFit := (He.exc_ok (c.fact 25 (f := .exc "NoFit") rfl)).1
  ke_NoFit := (He.exc_ok (c.fact 25 (f := .exc "NoFit") rfl)).2.1
  sb_NoFit := (He.exc_ok (c.fact 25 (f := .exc "NoFit") rfl)).2.2.1
  ty_NoFit := (He.exc_ok (c.fact 25 (f := .exc "NoFit") rfl)).2.2.2
  e_TooLarge := He.glo_ok X G (c.fact 23 (f := .glo "TooLarge") rfl)
  x_TooLarge := (He.exc_ok (c.fact 26 (f := .exc "TooLarge") rfl)).1
  ke_TooLarge := (He.exc_ok (c.fact 26 (f := .exc "TooLarge") rfl)).2.1
  sb_TooLarge := (He.exc_ok (c.fact 26 (f := .exc "TooLarge") rfl)).2.2.1
  ty_TooLarge := (He.exc_ok (c.fact 26 (f := .exc "TooLarge") rfl)).2.2.2
theorem bn__law_roll {K : PySem.W.Frag} {fd : FuncData} (F : FnP K "_law_roll" s__law_roll fd) : L2.Binds K fd ["dice", "many"] [] := F.bindsN fun _ _ _ _ _ _ us hl => match us, hl with | [_, _], _ => rfl
theorem bn_check_seams {K : PySem.W.Frag} {fd : FuncData} (F : FnP K "check_seams" s_check_seams fd) : L2.Binds K fd ["many", "before"] [] := F.bindsN fun _ _ _ _ _ _ us hl => match us, hl with | [_, _], _ => rfl
theorem bn_first_order {K : PySem.W.Frag} {fd : FuncData} (F : FnP K "first_order" s_first_order fd) : L2.Binds K fd ["many", "before"] [] := F.bindsN fun _ _ _ _ _ _ us hl => match us, hl with | [_, _], _ => rfl
theorem bn_placed {K : PySem.W.Frag} {fd : FuncData} (F : FnP K "placed" s_placed fd) : L2.Binds K fd ["times", "before", "beat", "many", "row"] [] := F.bindsN fun _ _ _ _ _ _ us hl => match us, hl with | [_, _, _, _, _], _ => rfl
theorem bn_places {K : PySem.W.Frag} {fd : FuncData} (F : FnP K "places" s_places fd) : L2.Binds K fd ["times", "before", "beat"] [] := F.bindsN fun _ _ _ _ _ _ us hl => match us, hl with | [_, _, _], _ => rfl
theorem bn_look_places {K : PySem.W.Frag} {fd : FuncData} (F : FnP K "look_places" s_look_places fd) : L2.Binds K fd ["times", "before", "beat", "row"] [] := F.bindsN fun _ _ _ _ _ _ us hl => match us, hl with | [_, _, _, _], _ => rfl
theorem bn__law_dice {K : PySem.W.Frag} {fd : FuncData} (F : FnP K "_law_dice" s__law_dice fd) : L2.Binds K fd ["cell"] [] := F.bindsN fun _ _ _ _ _ _ us hl => match us, hl with | [_], _ => rfl
theorem bn__law_rounds {K : PySem.W.Frag} {fd : FuncData} (F : FnP K "_law_rounds" s__law_rounds fd) : L2.Binds K fd ["script", "most"] [] := F.bindsN fun _ _ _ _ _ _ us hl => match us, hl with | [_, _], _ => rfl
theorem bn__law_told {K : PySem.W.Frag} {fd : FuncData} (F : FnP K "_law_told" s__law_told fd) : L2.Binds K fd ["what"] [] := F.bindsN fun _ _ _ _ _ _ us hl => match us, hl with | [_], _ => rfl
theorem bn_law {K : PySem.W.Frag} {fd : FuncData} (F : FnP K "law" s_law fd) : L2.Binds K fd ["script"] [] := F.bindsN fun _ _ _ _ _ _ us hl => match us, hl with | [_], _ => rfl
def Γ0 (K : PySem.W.Frag) : Tx := { T := [((He.cT K ("law", none)).2, lamQ)], TG := [(He.cT K ("check_seams", none)).2, (He.cT K ("first_order", none)).2, (He.cT K ("placed", none)).2, (He.cT K ("places", none)).2, (He.cT K ("look_places", none)).2], cls := fun e => .ref (He.ga K (clsN e)) }
structure Hd (K : PySem.W.Frag) (mg : Str → Option Value) (base : Heap) (P : Program) : Prop where
  T : Txt K mg P
  c : He.SaysD fa fn K
  tb : ∀ p ∈ tf, LamX.TabB base mg (He.cT K p).1 (He.cT K p).2
  nd : (tf.map fun p => (He.cT K p).2).Nodup
section
variable {P : Program} {w : World} {K : PySem.W.Frag} {mg : Str → Option Value} {base : Heap}
theorem tbG (h : Hd K mg base P) {p : He.Defn} (hp : p ∈ tf) : GxR.TabB base mg (He.cT K p).1 (He.cT K p).2 := ⟨(h.tb p hp).code, (h.tb p hp).bm, (h.tb p hp).gP⟩
theorem tab_ne (h : Hd K mg base P) {i j : Nat} {p q : He.Defn} (hi : tf[i]? = some p) (hj : tf[j]? = some q) (n : i ≠ j) : (He.cT K p).2 ≠ (He.cT K q).2 := fun e => by
  have li : i < (tf.map fun p => (He.cT K p).2).length := by rw [List.length_map]; exact (List.getElem?_eq_some_iff.mp hi).1
  refine n ((List.getElem?_inj li h.nd).mp ?_)
  rw [List.getElem?_map, List.getElem?_map, hi, hj]
  exact congrArg some e
theorem nd_law (h : Hd K mg base P) : (He.cT K ("law", none)).2 ∉ (Γ0 K).TG := by
  intro z
  simp only [Γ0, List.mem_cons, List.not_mem_nil, or_false] at z
  rcases z with z | z | z | z | z
  · exact tab_ne h (i := 5) (j := 0) rfl rfl (by decide) z
  · exact tab_ne h (i := 5) (j := 1) rfl rfl (by decide) z
  · exact tab_ne h (i := 5) (j := 2) rfl rfl (by decide) z
  · exact tab_ne h (i := 5) (j := 3) rfl rfl (by decide) z
  · exact tab_ne h (i := 5) (j := 4) rfl rfl (by decide) z
theorem nl_check_seams (h : Hd K mg base P) : ∀ p ∈ (Γ0 K).T, p.1 ≠ (He.cT K ("check_seams", none)).2 := by
  intro p z
  simp only [Γ0, List.mem_cons, List.not_mem_nil, or_false] at z
  rcases z with rfl
  · exact tab_ne h (i := 5) (j := 0) rfl rfl (by decide)
theorem nl_first_order (h : Hd K mg base P) : ∀ p ∈ (Γ0 K).T, p.1 ≠ (He.cT K ("first_order", none)).2 := by
  intro p z
  simp only [Γ0, List.mem_cons, List.not_mem_nil, or_false] at z
  rcases z with rfl
  · exact tab_ne h (i := 5) (j := 1) rfl rfl (by decide)
theorem nl_placed (h : Hd K mg base P) : ∀ p ∈ (Γ0 K).T, p.1 ≠ (He.cT K ("placed", none)).2 := by
  intro p z
  simp only [Γ0, List.mem_cons, List.not_mem_nil, or_false] at z
  rcases z with rfl
  · exact tab_ne h (i := 5) (j := 2) rfl rfl (by decide)
theorem nl_places (h : Hd K mg base P) : ∀ p ∈ (Γ0 K).T, p.1 ≠ (He.cT K ("places", none)).2 := by
  intro p z
  simp only [Γ0, List.mem_cons, List.not_mem_nil, or_false] at z
  rcases z with rfl
  · exact tab_ne h (i := 5) (j := 3) rfl rfl (by decide)
theorem nl_look_places (h : Hd K mg base P) : ∀ p ∈ (Γ0 K).T, p.1 ≠ (He.cT K ("look_places", none)).2 := by
  intro p z
  simp only [Γ0, List.mem_cons, List.not_mem_nil, or_false] at z
  rcases z with rfl
  · exact tab_ne h (i := 5) (j := 4) rfl rfl (by decide)
theorem told_wm (h : Hd K mg base P) : ∀ (e : Ex) (w : Str), toldF e = some w → ∀ (H : Hp) (Q : VK), Q (.str w) H → WM K (toldL K) ((Γ0 K).cls e) H Q
  | .size, w, e, H, Q, q => ⟨false, (He.exm_ok (h.c.fact 32 (f := .exm "BadSize" "NoFit" false) rfl)), (fun z => by cases z), (fun _ => ⟨true, (He.exm_ok (h.c.fact 31 (f := .exm "BadSize" "BadSize" true) rfl)), (fun _ => by cases e; exact q), (fun z => by cases z)⟩)⟩
  | .fit, w, e, H, Q, q => ⟨true, (He.exm_ok (h.c.fact 35 (f := .exm "NoFit" "NoFit" true) rfl)), (fun _ => by cases e; exact q), (fun z => by cases z)⟩
  | .paper, w, e, H, Q, q => ⟨false, (He.exm_ok (h.c.fact 29 (f := .exm "BadPaper" "NoFit" false) rfl)), (fun z => by cases z), (fun _ => ⟨false, (He.exm_ok (h.c.fact 28 (f := .exm "BadPaper" "BadSize" false) rfl)), (fun z => by cases z), (fun _ => ⟨true, (He.exm_ok (h.c.fact 27 (f := .exm "BadPaper" "BadPaper" true) rfl)), (fun _ => by cases e; exact q), (fun z => by cases z)⟩)⟩)⟩
  | .large, w, e, H, Q, q => by cases e
  | .deed, w, e, H, Q, q => ⟨false, (He.exm_ok (h.c.fact 32 (f := .exm "BadSize" "NoFit" false) rfl)), (fun z => by cases z), (fun _ => ⟨true, (He.exm_ok (h.c.fact 31 (f := .exm "BadSize" "BadSize" true) rfl)), (fun _ => by cases e; exact q), (fun z => by cases z)⟩)⟩
def D__law_roll : List D → FOut := defDen 3 [0] (b__law_roll)
theorem okD__law_roll (h : Hd K mg base P) : ∃ fd, FnP K "_law_roll" s__law_roll fd ∧ FnOk P w K mg base (L2.CX P w) 1 (He.fAd K ("_law_roll", none)) fd ["dice", "many"] (spD (Γ0 K) 3 2 [0] D__law_roll) := by
  obtain ⟨fd, F⟩ := h.c.def_ 0 (d := d__law_roll) rfl
  exact ⟨fd, F, ok__law_roll (Γ0 K) h.T F (k := 0) ⟩
def D_check_seams : List D → FOut := defDen 2 [] (b_check_seams)
theorem okD_check_seams (h : Hd K mg base P) : ∃ fd, FnP K "check_seams" s_check_seams fd ∧ FnOk P w K mg base (L2.CX P w) 1 (He.fAd K ("check_seams", none)) fd ["many", "before"] (spD (Γ0 K) 2 2 [] D_check_seams) := by
  obtain ⟨fd, F⟩ := h.c.def_ 1 (d := d_check_seams) rfl
  exact ⟨fd, F, ok_check_seams (Γ0 K) h.T F (k := 0) rfl (tbG h (by decide)) (by simp only [Γ0, List.mem_cons, true_or, or_true]) (nl_check_seams h)⟩
def D_first_order : List D → FOut := defDen 5 [] (b_first_order D_check_seams)
theorem okD_first_order (h : Hd K mg base P) : ∃ fd, FnP K "first_order" s_first_order fd ∧ FnOk P w K mg base (L2.CX P w) 2 (He.fAd K ("first_order", none)) fd ["many", "before"] (spD (Γ0 K) 5 2 [] D_first_order) := by
  obtain ⟨fd, F⟩ := h.c.def_ 2 (d := d_first_order) rfl
  obtain ⟨fdcheck_seams, Fcheck_seams, Gcheck_seams⟩ := okD_check_seams (P := P) (w := w) h
  exact ⟨fd, F, ok_first_order (Γ0 K) h.T F (k := 1) Gcheck_seams (bn_check_seams Fcheck_seams) (by first | decide | omega) rfl (tbG h (by decide)) (by simp only [Γ0, List.mem_cons, true_or, or_true]) (nl_first_order h)⟩
def D_placed : Nat → List D → FOut
  | 0 => fun _ => .bad
  | n + 1 => defDen 11 [] (b_placed (D_placed n))
theorem okR_placed (h : Hd K mg base P) {fd : FuncData} (F : FnP K "placed" s_placed fd) : ∀ n : Nat, FnOk P w K mg base (L2.CX P w) (0 + n) (He.fAd K ("placed", none)) fd ["times", "before", "beat", "many", "row"] (spD (Γ0 K) 11 5 [] (D_placed n))
  | 0 => fnok_bad _ rfl
  | n + 1 => by
    exact ok_placed (Γ0 K) h.T F (k := 0 + n) (okR_placed h F n) (bn_placed F) (by omega) (tbG h (by decide)) (by simp only [Γ0, List.mem_cons, true_or, or_true]) (nl_placed h)
theorem okD_placed (h : Hd K mg base P) : ∃ fd, FnP K "placed" s_placed fd ∧ FnOk P w K mg base (L2.CX P w) 6 (He.fAd K ("placed", none)) fd ["times", "before", "beat", "many", "row"] (spD (Γ0 K) 11 5 [] (D_placed 6)) := by
  obtain ⟨fd, F⟩ := h.c.def_ 3 (d := d_placed) rfl
  exact ⟨fd, F, okR_placed h F 6⟩
def D_places : List D → FOut := defDen 5 [] (b_places D_check_seams D_first_order (D_placed 6))
theorem okD_places (h : Hd K mg base P) : ∃ fd, FnP K "places" s_places fd ∧ FnOk P w K mg base (L2.CX P w) 7 (He.fAd K ("places", none)) fd ["times", "before", "beat"] (spD (Γ0 K) 5 3 [] D_places) := by
  obtain ⟨fd, F⟩ := h.c.def_ 4 (d := d_places) rfl
  obtain ⟨fdcheck_seams, Fcheck_seams, Gcheck_seams⟩ := okD_check_seams (P := P) (w := w) h
  obtain ⟨fdfirst_order, Ffirst_order, Gfirst_order⟩ := okD_first_order (P := P) (w := w) h
  obtain ⟨fdplaced, Fplaced, Gplaced⟩ := okD_placed (P := P) (w := w) h
  exact ⟨fd, F, ok_places (Γ0 K) h.T F (k := 6) Gcheck_seams (bn_check_seams Fcheck_seams) (by first | decide | omega) Gfirst_order (bn_first_order Ffirst_order) (by first | decide | omega) Gplaced (bn_placed Fplaced) (by first | decide | omega) rfl rfl (tbG h (by decide)) (by simp only [Γ0, List.mem_cons, true_or, or_true]) (nl_places h)⟩
def D_look_places : List D → FOut := defDen 5 [] (b_look_places)
theorem okD_look_places (h : Hd K mg base P) : ∃ fd, FnP K "look_places" s_look_places fd ∧ FnOk P w K mg base (L2.CX P w) 3 (He.fAd K ("look_places", none)) fd ["times", "before", "beat", "row"] (spD (Γ0 K) 5 4 [] D_look_places) := by
  obtain ⟨fd, F⟩ := h.c.def_ 5 (d := d_look_places) rfl
  exact ⟨fd, F, ok_look_places (Γ0 K) h.T F (k := 2) (by first | decide | omega) rfl (tbG h (by decide)) (by simp only [Γ0, List.mem_cons, true_or, or_true]) (nl_look_places h)⟩
def D__law_dice : List D → FOut := defDen 1 [] (b__law_dice)
theorem okD__law_dice (h : Hd K mg base P) : ∃ fd, FnP K "_law_dice" s__law_dice fd ∧ FnOk P w K mg base (L2.CX P w) 1 (He.fAd K ("_law_dice", none)) fd ["cell"] (spD (Γ0 K) 1 1 [] D__law_dice) := by
  obtain ⟨fd, F⟩ := h.c.def_ 6 (d := d__law_dice) rfl
  exact ⟨fd, F, ok__law_dice (Γ0 K) h.T F (k := 0) ⟩
/-- the law's body, all callees put in -/
def lawB : Dn.Env → Out Fl := b_law D__law_roll D_places D_look_places
theorem ok_all (h : Hd K mg base P) (hf : ∀ c, bitsOk c → goesOn 17 (lawB (rnd 17 1 c))) {fd : FuncData} (F : FnP K "law" s_law fd) : FnOk P w K mg base (L2.CX P w) 10 (He.fAd K ("law", none)) fd ["script"] (spLaw (Γ0 K) K) := by
  obtain ⟨fd_law_roll, F_law_roll, G_law_roll⟩ := okD__law_roll (P := P) (w := w) h
  obtain ⟨fdplaces, Fplaces, Gplaces⟩ := okD_places (P := P) (w := w) h
  obtain ⟨fdlook_places, Flook_places, Glook_places⟩ := okD_look_places (P := P) (w := w) h
  obtain ⟨fd_law_dice, F_law_dice, G_law_dice⟩ := okD__law_dice (P := P) (w := w) h
  obtain ⟨fd_law_rounds, F_law_rounds⟩ := h.c.def_ 7 (d := d__law_rounds) rfl
  obtain ⟨fdt, Ft⟩ := h.c.def_ 8 (d := d__law_told) rfl
  exact ok_law (Γ0 K) h.T F (k := 9) (kL := 7) (by decide) Ft (h.tb _ (by decide)) rfl (nd_law h) (told_wm h) G_law_roll (bn__law_roll F_law_roll) (by first | decide | omega) (by first | decide | omega) Gplaces (bn_places Fplaces) (by first | decide | omega) (by first | decide | omega) Glook_places (bn_look_places Flook_places) (by first | decide | omega) (by first | decide | omega) (ok__law_rounds (Γ0 K) h.T F_law_rounds (k := 1) G_law_dice (bn__law_dice F_law_dice) (by decide)) (bn__law_rounds F_law_rounds) (by decide) hf
end
end K13
open PySem PySem.W PySem.Calls PyProof.Rows
theorem K13.holds_of (hf : ∀ c, Dn.bitsOk c → Dn.goesOn 17 (K13.lawB (Dn.rnd 17 1 c))) : PySem.Challenge.rw_tailorshop_k13_work_in_a_line.Holds := by
  w_on; o_law
  refine HandSHeadRun.head_any (r := OpenLaw.row PySem.Challenge.rw_tailorshop_k13_work_in_a_line) (q := view (OpenLaw.row PySem.Challenge.rw_tailorshop_k13_work_in_a_line).prog [17]) (H := K13.hk) (ob := K13.ob) (M := 3000) (loose := K13.loose) (d := HandSHeadRun.topDef (OpenLaw.row PySem.Challenge.rw_tailorshop_k13_work_in_a_line).prog 17) (kwd := []) K13.ob_eq
    (by kernel_rfl) (fun s => by kernel_rfl) K13.run (by kernel_rfl) (by kernel_rfl) (by kernel_rfl) (by rfl) (by first | assumption | decide +kernel) (by decide +kernel) ⟨rfl, rfl, rfl, rfl, rfl, by decide +kernel⟩ ?hw ?hc
  case hw => w_witness2
  case hc =>
    refine LamX.walk_ofTsE (l := PySem.Challenge.rw_tailorshop_k13_work_in_a_line) (n := 63) (k := 10) (x := "script") (CX := fun w => L2.CX (PySem.Challenge.rw_tailorshop_k13_work_in_a_line).prog w) rfl (by decide) (by kernel_rfl) ⟨by decide, by decide, by decide⟩ ?F (fun _ _ _ _ _ h => by
      obtain ⟨a, B, H', cls, d, _, _, _, _, _, _, _, e⟩ := h
      exact e)
    intro w mg fa h Y G hmg0
    obtain ⟨K, KX, c, cP⟩ := Y
    have hmg : mg ("law" : PySem.Str) = some (.ref fa) := by
      have e : (HandSHeadRun.topDef (OpenLaw.row PySem.Challenge.rw_tailorshop_k13_work_in_a_line).prog 17).name = ("law" : PySem.Str) := by kernel_rfl
      rw [← e]
      exact hmg0
    have cd := He.SaysT.d c.t
    obtain ⟨fd, F⟩ := cd.def_ 9 (d := K13.d_law) rfl
    have e := hmg.symm.trans (He.glo_ok KX G (cd.fact 9 (f := .glo "law") rfl))
    cases e
    have nd : (K13.tf.map fun p => (He.cT K p).2).Nodup := of_decide_eq_true (He.ba c.more).1
    refine ⟨K, KX, fd, K13.tf.map (He.cT K), Dn.spLaw (K13.Γ0 K) K, ?_, ?_, ?_, ?_, ?_, ?_⟩
    · intro p hq; obtain ⟨q, hm, rfl⟩ := List.mem_map.mp hq; exact c.empty _ hm
    · intro p hq; obtain ⟨q, hm, rfl⟩ := List.mem_map.mp hq; exact c.out _ hm
    · intro p hq; obtain ⟨q, hm, rfl⟩ := List.mem_map.mp hq; exact PySem.W.codeHd_of_K KX (c.hd _ hm)
    · exact fun s v => L2.FunD.bindsA (ps := ["script"]) F (fun _ _ _ _ _ _ us hl => match us, hl with | [_], _ => rfl) s [v] rfl
    · intro H a ns hl hb ht hS
      have tab : ∀ q ∈ K13.tf, H (He.cT K q).2 = some (.tbl #[]) := fun q hq => ht _ (List.mem_map.mpr ⟨q, hq, rfl⟩)
      refine ⟨a, ns, rfl, hS, hb, ⟨fun p hq => ?_, fun p hq => ?_⟩, fun _ => rfl⟩
      · simp only [K13.Γ0, List.mem_cons, List.not_mem_nil, or_false] at hq
        rcases hq with rfl
        · exact LamX.TabS.nil (tab ("law", none) (by decide))
      · simp only [K13.Γ0, List.mem_cons, List.not_mem_nil, or_false] at hq
        rcases hq with rfl | rfl | rfl | rfl | rfl
        · exact ⟨#[], tab ("check_seams", none) (by decide), by trivial⟩
        · exact ⟨#[], tab ("first_order", none) (by decide), by trivial⟩
        · exact ⟨#[], tab ("placed", none) (by decide), by trivial⟩
        · exact ⟨#[], tab ("places", none) (by decide), by trivial⟩
        · exact ⟨#[], tab ("look_places", none) (by decide), by trivial⟩
    · intro base KB GB TB
      exact K13.ok_all ⟨K13.txt KB GB cd c.more cP, cd, fun p hq => TB _ (List.mem_map.mpr ⟨p, hq, rfl⟩), nd⟩ hf F

end
section
namespace K13
open PySem L2 Dn
open PyProof.Rows hiding St
/-! ### one index -/
theorem at_i {xs : List Int} {i : Int} (h0 : 0 ≤ i) (h1 : i < xs.length) : atI (xs.map PyData.int) i = some (.int (xs.getD i.toNat 0)) := by
  obtain ⟨k, rfl⟩ : ∃ k : Nat, i = k := ⟨i.toNat, by omega⟩
  have hk : k < xs.length := by omega
  have := at_n (xs := xs.map PyData.int) (i := k) (a := .int (xs.getD k 0)) (by rw [List.getElem?_map, List.getElem?_eq_getElem hk]; simp [List.getD_eq_getElem?_getD, List.getElem?_eq_getElem hk])
  simpa using this
theorem xix_t {xs : List Int} {i : Int} (h0 : 0 ≤ i) (h1 : i < xs.length) (hl : xs.length ≤ 1000) : xIx (TI xs) (.int i) = some (.int (xs.getD i.toNat 0)) := by
  show (if smallI i = true then atI (xs.map PyData.int) i else none) = _
  rw [if_pos (by simp [smallI]; omega), at_i h0 h1]
theorem xix_l {xs : List Int} {i : Int} (h0 : 0 ≤ i) (h1 : i < xs.length) (hl : xs.length ≤ 1000) : xIx (.list (xs.map .int)) (.int i) = some (.int (xs.getD i.toNat 0)) := by
  show (if smallI i = true then atI (xs.map PyData.int) i else none) = _
  rw [if_pos (by simp [smallI]; omega), at_i h0 h1]
theorem gix_l {xs : List Int} {i : Int} (h0 : 0 ≤ i) (h1 : i < xs.length) : gIx (.list (xs.map .int)) (.int i) = some (.val (.int (xs.getD i.toNat 0))) := by
  show (atI (xs.map PyData.int) i).map ORes.val = _
  rw [at_i h0 h1]; rfl
theorem gix_t {xs : List Int} {i : Int} (h0 : 0 ≤ i) (h1 : i < xs.length) : gIx (TI xs) (.int i) = some (.val (.int (xs.getD i.toNat 0))) := by
  show (atI (xs.map PyData.int) i).map ORes.val = _
  rw [at_i h0 h1]; rfl
theorem xeq_i (i j : Int) : xEq (.int i) (.int j) = some (.bool (decide (i = j))) := rfl
theorem xlt_i (i j : Int) : xLt (.int i) (.int j) = some (.bool (decide (i < j))) := rfl
theorem xle_i (i j : Int) : xLe (.int i) (.int j) = some (.bool (decide (i ≤ j))) := rfl
theorem xgt_i (i j : Int) : xGt (.int i) (.int j) = some (.bool (decide (j < i))) := rfl
/-! ### typed -/
def ld (ts row : List Int) (p : Int) : Int := (((List.range row.length).filter fun j => decide (row.getD j 0 = p)).map fun j => ts.getD j 0).sum
def early (bs : List (Int × Int)) (row : List Int) (p : Int) : Bool := (bs.filter fun q => decide (q.2 = (row.length : Int)) && decide (q.1 < (row.length : Int))).all fun q => decide (row.getD q.1.toNat 0 ≤ p)
def late (bs : List (Int × Int)) (row : List Int) (p : Int) : Bool := (bs.filter fun q => decide (q.1 = (row.length : Int)) && decide (q.2 < (row.length : Int))).all fun q => decide (p ≤ row.getD q.2.toNat 0)
def okp (ts : List Int) (bs : List (Int × Int)) (bt : Int) (row : List Int) (p : Int) : Bool := decide (ld ts row p + ts.getD row.length 0 ≤ bt) && (early bs row p && late bs row p)
def pl (ts : List Int) (bs : List (Int × Int)) (bt : Int) (m : Nat) : Nat → List Int → Option (List Int)
  | 0, _ => none
  | f + 1, row => if row.length = ts.length then some row else (List.range m).findSome? fun (p : Nat) => if okp ts bs bt row (p : Int) = true then pl ts bs bt m f (row ++ [(p : Int)]) else none
structure Ok (ts : List Int) (bs : List (Int × Int)) : Prop where
  l : ts.length ≤ 9
  t : ∀ t ∈ ts, 1 ≤ t ∧ t ≤ 100
  b : ∀ q ∈ bs, 0 ≤ q.1 ∧ q.1 < ts.length ∧ 0 ≤ q.2 ∧ q.2 < ts.length
abbrev TL (ts : List Int) : D := .list (ts.map .int)
abbrev BL (bs : List (Int × Int)) : D := .list (bs.map TP2)
def oD : Option (List Int) → D
  | some r => TI r
  | none => .none
section
variable {ts : List Int} {bs : List (Int × Int)} {bt : Int} {m : Nat} {row : List Int} {x5 x6 x7 x8 x9 x10 : Slot}
abbrev E11 (ts : List Int) (bs : List (Int × Int)) (bt : Int) (m : Nat) (row : List Int) (x5 x6 x7 x8 x9 x10 : Slot) : Dn.Env := [.fz (TL ts), .fz (BL bs), .fz (.int bt), .fz (.int m), .fz (TI row), x5, x6, x7, x8, x9, x10]
theorem ts_at (O : Ok ts bs) {j : Nat} (hj : j < ts.length) : 1 ≤ ts.getD j 0 ∧ ts.getD j 0 ≤ 100 := by
  rw [List.getD_eq_getElem?_getD, List.getElem?_eq_getElem hj]
  exact O.t _ (List.getElem_mem hj)
theorem g_load (O : Ok ts bs) (hl : row.length ≤ ts.length) (p : Int) : eGen agSum [0, 6, 4] (gRng1 (fCons (eV 5) fNil)) (fun ρ => xB ((x2 xEq (x2 xIx (fun ρ => ρ[3]?) (fun ρ => ρ[0]?)) (fun ρ => ρ[2]?)) ρ)) (x2 xIx (fun ρ => ρ[1]?) (fun ρ => ρ[0]?)) (E11 ts bs bt m row (.fz (.int row.length)) (.fz (.int p)) x7 x8 x9 x10) = .ok (.fz (.int (ld ts row p))) (E11 ts bs bt m row (.fz (.int row.length)) (.fz (.int p)) x7 x8 x9 x10) := by
  have O1 := O.l
  refine gen_of (h := fun k : Nat => [PyData.int (k : Int)]) (caps := [TL ts, .int p, TI row]) (p := fun j => decide (row.getD j 0 = p)) (g := fun j => .int (ts.getD j 0)) (List.range row.length) (grng1_of rfl (by omega)) rfl (fun j hj => ?_) ?_
  · have hj := List.mem_range.mp hj
    have e1 := xix_t (xs := row) (i := (j : Int)) (by omega) (by omega) (by omega)
    have e2 := xix_l (xs := ts) (i := (j : Int)) (by omega) (by omega) (by omega)
    rw [Int.toNat_natCast] at e1 e2
    exact ⟨by simp [x2, e1, xeq_i, xB], fun _ => by simp [x2, e2]⟩
  · refine agSum_map (fun j => ts.getD j 0) _ (fun j hj => ?_) ?_
    · have hj := List.mem_range.mp (List.mem_filter.mp hj).1
      have := ts_at O (j := j) (by omega)
      unfold fitI
      simp only [Bool.and_eq_true, decide_eq_true_eq]; omega
    · have := List.length_filter_le (fun j => decide (row.getD j 0 = p)) (List.range row.length)
      rw [List.length_range] at this
      omega
theorem g_early (O : Ok ts bs) (hl : row.length ≤ ts.length) (p : Int) : eGen agAll [6, 4, 5] (gSeq 2 (eV 1)) (yAnd (fun ρ => xB ((x2 xEq (fun ρ => ρ[1]?) (fun ρ => ρ[4]?)) ρ)) (fun ρ => xB ((x2 xLt (fun ρ => ρ[0]?) (fun ρ => ρ[4]?)) ρ))) (x2 xLe (x2 xIx (fun ρ => ρ[3]?) (fun ρ => ρ[0]?)) (fun ρ => ρ[2]?)) (E11 ts bs bt m row (.fz (.int row.length)) (.fz (.int p)) x7 x8 x9 x10) = .ok (.fz (.bool (early bs row p))) (E11 ts bs bt m row (.fz (.int row.length)) (.fz (.int p)) x7 x8 x9 x10) := by
  have O1 := O.l
  refine gen_of (h := fun q : Int × Int => [PyData.int q.1, .int q.2]) (caps := [.int p, TI row, .int row.length]) (p := fun q => decide (q.2 = (row.length : Int)) && decide (q.1 < (row.length : Int))) (g := fun q => .bool (decide (row.getD q.1.toNat 0 ≤ p))) bs (gseq_tp2 rfl rfl) rfl (fun q hq => ?_) (agAll_map _ _)
  obtain ⟨b1, b2, b3, b4⟩ := O.b q hq
  refine ⟨?_, fun hp => ?_⟩
  · by_cases h : q.2 = (row.length : Int) <;> simp [yAnd, x2, xeq_i, xlt_i, xB, h]
  · simp only [Bool.and_eq_true, decide_eq_true_eq] at hp
    have e1 := xix_t (xs := row) (i := q.1) b1 hp.2 (by omega)
    simp [x2, e1, xle_i]
theorem g_late (O : Ok ts bs) (hl : row.length ≤ ts.length) (p : Int) : eGen agAll [6, 4, 5] (gSeq 2 (eV 1)) (yAnd (fun ρ => xB ((x2 xEq (fun ρ => ρ[0]?) (fun ρ => ρ[4]?)) ρ)) (fun ρ => xB ((x2 xLt (fun ρ => ρ[1]?) (fun ρ => ρ[4]?)) ρ))) (x2 xLe (fun ρ => ρ[2]?) (x2 xIx (fun ρ => ρ[3]?) (fun ρ => ρ[1]?))) (E11 ts bs bt m row (.fz (.int row.length)) (.fz (.int p)) x7 x8 x9 x10) = .ok (.fz (.bool (late bs row p))) (E11 ts bs bt m row (.fz (.int row.length)) (.fz (.int p)) x7 x8 x9 x10) := by
  have O1 := O.l
  refine gen_of (h := fun q : Int × Int => [PyData.int q.1, .int q.2]) (caps := [.int p, TI row, .int row.length]) (p := fun q => decide (q.1 = (row.length : Int)) && decide (q.2 < (row.length : Int))) (g := fun q => .bool (decide (p ≤ row.getD q.2.toNat 0))) bs (gseq_tp2 rfl rfl) rfl (fun q hq => ?_) (agAll_map _ _)
  obtain ⟨b1, b2, b3, b4⟩ := O.b q hq
  refine ⟨?_, fun hp => ?_⟩
  · by_cases h : q.1 = (row.length : Int) <;> simp [yAnd, x2, xeq_i, xlt_i, xB, h]
  · simp only [Bool.and_eq_true, decide_eq_true_eq] at hp
    have e1 := xix_t (xs := row) (i := q.2) b3 hp.2 (by omega)
    simp [x2, e1, xle_i]
end
end K13

end
section
namespace K13
open PySem L2 Dn
open PyProof.Rows hiding St
def pB (F_placed : List D → FOut) : Dn.Env → Out Fl := (dSeq (sSet 7 (eGen agSum [0, 6, 4] (gRng1 (fCons (eV 5) fNil)) (fun ρ => xB ((x2 xEq (x2 xIx (fun ρ => ρ[3]?) (fun ρ => ρ[0]?)) (fun ρ => ρ[2]?)) ρ)) (x2 xIx (fun ρ => ρ[1]?) (fun ρ => ρ[0]?))))
    (dSeq (sSet 8 (eGen agAll [6, 4, 5] (gSeq 2 (eV 1)) (yAnd (fun ρ => xB ((x2 xEq (fun ρ => ρ[1]?) (fun ρ => ρ[4]?)) ρ)) (fun ρ => xB ((x2 xLt (fun ρ => ρ[0]?) (fun ρ => ρ[4]?)) ρ))) (x2 xLe (x2 xIx (fun ρ => ρ[3]?) (fun ρ => ρ[0]?)) (fun ρ => ρ[2]?))))
    (dSeq (sSet 9 (eGen agAll [6, 4, 5] (gSeq 2 (eV 1)) (yAnd (fun ρ => xB ((x2 xEq (fun ρ => ρ[0]?) (fun ρ => ρ[4]?)) ρ)) (fun ρ => xB ((x2 xLt (fun ρ => ρ[1]?) (fun ρ => ρ[4]?)) ρ))) (x2 xLe (fun ρ => ρ[2]?) (x2 xIx (fun ρ => ρ[3]?) (fun ρ => ρ[1]?)))))
    (sIf (tAndD (eTest (eOp2 gLe (eOp2 gAdd (eV 7) (eOp2 gIx (eV 0) (eV 5))) (eV 2))) (tAndD (eTest (eV 8)) (eTest (eV 9)))) (dSeq (sSet 10 (eCall [] F_placed (aVal (eV 0) (aVal (eV 1) (aVal (eV 2) (aVal (eV 3) (aVal (eOp2 gAdd (eV 4) (dTup (fCons (eV 6) fNil))) aNil)))))))
    (sIf (eTest (eOp2 (gIsN false) (eV 10) (eC .none))) (sRet (eV 10)) dNil)) dNil))))
theorem b_placed_eq (F : List D → FOut) : b_placed F = dSeq (sSet 5 (eOp1 gLen (eV 4))) (dSeq (sIf (eTest (eOp2 gEq (eV 5) (eOp1 gLen (eV 0)))) (sRet (eV 4)) dNil) (dSeq (sFor (wRng1 (fCons (eV 3) fNil)) (gN 6) (pB F)) (sRet (eC .none)))) := rfl
section
variable {ts : List Int} {bs : List (Int × Int)} {bt : Int} {m : Nat} {row : List Int} {x5 x6 x7 x8 x9 x10 : Slot} {F : List D → FOut} {R : List Int → Option (List Int)}
def PP (ts : List Int) (bs : List (Int × Int)) (bt : Int) (m : Nat) (row : List Int) (r : Dn.Env) : Prop := ∃ x6 x7 x8 x9 x10, r = E11 ts bs bt m row (.fz (.int row.length)) x6 x7 x8 x9 x10
theorem body_den (O : Ok ts bs) (hl : row.length < ts.length) (p : Nat) (hF : okp ts bs bt row p = true → F [TL ts, BL bs, .int bt, .int m, TI (row ++ [(p : Int)])] = .ok (.fz (oD (R (row ++ [(p : Int)])))) []) :
    match (if okp ts bs bt row p = true then R (row ++ [(p : Int)]) else none) with
    | some v => ∃ r2, pB F (E11 ts bs bt m row (.fz (.int row.length)) (.fz (.int p)) x7 x8 x9 x10) = .ok (.rt (.bw 10)) r2 ∧ ∃ x6 x7 x8 x9, r2 = E11 ts bs bt m row (.fz (.int row.length)) x6 x7 x8 x9 (.fz (TI v))
    | none => ∃ r2, pB F (E11 ts bs bt m row (.fz (.int row.length)) (.fz (.int p)) x7 x8 x9 x10) = .ok .nx r2 ∧ PP ts bs bt m row r2 := by
  have s1 := g_load (bt := bt) (m := m) (x7 := x7) (x8 := x8) (x9 := x9) (x10 := x10) O (Nat.le_of_lt hl) p
  have s2 := g_early (bt := bt) (m := m) (x7 := .fz (.int (ld ts row p))) (x8 := x8) (x9 := x9) (x10 := x10) O (Nat.le_of_lt hl) p
  have s3 := g_late (bt := bt) (m := m) (x7 := .fz (.int (ld ts row p))) (x8 := .fz (.bool (early bs row p))) (x9 := x9) (x10 := x10) O (Nat.le_of_lt hl) p
  have gi : gIx (TL ts) (.int row.length) = some (.val (.int (ts.getD row.length 0))) := by
    have := gix_l (xs := ts) (i := (row.length : Int)) (by omega) (by omega)
    rw [Int.toNat_natCast] at this
    exact this
  have q : pB F (E11 ts bs bt m row (.fz (.int row.length)) (.fz (.int p)) x7 x8 x9 x10) = (sIf (tAndD (eTest (eOp2 gLe (eOp2 gAdd (eV 7) (eOp2 gIx (eV 0) (eV 5))) (eV 2))) (tAndD (eTest (eV 8)) (eTest (eV 9)))) (dSeq (sSet 10 (eCall [] F (aVal (eV 0) (aVal (eV 1) (aVal (eV 2) (aVal (eV 3) (aVal (eOp2 gAdd (eV 4) (dTup (fCons (eV 6) fNil))) aNil)))))))
    (sIf (eTest (eOp2 (gIsN false) (eV 10) (eC .none))) (sRet (eV 10)) dNil)) dNil) (E11 ts bs bt m row (.fz (.int row.length)) (.fz (.int p)) (.fz (.int (ld ts row p))) (.fz (.bool (early bs row p))) (.fz (.bool (late bs row p))) x10) := by
    unfold pB
    rw [seq_nx (set_fz s1)]
    show dSeq _ _ (E11 ts bs bt m row (.fz (.int row.length)) (.fz (.int p)) (.fz (.int (ld ts row p))) x8 x9 x10) = _
    rw [seq_nx (set_fz s2)]
    show dSeq _ _ (E11 ts bs bt m row (.fz (.int row.length)) (.fz (.int p)) (.fz (.int (ld ts row p))) (.fz (.bool (early bs row p))) x9 x10) = _
    rw [seq_nx (set_fz s3)]
    rfl
  rw [q]
  have le : gLe (.int (ld ts row p + ts.getD row.length 0)) (.int bt) = some (.val (.bool (decide (ld ts row p + ts.getD row.length 0 ≤ bt)))) := rfl
  have t1 : eTest (eOp2 gLe (eOp2 gAdd (eV 7) (eOp2 gIx (eV 0) (eV 5))) (eV 2)) (E11 ts bs bt m row (.fz (.int row.length)) (.fz (.int p)) (.fz (.int (ld ts row p))) (.fz (.bool (early bs row p))) (.fz (.bool (late bs row p))) x10) = .ok (decide (ld ts row p + ts.getD row.length 0 ≤ bt)) (E11 ts bs bt m row (.fz (.int row.length)) (.fz (.int p)) (.fz (.int (ld ts row p))) (.fz (.bool (early bs row p))) (.fz (.bool (late bs row p))) x10) := by
    simp [dSeq, andThen, sIf, thenS, sRet, sSet, put, dNil, eTest, tst, eChain, eOp2, op2, both, sole, lift, cont, slotC, eC, eV, eOp1, dLst, dTup, fCons, fNil, stl, Dn.settle, isDic, Out.bind, ORes.res, retv, outsOf, mutC, tOrD, tAndD, tNotD, reput, ioAt, eCall, aVal, aRef, aNil, callD, refsApart, isRef, dataAux, setOuts, eSl, pSom, pNon, sDrop, gIsN, isNone, wRng1, wRng2, sRaise, sTry, eMut, isLst, mutEnd, gi, add_i, le, -List.getD_eq_getElem?_getD]
  have t : tAndD (eTest (eOp2 gLe (eOp2 gAdd (eV 7) (eOp2 gIx (eV 0) (eV 5))) (eV 2))) (tAndD (eTest (eV 8)) (eTest (eV 9))) (E11 ts bs bt m row (.fz (.int row.length)) (.fz (.int p)) (.fz (.int (ld ts row p))) (.fz (.bool (early bs row p))) (.fz (.bool (late bs row p))) x10) = .ok (okp ts bs bt row p) (E11 ts bs bt m row (.fz (.int row.length)) (.fz (.int p)) (.fz (.int (ld ts row p))) (.fz (.bool (early bs row p))) (.fz (.bool (late bs row p))) x10) := by
    unfold okp
    cases h1 : decide (ld ts row p + ts.getD row.length 0 ≤ bt) with
    | false => rw [h1] at t1; rw [tand_f t1]; rfl
    | true =>
      rw [h1] at t1
      rw [tand_t t1]
      cases h2 : early bs row p with
      | false => rfl
      | true => rfl
  cases hk : okp ts bs bt row p with
  | false =>
    rw [hk] at t
    rw [if_neg (by decide)]
    exact ⟨_, (sif_f t).trans rfl, _, _, _, _, _, rfl⟩
  | true =>
    rw [hk] at t
    rw [if_pos rfl, sif_t t]
    have hF := hF hk
    have ga : eOp2 gAdd (eV 4) (dTup (fCons (eV 6) fNil)) (E11 ts bs bt m row (.fz (.int row.length)) (.fz (.int p)) (.fz (.int (ld ts row p))) (.fz (.bool (early bs row p))) (.fz (.bool (late bs row p))) x10) = .ok (.fz (TI (row ++ [(p : Int)]))) (E11 ts bs bt m row (.fz (.int row.length)) (.fz (.int p)) (.fz (.int (ld ts row p))) (.fz (.bool (early bs row p))) (.fz (.bool (late bs row p))) x10) := by
      have := addT_of (fe := eV 4) (fe' := dTup (fCons (eV 6) fNil)) (r := E11 ts bs bt m row (.fz (.int row.length)) (.fz (.int p)) (.fz (.int (ld ts row p))) (.fz (.bool (early bs row p))) (.fz (.bool (late bs row p))) x10) (xs := row.map .int) (ys := [.int (p : Int)]) rfl rfl rfl rfl (by have := O.l; rw [List.length_map]; show row.length + 1 ≤ _; omega)
      rw [this, Dn.TI, List.map_append]; rfl
    have c : eCall [] F (aVal (eV 0) (aVal (eV 1) (aVal (eV 2) (aVal (eV 3) (aVal (eOp2 gAdd (eV 4) (dTup (fCons (eV 6) fNil))) aNil))))) (E11 ts bs bt m row (.fz (.int row.length)) (.fz (.int p)) (.fz (.int (ld ts row p))) (.fz (.bool (early bs row p))) (.fz (.bool (late bs row p))) x10) = .ok (.fz (oD (R (row ++ [(p : Int)])))) (E11 ts bs bt m row (.fz (.int row.length)) (.fz (.int p)) (.fz (.int (ld ts row p))) (.fz (.bool (early bs row p))) (.fz (.bool (late bs row p))) x10) := by
      unfold eCall
      show ((aVal (eV 0) (aVal (eV 1) (aVal (eV 2) (aVal (eV 3) (aVal (eOp2 gAdd (eV 4) (dTup (fCons (eV 6) fNil))) aNil))))) _).bind _ = _
      simp [aVal, eV, slotC, Out.bind, stl, Dn.settle, isDic, aNil, ga, callD, refsApart, dataAux, hF, setOuts]
    rw [seq_nx (set_fz c)]
    cases R (row ++ [(p : Int)]) with
    | none => exact ⟨_, rfl, _, _, _, _, _, rfl⟩
    | some v => exact ⟨_, rfl, _, _, _, _, rfl⟩
/-- placed -/
theorem placed_den (O : Ok ts bs) (hm : m ≤ 100) : ∀ (f : Nat) (row : List Int), row.length ≤ ts.length → ts.length < f + row.length → D_placed f [TL ts, BL bs, .int bt, .int m, TI row] = .ok (.fz (oD (pl ts bs bt m f row))) []
  | 0, row, h1, h2 => absurd h2 (by omega)
  | f + 1, row, h1, h2 => by
    have O1 := O.l
    show Dn.finish [] (b_placed (D_placed f) (E11 ts bs bt m row .un .un .un .un .un .un)) = _
    have s1 : sSet 5 (eOp1 gLen (eV 4)) (E11 ts bs bt m row .un .un .un .un .un .un) = .ok .nx (E11 ts bs bt m row (.fz (.int row.length)) .un .un .un .un .un) := set_fz (op1_of (o := .val (.int row.length)) rfl rfl (len_t row))
    have ne : gEq (.int row.length) (.int ts.length) = some (.val (.bool (decide ((row.length : Int) = ts.length)))) := rfl
    have s2 : eTest (eOp2 gEq (eV 5) (eOp1 gLen (eV 0))) (E11 ts bs bt m row (.fz (.int row.length)) .un .un .un .un .un) = .ok (decide ((row.length : Int) = ts.length)) (E11 ts bs bt m row (.fz (.int row.length)) .un .un .un .un .un) := by
      simp [dSeq, andThen, sIf, thenS, sRet, sSet, put, dNil, eTest, tst, eChain, eOp2, op2, both, sole, lift, cont, slotC, eC, eV, eOp1, dLst, dTup, fCons, fNil, stl, Dn.settle, isDic, Out.bind, ORes.res, retv, outsOf, mutC, tOrD, tAndD, tNotD, reput, ioAt, eCall, aVal, aRef, aNil, callD, refsApart, isRef, dataAux, setOuts, eSl, pSom, pNon, sDrop, gIsN, isNone, wRng1, wRng2, sRaise, sTry, eMut, isLst, mutEnd, len_l, ne]
    rw [b_placed_eq, seq_nx s1]
    unfold pl
    by_cases hr : row.length = ts.length
    · rw [show decide ((row.length : Int) = ts.length) = true by simp [hr]] at s2
      have s3 : sIf (eTest (eOp2 gEq (eV 5) (eOp1 gLen (eV 0)))) (sRet (eV 4)) dNil (E11 ts bs bt m row (.fz (.int row.length)) .un .un .un .un .un) = .ok (.rt (.bw 4)) (E11 ts bs bt m row (.fz (.int row.length)) .un .un .un .un .un) := (sif_t s2).trans rfl
      rw [if_pos hr, seq_rt s3]
      rfl
    · rw [show decide ((row.length : Int) = ts.length) = false by simp; omega] at s2
      have s3 : sIf (eTest (eOp2 gEq (eV 5) (eOp1 gLen (eV 0)))) (sRet (eV 4)) dNil (E11 ts bs bt m row (.fz (.int row.length)) .un .un .un .un .un) = .ok .nx (E11 ts bs bt m row (.fz (.int row.length)) .un .un .un .un .un) := (sif_f s2).trans rfl
      rw [if_neg hr, seq_nx s3]
      have hl : row.length < ts.length := by omega
      have lf := loop_find (G := gN 6) (b := pB (D_placed f)) (f := fun p : Nat => PyData.int (p : Int)) (PP ts bs bt m row) (fun x r2 v => x = .bw 10 ∧ ∃ x6 x7 x8 x9, r2 = E11 ts bs bt m row (.fz (.int row.length)) x6 x7 x8 x9 (.fz (TI v)))
        (fun p => if okp ts bs bt row p = true then pl ts bs bt m f (row ++ [(p : Int)]) else none) (List.range m) (E11 ts bs bt m row (.fz (.int row.length)) .un .un .un .un .un) ⟨_, _, _, _, _, rfl⟩ (fun r p hp hP => by
          obtain ⟨x6, x7, x8, x9, x10, rfl⟩ := hP
          refine ⟨E11 ts bs bt m row (.fz (.int row.length)) (.fz (.int p)) x7 x8 x9 x10, rfl, ?_⟩
          have := body_den (x7 := x7) (x8 := x8) (x9 := x9) (x10 := x10) (F := D_placed f) (R := pl ts bs bt m f) (bt := bt) (m := m) O hl p (fun _ => placed_den O hm f (row ++ [(p : Int)]) (by rw [List.length_append]; exact hl) (by rw [List.length_append]; show _ < f + (row.length + 1); omega))
          revert this
          cases (if okp ts bs bt row p = true then pl ts bs bt m f (row ++ [(p : Int)]) else none) with
          | none => exact fun h => h
          | some v => exact fun ⟨r2, a, b⟩ => ⟨_, r2, a, rfl, b⟩)
      have fi : sFor (wRng1 (fCons (eV 3) fNil)) (gN 6) (pB (D_placed f)) (E11 ts bs bt m row (.fz (.int row.length)) .un .un .un .un .un) = loopD (gN 6) (pB (D_placed f)) ((List.range m).map fun p : Nat => PyData.int (p : Int)) (E11 ts bs bt m row (.fz (.int row.length)) .un .un .un .un .un) := by
        refine for_of ?_
        have sm : smallI (m : Int) = true := by simp [smallI]; omega
        simp [dSeq, andThen, sIf, thenS, sRet, sSet, put, dNil, eTest, tst, eChain, eOp2, op2, both, sole, lift, cont, slotC, eC, eV, eOp1, dLst, dTup, fCons, fNil, stl, Dn.settle, isDic, Out.bind, ORes.res, retv, outsOf, mutC, tOrD, tAndD, tNotD, reput, ioAt, eCall, aVal, aRef, aNil, callD, refsApart, isRef, dataAux, setOuts, eSl, pSom, pNon, sDrop, gIsN, isNone, wRng1, wRng2, sRaise, sTry, eMut, isLst, mutEnd, sm, rngL_eq]
      revert lf
      cases (List.range m).findSome? (fun (p : Nat) => if okp ts bs bt row (p : Int) = true then pl ts bs bt m f (row ++ [(p : Int)]) else none) with
      | none =>
        rintro ⟨r2, a, x6, x7, x8, x9, x10, rfl⟩
        rw [seq_nx (fi.trans a)]
        rfl
      | some v =>
        rintro ⟨x, r2, a, rfl, x6, x7, x8, x9, rfl⟩
        rw [seq_rt (fi.trans a)]
        rfl
end
end K13

end
section
namespace K13
open PySem L2 Dn
open PyProof.Rows hiding St
/-! ### rows that are built up -/
def ch (ok : List Int → Int → Bool) : List Int → List Int → Bool
  | _, [] => true
  | row, p :: s => ok row p && ch ok (row ++ [p]) s
theorem ch_append (ok : List Int → Int → Bool) : ∀ (s t row : List Int), ch ok row (s ++ t) = (ch ok row s && ch ok (row ++ s) t)
  | [], t, row => by simp [ch]
  | p :: s, t, row => by
    simp only [List.cons_append, ch]
    rw [ch_append ok s t (row ++ [p]), Bool.and_assoc, List.append_assoc, List.singleton_append]
theorem ch_and (a b : List Int → Int → Bool) : ∀ (s row : List Int), ch (fun r p => a r p && b r p) row s = (ch a row s && ch b row s)
  | [], row => rfl
  | p :: s, row => by
    simp only [ch]
    rw [ch_and a b s]
    cases a row p <;> cases b row p <;> simp
theorem ch_iff (ok : List Int → Int → Bool) : ∀ (s row : List Int), ch ok row s = true ↔ ∀ k, k < s.length → ok (row ++ s.take k) (s.getD k 0) = true
  | [], row => by simp [ch]
  | p :: s, row => by
    simp only [ch, Bool.and_eq_true]
    rw [ch_iff ok s (row ++ [p])]
    constructor
    · rintro ⟨h0, h⟩ k hk
      cases k with
      | zero => simpa using h0
      | succ k =>
        have := h k (by simpa using hk)
        simpa using this
    · intro h
      refine ⟨by simpa using h 0 (by simp), fun k hk => ?_⟩
      have := h (k + 1) (by simpa using hk)
      simpa using this
theorem fs_map {α β γ : Type} (g : α → Option β) (h : β → γ) : ∀ l : List α, (l.findSome? g).map h = l.findSome? fun a => (g a).map h
  | [] => rfl
  | a :: l => by
    rw [List.findSome?_cons, List.findSome?_cons]
    cases g a with
    | none => exact fs_map g h l
    | some b => rfl
section
variable {ts : List Int} {bs : List (Int × Int)} {bt : Int} {m : Nat}
def inB (m : Nat) (p : Int) : Bool := decide (0 ≤ p) && decide (p < m)
/-- the ways to go on -/
def sx (ts : List Int) (bs : List (Int × Int)) (bt : Int) (m : Nat) : Nat → List Int → List (List Int)
  | 0, _ => []
  | f + 1, row => if row.length = ts.length then [[]] else (List.range m).flatMap fun (p : Nat) => if okp ts bs bt row (p : Int) = true then (sx ts bs bt m f (row ++ [(p : Int)])).map (((p : Int)) :: ·) else []
theorem pl_sx : ∀ (f : Nat) (row : List Int), pl ts bs bt m f row = (sx ts bs bt m f row).head?.map (row ++ ·)
  | 0, row => rfl
  | f + 1, row => by
    unfold pl sx
    by_cases h : row.length = ts.length
    · rw [if_pos h, if_pos h]; simp
    · rw [if_neg h, if_neg h, List.head?_flatMap, fs_map]
      congr 1
      funext p
      by_cases ho : okp ts bs bt row (p : Int) = true
      · rw [if_pos ho, if_pos ho, pl_sx f, List.head?_map, Option.map_map]
        congr 1
        funext t
        simp
      · rw [if_neg ho, if_neg ho]; rfl
theorem mem_sx : ∀ (f : Nat) (row s : List Int), row.length ≤ ts.length → ts.length < f + row.length → (s ∈ sx ts bs bt m f row ↔ (s.length + row.length = ts.length ∧ ch (fun r p => inB m p && okp ts bs bt r p) row s = true))
  | 0, row, s, h1, h2 => absurd h2 (by omega)
  | f + 1, row, s, h1, h2 => by
    unfold sx
    by_cases h : row.length = ts.length
    · rw [if_pos h]
      constructor
      · intro hs
        have := List.mem_singleton.mp hs
        subst this
        exact ⟨by simpa using h, rfl⟩
      · rintro ⟨h3, _⟩
        have : s.length = 0 := by omega
        rw [List.length_eq_zero_iff.mp this]
        exact List.mem_singleton.mpr rfl
    · rw [if_neg h, List.mem_flatMap]
      have hl : row.length < ts.length := by omega
      have ih := fun p s => mem_sx f (row ++ [p]) s (by rw [List.length_append]; exact hl) (by rw [List.length_append]; show _ < f + (row.length + 1); omega)
      constructor
      · rintro ⟨p, hp, hs⟩
        by_cases ho : okp ts bs bt row p = true
        · rw [if_pos ho, List.mem_map] at hs
          obtain ⟨t, ht, rfl⟩ := hs
          obtain ⟨h3, h4⟩ := (ih p t).mp ht
          rw [List.length_append] at h3
          refine ⟨by simp only [List.length_cons, List.length_nil] at h3 ⊢; omega, ?_⟩
          simp only [ch, Bool.and_eq_true]
          have := List.mem_range.mp hp
          exact ⟨⟨by simp [inB]; omega, ho⟩, h4⟩
        · rw [if_neg ho] at hs
          cases hs
      · rintro ⟨h3, h4⟩
        cases s with
        | nil => simp at h3; omega
        | cons p t =>
          simp only [ch, Bool.and_eq_true, inB, decide_eq_true_eq] at h4
          obtain ⟨⟨⟨q1, q2⟩, ho⟩, h5⟩ := h4
          obtain ⟨k, rfl⟩ : ∃ k : Nat, p = k := ⟨p.toNat, by omega⟩
          refine ⟨k, List.mem_range.mpr (by omega), ?_⟩
          rw [if_pos ho, List.mem_map]
          refine ⟨t, (ih k t).mpr ⟨?_, ?_⟩, rfl⟩
          · rw [List.length_append]; simp only [List.length_cons, List.length_nil] at h3 ⊢; omega
          · simpa [inB] using h5
/-- in the order of their words -/
theorem sorted_sx : ∀ (f : Nat) (row : List Int), (sx ts bs bt m f row).Pairwise (fun a b => a < b)
  | 0, row => List.Pairwise.nil
  | f + 1, row => by
    unfold sx
    by_cases h : row.length = ts.length
    · rw [if_pos h]; exact List.pairwise_singleton _ _
    · rw [if_neg h, List.pairwise_flatMap]
      refine ⟨fun p hp => ?_, ?_⟩
      · split
        · rw [List.pairwise_map]
          refine (sorted_sx f _).imp fun {a b} hab => ?_
          exact List.cons_lt_cons_iff.mpr (.inr ⟨rfl, hab⟩)
        · exact List.Pairwise.nil
      · refine List.pairwise_lt_range.imp fun {p q} hpq => ?_
        intro x hx y hy
        split at hx
        · split at hy
          · obtain ⟨a, _, rfl⟩ := List.mem_map.mp hx
            obtain ⟨b, _, rfl⟩ := List.mem_map.mp hy
            exact List.cons_lt_cons_iff.mpr (.inl (by omega))
          · cases hy
        · cases hx
/-! ### the law's rows -/
def lok (ts : List Int) (bt : Int) (row : List Int) (p : Int) : Bool := decide (ld ts row p + ts.getD row.length 0 ≤ bt)
def nxt (ts : List Int) (bt : Int) (n : Nat) (row : List Int) : List (List Int) := ((List.range n).filter fun (p : Nat) => lok ts bt row (p : Int)).map fun (p : Nat) => row ++ [(p : Int)]
def rws (ts : List Int) (bt : Int) (n : Nat) : Nat → List (List Int)
  | 0 => [[]]
  | k + 1 => (rws ts bt n k).flatMap (nxt ts bt n)
theorem mem_rws {n : Nat} : ∀ (k : Nat) (r : List Int), r ∈ rws ts bt n k ↔ (r.length = k ∧ ch (fun r p => inB n p && lok ts bt r p) [] r = true)
  | 0, r => by
    unfold rws
    constructor
    · intro h
      rw [List.mem_singleton.mp h]
      exact ⟨rfl, rfl⟩
    · rintro ⟨h, _⟩
      rw [List.length_eq_zero_iff.mp h]
      exact List.mem_singleton.mpr rfl
  | k + 1, r => by
    unfold rws
    rw [List.mem_flatMap]
    constructor
    · rintro ⟨q, hq, hr⟩
      obtain ⟨h1, h2⟩ := (mem_rws k q).mp hq
      unfold nxt at hr
      obtain ⟨p, hp, rfl⟩ := List.mem_map.mp hr
      obtain ⟨hp1, hp2⟩ := List.mem_filter.mp hp
      have hp1 := List.mem_range.mp hp1
      refine ⟨by rw [List.length_append, h1]; rfl, ?_⟩
      rw [ch_append, h2]
      simp only [ch, List.nil_append, Bool.and_true, Bool.true_and, Bool.and_eq_true, inB, decide_eq_true_eq]
      exact ⟨⟨by omega, by omega⟩, hp2⟩
    · rintro ⟨h1, h2⟩
      have hne : r ≠ [] := by intro e; rw [e] at h1; cases h1
      have e := (List.dropLast_concat_getLast hne).symm
      rw [e, ch_append] at h2
      simp only [ch, List.nil_append, Bool.and_true, Bool.and_eq_true, inB, decide_eq_true_eq] at h2
      obtain ⟨h3, ⟨h4, h5⟩, h6⟩ := h2
      refine ⟨r.dropLast, (mem_rws k _).mpr ⟨by rw [List.length_dropLast]; omega, by simpa [inB] using h3⟩, ?_⟩
      unfold nxt
      obtain ⟨j, hj⟩ : ∃ j : Nat, r.getLast hne = j := ⟨(r.getLast hne).toNat, by omega⟩
      refine List.mem_map.mpr ⟨j, List.mem_filter.mpr ⟨List.mem_range.mpr (by omega), by rw [← hj]; exact h6⟩, ?_⟩
      rw [← hj]
      exact e.symm
/-! ### nobody ahead -/
def gd (bs : List (Int × Int)) (r : List Int) : Bool := bs.all fun q => decide (r.getD q.1.toNat 0 ≤ r.getD q.2.toNat 0)
theorem el_gd {n : Nat} (hb : ∀ q ∈ bs, 0 ≤ q.1 ∧ q.1 < (n : Int) ∧ 0 ≤ q.2 ∧ q.2 < (n : Int) ∧ q.1 ≠ q.2) (r : List Int) (hr : r.length = n) : ch (fun r p => early bs r p && late bs r p) [] r = gd bs r := by
  rw [Bool.eq_iff_iff, ch_iff]
  unfold gd early late
  simp only [List.nil_append, Bool.and_eq_true, List.all_eq_true, List.mem_filter, decide_eq_true_eq, List.length_take]
  constructor
  · intro h q hq
    obtain ⟨b1, b2, b3, b4, b5⟩ := hb q hq
    rcases Int.lt_or_gt_of_ne b5 with z | z
    · have := (h q.2.toNat (by omega)).1 q ⟨hq, by omega, by omega⟩
      rw [List.getD_eq_getElem?_getD, List.getElem?_take_of_lt (by omega), ← List.getD_eq_getElem?_getD] at this
      exact this
    · have := (h q.1.toNat (by omega)).2 q ⟨hq, by omega, by omega⟩
      rw [List.getD_eq_getElem?_getD (l := List.take _ _), List.getElem?_take_of_lt (by omega), ← List.getD_eq_getElem?_getD] at this
      exact this
  · intro h k hk
    refine ⟨fun q ⟨hq, e1, e2⟩ => ?_, fun q ⟨hq, e1, e2⟩ => ?_⟩
    · obtain ⟨b1, b2, b3, b4, b5⟩ := hb q hq
      have := h q hq
      rw [List.getD_eq_getElem?_getD (l := List.take _ _), List.getElem?_take_of_lt (by omega), ← List.getD_eq_getElem?_getD]
      rw [show k = q.2.toNat by omega]
      exact this
    · obtain ⟨b1, b2, b3, b4, b5⟩ := hb q hq
      have := h q hq
      rw [List.getD_eq_getElem?_getD (l := List.take _ _), List.getElem?_take_of_lt (by omega), ← List.getD_eq_getElem?_getD]
      rw [show k = q.1.toNat by omega]
      exact this
end
end K13

end
section
namespace K13
open PySem L2 Dn
open PyProof.Rows hiding St
def mx (r : List Int) : Int := r.foldl max (-1)
theorem foldl_max_lt (m : Int) : ∀ (r : List Int) (a : Int), r.foldl max a < m ↔ a < m ∧ ∀ x ∈ r, x < m
  | [], a => by simp
  | x :: r, a => by
    rw [List.foldl_cons, foldl_max_lt m r (max a x)]
    simp only [List.mem_cons, forall_eq_or_imp]
    rw [← and_assoc]
    have : max a x < m ↔ a < m ∧ x < m := by omega
    rw [this]
theorem mx_lt (m : Int) (hm : 0 ≤ m) (r : List Int) : mx r < m ↔ ∀ x ∈ r, x < m := by
  unfold mx
  rw [foldl_max_lt]
  constructor
  · exact fun h => h.2
  · exact fun h => ⟨by omega, h⟩
theorem mx_ge (r : List Int) : -1 ≤ mx r := by
  have := (foldl_max_lt (mx r + 1) r (-1)).mp (by unfold mx; omega)
  unfold mx at this ⊢; omega
theorem ch_in (m : Nat) : ∀ (s row : List Int), ch (fun _ p => inB m p) row s = true ↔ ∀ x ∈ s, 0 ≤ x ∧ x < m
  | [], row => by simp [ch]
  | p :: s, row => by
    simp only [ch, Bool.and_eq_true, List.mem_cons, forall_eq_or_imp, inB, decide_eq_true_eq]
    have := ch_in m s (row ++ [p])
    simp only [inB, Bool.and_eq_true, decide_eq_true_eq] at this
    rw [this]
abbrev ltp : Int × List Int → Int × List Int → Bool := fun p q => if p.1 = q.1 then (if p.2 = q.2 then false else decide (p.2 < q.2)) else decide (p.1 < q.1)
section
variable {ts : List Int} {bs : List (Int × Int)} {bt : Int} {m : Nat}
def gds (ts : List Int) (bs : List (Int × Int)) (bt : Int) : List (Int × List Int) := ((rws ts bt ts.length ts.length).filter (gd bs)).map fun r => (mx r + 1, r)
theorem mem_B (O : Ok ts bs) (hn : ts.length < 6) (hb : ∀ q ∈ bs, q.1 ≠ q.2) (s : List Int) : s ∈ sx ts bs bt m 6 [] ↔ (s.length = ts.length ∧ (∀ x ∈ s, 0 ≤ x ∧ x < m) ∧ ch (lok ts bt) [] s = true ∧ gd bs s = true) := by
  rw [mem_sx 6 [] s (Nat.zero_le _) hn]
  have e : (fun (r : List Int) (p : Int) => inB m p && okp ts bs bt r p) = fun r p => (fun _ p => inB m p) r p && (fun r p => lok ts bt r p && (fun r p => early bs r p && late bs r p) r p) r p := rfl
  rw [e, ch_and (fun _ p => inB m p), ch_and (lok ts bt) (fun r p => early bs r p && late bs r p)]
  simp only [List.length_nil, Nat.add_zero, Bool.and_eq_true]
  constructor
  · rintro ⟨h1, h2, h3, h4⟩
    rw [el_gd (n := ts.length) (fun q hq => by obtain ⟨a, b, c, d⟩ := O.b q hq; exact ⟨a, b, c, d, hb q hq⟩) s h1] at h4
    exact ⟨h1, (ch_in m s []).mp h2, h3, h4⟩
  · rintro ⟨h1, h2, h3, h4⟩
    refine ⟨h1, (ch_in m s []).mpr h2, h3, ?_⟩
    rw [el_gd (n := ts.length) (fun q hq => by obtain ⟨a, b, c, d⟩ := O.b q hq; exact ⟨a, b, c, d, hb q hq⟩) s h1]
    exact h4
theorem mem_R (s : List Int) : s ∈ rws ts bt ts.length ts.length ↔ (s.length = ts.length ∧ (∀ x ∈ s, 0 ≤ x ∧ x < (ts.length : Int)) ∧ ch (lok ts bt) [] s = true) := by
  rw [mem_rws]
  have e : (fun (r : List Int) (p : Int) => inB ts.length p && lok ts bt r p) = fun r p => (fun _ p => inB ts.length p) r p && lok ts bt r p := rfl
  rw [e, ch_and (fun _ p => inB ts.length p)]
  simp only [Bool.and_eq_true]
  constructor
  · rintro ⟨h1, h2, h3⟩; exact ⟨h1, (ch_in _ s []).mp h2, h3⟩
  · rintro ⟨h1, h2, h3⟩; exact ⟨h1, (ch_in _ s []).mpr h2, h3⟩
/-- the first of the places -/
def tld (ts : List Int) (bs : List (Int × Int)) (bt : Int) : Option (Nat × List Int) := (List.range (ts.length + 1)).findSome? fun m => (pl ts bs bt m 6 []).map fun r => (m, r)
theorem tld_ok (O : Ok ts bs) (hn : ts.length < 6) (hb : ∀ q ∈ bs, q.1 ≠ q.2) (hx : ∃ r, r ∈ rws ts bt ts.length ts.length ∧ gd bs r = true) :
    ∃ (m : Nat) (r : List Int), tld ts bs bt = some (m, r) ∧ m ≤ ts.length ∧ r ∈ rws ts bt ts.length ts.length ∧ gd bs r = true ∧ ((m : Int), r) ∈ gds ts bs bt ∧ ∀ y ∈ gds ts bs bt, y = ((m : Int), r) ∨ (ltp (m, r) y = true ∧ ltp y (m, r) = false) := by
  have pe : ∀ m, pl ts bs bt m 6 [] = (sx ts bs bt m 6 []).head? := fun m => by rw [pl_sx]; cases (sx ts bs bt m 6 []).head? <;> simp
  cases e : tld ts bs bt with
  | none =>
    exfalso
    obtain ⟨r, h1, h2⟩ := hx
    obtain ⟨a1, a2, a3⟩ := (mem_R r).mp h1
    have hB : r ∈ sx ts bs bt ts.length 6 [] := (mem_B O hn hb r).mpr ⟨a1, a2, a3, h2⟩
    have := (List.findSome?_eq_none_iff.mp e) ts.length (List.mem_range.mpr (by omega))
    rw [pe, Option.map_eq_none_iff, List.head?_eq_none_iff] at this
    rw [this] at hB
    cases hB
  | some v =>
    obtain ⟨m, r⟩ := v
    obtain ⟨l1, a, l2, h1, h2, h3⟩ := List.findSome?_eq_some_iff.mp e
    rw [pe, Option.map_eq_some_iff] at h2
    obtain ⟨r', h4, h5⟩ := h2
    cases h5
    have hm : m < ts.length + 1 := List.mem_range.mp (by rw [h1]; simp)
    have low : ∀ k, k < m → sx ts bs bt k 6 [] = [] := fun k hk => by
      have hk1 : k ∈ l1 := by
        have hp : (l1 ++ m :: l2).Pairwise (· < ·) := by rw [← h1]; exact List.pairwise_lt_range
        have hkr : k ∈ l1 ++ m :: l2 := by rw [← h1]; exact List.mem_range.mpr (by omega)
        rcases List.mem_append.mp hkr with h | h
        · exact h
        · exfalso
          rcases List.mem_cons.mp h with rfl | h
          · omega
          · have := (List.pairwise_cons.mp (List.pairwise_append.mp hp).2.1).1 k h
            omega
      have := h3 k hk1
      rw [pe, Option.map_eq_none_iff, List.head?_eq_none_iff] at this
      exact this
    have hr : r ∈ sx ts bs bt m 6 [] := List.mem_of_head? h4
    obtain ⟨b1, b2, b3, b4⟩ := (mem_B O hn hb r).mp hr
    have hR : r ∈ rws ts bt ts.length ts.length := (mem_R r).mpr ⟨b1, fun x hx => ⟨(b2 x hx).1, by have := (b2 x hx).2; omega⟩, b3⟩
    have em : mx r + 1 = m := by
      have u : mx r < m := (mx_lt m (by omega) r).mpr fun x hx => (b2 x hx).2
      have g0 := mx_ge r
      rcases Int.lt_or_eq_of_le (show mx r + 1 ≤ m by omega) with z | z
      · exfalso
        have := low (mx r + 1).toNat (by omega)
        have hB : r ∈ sx ts bs bt (mx r + 1).toNat 6 [] := (mem_B O hn hb r).mpr ⟨b1, fun x hx => ⟨(b2 x hx).1, by
          have := (mx_lt (mx r + 1) (by omega) r).mp (by omega) x hx
          omega⟩, b3, b4⟩
        rw [this] at hB
        cases hB
      · exact z
    refine ⟨m, r, rfl, by omega, hR, b4, ?_, fun y hy => ?_⟩
    · exact List.mem_map.mpr ⟨r, List.mem_filter.mpr ⟨hR, b4⟩, by rw [em]⟩
    · obtain ⟨s, hs, rfl⟩ := List.mem_map.mp hy
      obtain ⟨hs1, hs2⟩ := List.mem_filter.mp hs
      obtain ⟨c1, c2, c3⟩ := (mem_R s).mp hs1
      have g0 := mx_ge s
      have hB : s ∈ sx ts bs bt (mx s + 1).toNat 6 [] := (mem_B O hn hb s).mpr ⟨c1, fun x hx => ⟨(c2 x hx).1, by
          have := (mx_lt (mx s + 1) (by omega) s).mp (by omega) x hx
          omega⟩, c3, hs2⟩
      have ge : (m : Int) ≤ mx s + 1 := by
        rcases Int.lt_or_le (mx s + 1) m with z | z
        · exfalso
          rw [low _ (by omega)] at hB
          cases hB
        · exact z
      rcases Int.lt_or_eq_of_le ge with z | z
      · right
        simp only [ltp]
        rw [if_neg (by omega), if_neg (by omega)]
        exact ⟨by simpa using z, by simpa using Int.le_of_lt z⟩
      · have hB' : s ∈ sx ts bs bt m 6 [] := by rw [show m = (mx s + 1).toNat by omega]; exact hB
        cases q : sx ts bs bt m 6 [] with
        | nil => rw [q] at hr; cases hr
        | cons x l =>
          rw [q] at h4 hB'
          have ex : x = r := by simpa using h4
          subst ex
          have so := sorted_sx (ts := ts) (bs := bs) (bt := bt) (m := m) 6 []
          rw [q] at so
          rcases List.mem_cons.mp hB' with rfl | hl
          · left; rw [← z]
          · right
            have lt := (List.pairwise_cons.mp so).1 s hl
            have ne : x ≠ s := fun z => by rw [z] at lt; exact List.lt_irrefl s lt
            simp only [ltp]
            rw [if_pos z, if_neg ne, if_pos z.symm, if_neg (Ne.symm ne)]
            refine ⟨by simpa using lt, ?_⟩
            simpa using List.lt_asymm lt
end
end K13

end
section
namespace K13
open PySem L2 Dn
open PyProof.Rows hiding St
theorem drop_call {F : List D → FOut} {f : Dn.Env → Out (List Dn.Arg)} {r r1 : Dn.Env} {x : D} (h : eCall [] F f r = .ok (.fz x) r1) : sDrop (eCall [] F f) r = .ok .nx r1 := by
  unfold sDrop
  rw [h]
  rfl
section
variable {ts : List Int} {bs : List (Int × Int)} {bt : Int} {x3 x4 : Slot}
abbrev E5 (ts : List Int) (bs : List (Int × Int)) (bt : Int) (x3 x4 : Slot) : Dn.Env := [.fz (TL ts), .fz (BL bs), .fz (.int bt), x3, x4]
def lB : Dn.Env → Out Fl := dSeq (sSet 4 (eCall [] (D_placed 6) (aVal (eV 0) (aVal (eV 1) (aVal (eV 2) (aVal (eV 3) (aVal (dTup fNil) aNil)))))))
    (sIf (eTest (eOp2 (gIsN false) (eV 4) (eC .none))) (sRet (dTup (fCons (eV 3) (fCons (eV 4) fNil)))) dNil)
theorem b_places_eq : b_places D_check_seams D_first_order (D_placed 6) = dSeq (sDrop (eCall [] D_check_seams (aVal (eOp1 gLen (eV 0)) (aVal (eV 1) aNil))))
    (dSeq (sIf (eTest (eGen agAny [2] (gSeq 1 (eV 0)) xYes (xOr (x2 xGt (fun ρ => ρ[0]?) (fun ρ => ρ[1]?)) (x2 xLt (fun ρ => ρ[0]?) (fun _ => some (.int 1)))))) (sRaise .fit) dNil)
    (dSeq (sIf (eTest (eOp2 gGt (eOp1 gLen (eV 0)) (eC (.int 9)))) (sRaise .large) dNil)
    (dSeq (sDrop (eCall [] D_first_order (aVal (eOp1 gLen (eV 0)) (aVal (eV 1) aNil))))
    (dSeq (sFor (wRng1 (fCons (eOp2 gAdd (eOp1 gLen (eV 0)) (eC (.int 1))) fNil)) (gN 3) lB)
    (sRaise .fit))))) := rfl
theorem rows_i : ∀ xs : List Int, rowsOf 1 (xs.map .int) = some (xs.map fun k => [.int k])
  | [] => rfl
  | x :: xs => by
    rw [List.map_cons]
    unfold rowsOf
    rw [rows_i xs]
    rfl
theorem places_den (O : Ok ts bs) (hn : ts.length < 6) (ht : ∀ t ∈ ts, t ≤ bt) {c1 c2 : D} (hc : D_check_seams [.int ts.length, BL bs] = .ok (.fz c1) []) (hf : D_first_order [.int ts.length, BL bs] = .ok (.fz c2) []) {m : Nat} {r : List Int} (e : tld ts bs bt = some (m, r)) :
    D_places [TL ts, BL bs, .int bt] = .ok (.fz (.tuple [.int m, TI r])) [] := by
  have s1 : sDrop (eCall [] D_check_seams (aVal (eOp1 gLen (eV 0)) (aVal (eV 1) aNil))) (E5 ts bs bt .un .un) = .ok .nx (E5 ts bs bt .un .un) := by
    refine drop_call (x := c1) ?_
    unfold eCall
    simp [aVal, eV, slotC, Out.bind, stl, Dn.settle, isDic, aNil, eOp1, sole, cont, len_l, lift, ORes.res, callD, refsApart, dataAux, hc, setOuts]
  have g2 : eGen agAny [2] (gSeq 1 (eV 0)) xYes (xOr (x2 xGt (fun ρ => ρ[0]?) (fun ρ => ρ[1]?)) (x2 xLt (fun ρ => ρ[0]?) (fun _ => some (.int 1)))) (E5 ts bs bt .un .un) = .ok (.fz (.bool (ts.any fun t => decide (bt < t) || decide (t < 1)))) (E5 ts bs bt .un .un) := by
    refine gen_of (h := fun k : Int => [PyData.int k]) (caps := [.int bt]) (p := fun _ => true) (g := fun t => .bool (decide (bt < t) || decide (t < 1))) ts ?_ rfl (fun t _ => ⟨rfl, fun _ => ?_⟩) ?_
    · unfold gSeq
      show (match rowsOf 1 (ts.map PyData.int) with
        | some rows => Out.ok rows (E5 ts bs bt .un .un)
        | none => (.bad : Out (List (List D)))) = _
      rw [rows_i]
    · by_cases h : bt < t <;> simp [xOr, x2, xgt_i, xlt_i, xB, h]
    · rw [filter_tt]
      exact agAny_map _ _
  have a2 : (ts.any fun t => decide (bt < t) || decide (t < 1)) = false := by
    rw [List.any_eq_false]
    intro t h
    have h1 := O.t t h
    have h2 := ht t h
    simp; omega
  rw [a2] at g2
  have s2 : sIf (eTest (eGen agAny [2] (gSeq 1 (eV 0)) xYes (xOr (x2 xGt (fun ρ => ρ[0]?) (fun ρ => ρ[1]?)) (x2 xLt (fun ρ => ρ[0]?) (fun _ => some (.int 1)))))) (sRaise .fit) dNil (E5 ts bs bt .un .un) = .ok .nx (E5 ts bs bt .un .un) := (sif_f (test_b g2 rfl)).trans rfl
  have gg : gGt (.int ts.length) (.int 9) = some (.val (.bool false)) := by
    show some (ORes.val (.bool (decide ((ts.length : Int) > 9)))) = _
    rw [decide_eq_false (by have := O.l; omega)]
  have s3 : sIf (eTest (eOp2 gGt (eOp1 gLen (eV 0)) (eC (.int 9)))) (sRaise .large) dNil (E5 ts bs bt .un .un) = .ok .nx (E5 ts bs bt .un .un) :=
    (sif_f (test_b (x := .fz (.bool false)) (op2_of (o := .val (.bool false)) (op1_of (o := .val (.int ts.length)) rfl rfl (len_l ts)) rfl rfl rfl gg) rfl)).trans rfl
  have s4 : sDrop (eCall [] D_first_order (aVal (eOp1 gLen (eV 0)) (aVal (eV 1) aNil))) (E5 ts bs bt .un .un) = .ok .nx (E5 ts bs bt .un .un) := by
    refine drop_call (x := c2) ?_
    unfold eCall
    simp [aVal, eV, slotC, Out.bind, stl, Dn.settle, isDic, aNil, eOp1, sole, cont, len_l, lift, ORes.res, callD, refsApart, dataAux, hf, setOuts]
  have lf := loop_find (G := gN 3) (b := lB) (f := fun p : Nat => PyData.int (p : Int)) (fun r => ∃ x3 x4, r = E5 ts bs bt x3 x4) (fun x r2 (v : Nat × List Int) => x = .fz (.tuple [.int v.1, TI v.2]))
    (fun k => (pl ts bs bt k 6 []).map fun r => (k, r)) (List.range (ts.length + 1)) (E5 ts bs bt .un .un) ⟨_, _, rfl⟩ (fun r k hk hP => by
      obtain ⟨x3, x4, rfl⟩ := hP
      refine ⟨E5 ts bs bt (.fz (.int k)) x4, rfl, ?_⟩
      have hk := List.mem_range.mp hk
      have pd := placed_den (bt := bt) (m := k) O (by have := O.l; omega) 6 [] (Nat.zero_le _) (by show _ < 6 + 0; omega)
      have pd' : D_placed 6 [TL ts, BL bs, .int bt, .int k, .tuple []] = .ok (.fz (oD (pl ts bs bt k 6 []))) [] := pd
      have c : eCall [] (D_placed 6) (aVal (eV 0) (aVal (eV 1) (aVal (eV 2) (aVal (eV 3) (aVal (dTup fNil) aNil))))) (E5 ts bs bt (.fz (.int k)) x4) = .ok (.fz (oD (pl ts bs bt k 6 []))) (E5 ts bs bt (.fz (.int k)) x4) := by
        unfold eCall
        simp [aVal, eV, slotC, Out.bind, stl, Dn.settle, isDic, aNil, dTup, fNil, callD, refsApart, dataAux, pd', setOuts]
      have q : lB (E5 ts bs bt (.fz (.int k)) x4) = sIf (eTest (eOp2 (gIsN false) (eV 4) (eC .none))) (sRet (dTup (fCons (eV 3) (fCons (eV 4) fNil)))) dNil (E5 ts bs bt (.fz (.int k)) (.fz (oD (pl ts bs bt k 6 [])))) := by
        unfold lB
        rw [seq_nx (set_fz c)]
        rfl
      rw [q]
      cases pl ts bs bt k 6 [] with
      | none => exact ⟨_, rfl, _, _, rfl⟩
      | some v => exact ⟨_, _, rfl, rfl⟩)
  have fi : sFor (wRng1 (fCons (eOp2 gAdd (eOp1 gLen (eV 0)) (eC (.int 1))) fNil)) (gN 3) lB (E5 ts bs bt .un .un) = loopD (gN 3) lB ((List.range (ts.length + 1)).map fun p : Nat => PyData.int (p : Int)) (E5 ts bs bt .un .un) := by
    refine for_of (wrng1_of (fc1 ?_ rfl) (by have := O.l; omega))
    exact op2_of (o := .val (.int ((ts.length + 1 : Nat) : Int))) (op1_of (o := .val (.int ts.length)) rfl rfl (len_l ts)) rfl rfl rfl (add_n ts.length 1)
  have e' : (List.range (ts.length + 1)).findSome? (fun k => (pl ts bs bt k 6 []).map fun r => (k, r)) = some (m, r) := e
  rw [e'] at lf
  obtain ⟨x, r2, a, rfl⟩ := lf
  unfold D_places defDen
  show Dn.finish [] (b_places D_check_seams D_first_order (D_placed 6) (E5 ts bs bt .un .un)) = _
  rw [b_places_eq, seq_nx s1, seq_nx s2, seq_nx s3, seq_nx s4, seq_rt (fi.trans a)]
  rfl
end
end K13

end
section
namespace K13
open PySem L2 Dn
open PyProof.Rows hiding St
section
variable {ts : List Int} {bs : List (Int × Int)} {bt : Int} {r : List Int} {x4 : Slot}
abbrev E5l (ts : List Int) (bs : List (Int × Int)) (bt : Int) (r : List Int) (x4 : Slot) : Dn.Env := [.fz (TL ts), .fz (BL bs), .fz (.int bt), .fz (TI r), x4]
/-- what stands at the same place, as far as k -/
def su (ts r : List Int) (k : Nat) : Int := (((List.range (k + 1)).filter fun j => decide (r.getD j 0 = r.getD k 0)).map fun j => ts.getD j 0).sum
def ah (bs : List (Int × Int)) (r : List Int) (k : Nat) : Bool := bs.any fun q => decide (q.2 = (k : Int)) && decide (r.getD k 0 < r.getD q.1.toNat 0)
def bad (ts : List Int) (bs : List (Int × Int)) (bt : Int) (r : List Int) (k : Nat) : Bool := decide (bt < su ts r k) || ah bs r k
def lkB : Dn.Env → Out Fl := dSeq (sIf (eTest (eOp2 gGt (eGen agSum [0, 3, 4] (gRng1 (fCons (eOp2 gAdd (eV 4) (eC (.int 1))) fNil)) (fun ρ => xB ((x2 xEq (x2 xIx (fun ρ => ρ[2]?) (fun ρ => ρ[0]?)) (x2 xIx (fun ρ => ρ[2]?) (fun ρ => ρ[3]?))) ρ)) (x2 xIx (fun ρ => ρ[1]?) (fun ρ => ρ[0]?))) (eV 2))) (sRaiseE .paper (eV 4)) dNil)
    (sIf (eTest (eGen agAny [4, 3] (gSeq 2 (eV 1)) xYes (xAnd (x2 xEq (fun ρ => ρ[1]?) (fun ρ => ρ[2]?)) (x2 xGt (x2 xIx (fun ρ => ρ[3]?) (fun ρ => ρ[0]?)) (x2 xIx (fun ρ => ρ[3]?) (fun ρ => ρ[2]?)))))) (sRaiseE .paper (eV 4)) dNil)
theorem look_eq : b_look_places = sFor (wRng1 (fCons (eOp1 gLen (eV 0)) fNil)) (gN 4) lkB := rfl
theorem g_su (O : Ok ts bs) (hr : r.length = ts.length) {k : Nat} (hk : k < ts.length) : eGen agSum [0, 3, 4] (gRng1 (fCons (eOp2 gAdd (eV 4) (eC (.int 1))) fNil)) (fun ρ => xB ((x2 xEq (x2 xIx (fun ρ => ρ[2]?) (fun ρ => ρ[0]?)) (x2 xIx (fun ρ => ρ[2]?) (fun ρ => ρ[3]?))) ρ)) (x2 xIx (fun ρ => ρ[1]?) (fun ρ => ρ[0]?)) (E5l ts bs bt r (.fz (.int k))) = .ok (.fz (.int (su ts r k))) (E5l ts bs bt r (.fz (.int k))) := by
  have O1 := O.l
  refine gen_of (h := fun k : Nat => [PyData.int (k : Int)]) (caps := [TL ts, TI r, .int k]) (p := fun j => decide (r.getD j 0 = r.getD k 0)) (g := fun j => .int (ts.getD j 0)) (List.range (k + 1)) (grng1_of (fc1 (op2_of (o := .val (.int ((k + 1 : Nat) : Int))) rfl rfl rfl rfl (add_n k 1)) rfl) (by omega)) rfl (fun j hj => ?_) ?_
  · have hj := List.mem_range.mp hj
    have e1 := xix_t (xs := r) (i := (j : Int)) (by omega) (by omega) (by omega)
    have e3 := xix_t (xs := r) (i := (k : Int)) (by omega) (by omega) (by omega)
    have e2 := xix_l (xs := ts) (i := (j : Int)) (by omega) (by omega) (by omega)
    rw [Int.toNat_natCast] at e1 e2 e3
    exact ⟨by simp [x2, e1, e3, xeq_i, xB, -List.getD_eq_getElem?_getD], fun _ => by simp [x2, e2, -List.getD_eq_getElem?_getD]⟩
  · refine agSum_map (fun j => ts.getD j 0) _ (fun j hj => ?_) ?_
    · have hj := List.mem_range.mp (List.mem_filter.mp hj).1
      have := ts_at O (j := j) (by omega)
      unfold fitI
      simp only [Bool.and_eq_true, decide_eq_true_eq]; omega
    · have := List.length_filter_le (fun j => decide (r.getD j 0 = r.getD k 0)) (List.range (k + 1))
      rw [List.length_range] at this
      omega
theorem g_ah (O : Ok ts bs) (hr : r.length = ts.length) {k : Nat} (hk : k < ts.length) : eGen agAny [4, 3] (gSeq 2 (eV 1)) xYes (xAnd (x2 xEq (fun ρ => ρ[1]?) (fun ρ => ρ[2]?)) (x2 xGt (x2 xIx (fun ρ => ρ[3]?) (fun ρ => ρ[0]?)) (x2 xIx (fun ρ => ρ[3]?) (fun ρ => ρ[2]?)))) (E5l ts bs bt r (.fz (.int k))) = .ok (.fz (.bool (ah bs r k))) (E5l ts bs bt r (.fz (.int k))) := by
  have O1 := O.l
  refine gen_of (h := fun q : Int × Int => [PyData.int q.1, .int q.2]) (caps := [.int k, TI r]) (p := fun _ => true) (g := fun q => .bool (decide (q.2 = (k : Int)) && decide (r.getD k 0 < r.getD q.1.toNat 0))) bs (gseq_tp2 rfl rfl) rfl (fun q hq => ⟨rfl, fun _ => ?_⟩) (by rw [filter_tt]; exact agAny_map _ _)
  obtain ⟨b1, b2, b3, b4⟩ := O.b q hq
  have e1 := xix_t (xs := r) (i := q.1) b1 (by omega) (by omega)
  have e2 := xix_t (xs := r) (i := (k : Int)) (by omega) (by omega) (by omega)
  rw [Int.toNat_natCast] at e2
  by_cases h : q.2 = (k : Int) <;> simp [xAnd, x2, xeq_i, xgt_i, xB, h, e1, e2, -List.getD_eq_getElem?_getD]
theorem look_den (O : Ok ts bs) (hr : r.length = ts.length) : ((List.range ts.length).any (bad ts bs bt r) = true → D_look_places [TL ts, BL bs, .int bt, TI r] = .exn .paper []) ∧ ((List.range ts.length).any (bad ts bs bt r) = false → D_look_places [TL ts, BL bs, .int bt, TI r] = .ok (.fz .none) []) := by
  have O1 := O.l
  have fi : sFor (wRng1 (fCons (eOp1 gLen (eV 0)) fNil)) (gN 4) lkB (E5l ts bs bt r .un) = loopD (gN 4) lkB ((List.range ts.length).map fun p : Nat => PyData.int (p : Int)) (E5l ts bs bt r .un) :=
    for_of (wrng1_of (fc1 (op1_of (o := .val (.int ts.length)) rfl rfl (len_l ts)) rfl) (by omega))
  have lr := loop_raise (G := gN 4) (b := lkB) (f := fun p : Nat => PyData.int (p : Int)) (fun e => ∃ x4, e = E5l ts bs bt r x4) .paper (bad ts bs bt r) (List.range ts.length) (E5l ts bs bt r .un) ⟨_, rfl⟩ (fun e k hk hP => by
    obtain ⟨x4, rfl⟩ := hP
    have hk := List.mem_range.mp hk
    refine ⟨E5l ts bs bt r (.fz (.int k)), rfl, ?_⟩
    have g1 := g_su (bt := bt) O hr hk
    have g2 := g_ah (bt := bt) O hr hk
    have gg : gGt (.int (su ts r k)) (.int bt) = some (.val (.bool (decide (bt < su ts r k)))) := rfl
    have t1 : eTest (eOp2 gGt (eGen agSum [0, 3, 4] (gRng1 (fCons (eOp2 gAdd (eV 4) (eC (.int 1))) fNil)) (fun ρ => xB ((x2 xEq (x2 xIx (fun ρ => ρ[2]?) (fun ρ => ρ[0]?)) (x2 xIx (fun ρ => ρ[2]?) (fun ρ => ρ[3]?))) ρ)) (x2 xIx (fun ρ => ρ[1]?) (fun ρ => ρ[0]?))) (eV 2)) (E5l ts bs bt r (.fz (.int k))) = .ok (decide (bt < su ts r k)) (E5l ts bs bt r (.fz (.int k))) :=
      test_b (x := .fz (.bool (decide (bt < su ts r k)))) (op2_of (o := .val (.bool (decide (bt < su ts r k)))) g1 rfl rfl rfl gg) rfl
    have t2 := test_b (b := ah bs r k) g2 rfl
    unfold bad
    cases h1 : decide (bt < su ts r k) with
    | true =>
      rw [h1] at t1
      refine ⟨fun _ => ⟨E5l ts bs bt r (.fz (.int k)), ?_, _, rfl⟩, fun z => by cases z⟩
      unfold lkB
      exact seq_exn ((sif_t t1).trans rfl)
    | false =>
      rw [h1] at t1
      have q : lkB (E5l ts bs bt r (.fz (.int k))) = sIf (eTest (eGen agAny [4, 3] (gSeq 2 (eV 1)) xYes (xAnd (x2 xEq (fun ρ => ρ[1]?) (fun ρ => ρ[2]?)) (x2 xGt (x2 xIx (fun ρ => ρ[3]?) (fun ρ => ρ[0]?)) (x2 xIx (fun ρ => ρ[3]?) (fun ρ => ρ[2]?)))))) (sRaiseE .paper (eV 4)) dNil (E5l ts bs bt r (.fz (.int k))) := by
        unfold lkB
        exact seq_nx ((sif_f t1).trans rfl)
      cases h2 : ah bs r k with
      | true =>
        rw [h2] at t2
        exact ⟨fun _ => ⟨_, q.trans ((sif_t t2).trans rfl), _, rfl⟩, fun z => by cases z⟩
      | false =>
        rw [h2] at t2
        exact ⟨fun z => by (cases z), fun _ => ⟨_, q.trans ((sif_f t2).trans rfl), _, rfl⟩⟩)
  unfold D_look_places defDen
  show (_ → Dn.finish [] (b_look_places (E5l ts bs bt r .un)) = _) ∧ (_ → Dn.finish [] (b_look_places (E5l ts bs bt r .un)) = _)
  rw [look_eq, fi]
  refine ⟨fun h => ?_, fun h => ?_⟩
  · obtain ⟨r2, a, x4, rfl⟩ := lr.1 h
    rw [a]; rfl
  · obtain ⟨r2, a, x4, rfl⟩ := lr.2 h
    rw [a]; rfl
/-! ### when it lets a row pass -/
theorem su_eq (hr : r.length = ts.length) {k : Nat} (hk : k < ts.length) : su ts r k = ld ts (r.take k) (r.getD k 0) + ts.getD k 0 := by
  unfold su ld
  rw [List.range_succ, List.filter_append, List.map_append, List.sum_append, List.length_take, Nat.min_eq_left (by omega)]
  congr 1
  · congr 2
    apply List.filter_congr
    intro j hj
    have hj := List.mem_range.mp hj
    rw [List.getD_eq_getElem?_getD (l := List.take _ _), List.getElem?_take_of_lt hj, ← List.getD_eq_getElem?_getD]
  · simp
theorem look_good (hb : ∀ q ∈ bs, q.1 ≠ q.2) (O : Ok ts bs) (hR : r ∈ rws ts bt ts.length ts.length) (hg : gd bs r = true) : (List.range ts.length).any (bad ts bs bt r) = false := by
  obtain ⟨h1, h2, h3⟩ := (mem_R r).mp hR
  rw [List.any_eq_false]
  intro k hk
  have hk := List.mem_range.mp hk
  have l := (ch_iff _ r []).mp h3 k (by omega)
  unfold lok at l
  rw [List.nil_append, List.length_take, Nat.min_eq_left (by omega)] at l
  have l := of_decide_eq_true l
  have e := su_eq h1 hk
  unfold bad
  rw [decide_eq_false (by omega), Bool.false_or]
  unfold ah
  rw [Bool.not_eq_true, List.any_eq_false]
  intro q hq
  have g := List.all_eq_true.mp hg q hq
  have g := of_decide_eq_true g
  obtain ⟨b1, b2, b3, b4⟩ := O.b q hq
  simp only [Bool.and_eq_true, decide_eq_true_eq, not_and]
  intro e2
  rw [e2, Int.toNat_natCast] at g
  omega
theorem look_wrong (O : Ok ts bs) (hg : gd bs r = false) : (List.range ts.length).any (bad ts bs bt r) = true := by
  unfold gd at hg
  rw [List.all_eq_false] at hg
  obtain ⟨q, hq, h⟩ := hg
  obtain ⟨b1, b2, b3, b4⟩ := O.b q hq
  refine List.any_eq_true.mpr ⟨q.2.toNat, List.mem_range.mpr (by omega), ?_⟩
  unfold bad
  rw [Bool.or_eq_true]
  right
  refine List.any_eq_true.mpr ⟨q, hq, ?_⟩
  simp only [decide_eq_true_eq] at h
  simp only [Bool.and_eq_true, decide_eq_true_eq]
  exact ⟨by omega, by omega⟩
theorem sum_range (ts : List Int) : ((List.range ts.length).map fun j => ts.getD j 0).sum = ts.sum := by
  congr 1
  apply List.ext_getElem
  · simp
  · intro i h1 h2
    simp [List.getD_eq_getElem?_getD, List.getElem?_eq_getElem h2]
theorem look_zero {n : Nat} (hn : ts.length = n + 1) (hs : bt < ts.sum) : (List.range ts.length).any (bad ts bs bt (List.replicate ts.length 0)) = true := by
  refine List.any_eq_true.mpr ⟨n, List.mem_range.mpr (by omega), ?_⟩
  unfold bad
  rw [Bool.or_eq_true]
  left
  have : su ts (List.replicate ts.length 0) n = ts.sum := by
    rw [← sum_range ts, hn]
    unfold su
    rw [List.filter_eq_self.mpr]
    intro j hj
    have hj := List.mem_range.mp hj
    simp [List.getElem?_replicate]
    split <;> rfl
  rw [this]
  exact decide_eq_true hs
end
end K13

end
section
namespace K13
open PySem L2 Dn
open PyProof.Rows hiding St
/-! ### the dice -/
theorem roll_den (a b c m : Int) (h0 : 0 < m) (h1 : m < 1000) : ∃ r a' b' c', D__law_roll [.list [.int a, .int b, .int c], .int m] = .ok (.fz (.int r)) [.list [.int a', .int b', .int c']] ∧ 0 ≤ r ∧ r < m := by
  have n0 : m ≠ 0 := by omega
  have cd : CDivN a m := ⟨n0, by omega⟩
  have c7 : ∀ x : Int, CDivN x 7 := fun x => ⟨by decide, by decide⟩
  have m1 : ∀ x : Int, CMul x 48271 := fun x => .inr (by decide)
  have m2 : ∀ x : Int, CMul x 69621 := fun x => .inr (by decide)
  have key : ∀ x : Int, 0 ≤ x.fmod m ∧ x.fmod m < m := fun x => ⟨Int.fmod_nonneg_of_pos x h0, Int.fmod_lt_of_pos x h0⟩
  obtain ⟨z, hz⟩ : ∃ z : Int, z = (a * 48271 + b * 69621 + 11).fmod 2147483647 := ⟨_, rfl⟩
  unfold D__law_roll defDen b__law_roll
  by_cases e2 : c = 2
  · subst e2
    refine ⟨a.fmod m, a.fdiv m, b, 2, ?_, key a⟩
    simp [dSeq, andThen, sIf, thenS, sRet, sSet, put, dNil, eTest, tst, eChain, eOp2, op2, both, sole, lift, cont, slotC, eC, eV, eOp1, dLst, dTup, fCons, fNil, stl, Dn.settle, isDic, boolOf, Out.bind, ORes.res, Dn.gSub, gLt, gLe, gGt, gGe, gAdd, gMod, gMul, gMulI, gFdiv, gPow, gAbs, gInt, ig, oelse, startEnv, startAux, Dn.finish, retv, outsOf, sSetIx, setAt, mutC, atI, ixN, tOrD, tAndD, tNotD, gEq, gNe, reput, gIx, ioAt, eCall, aVal, aRef, aNil, callD, refsApart, isRef, dataAux, setOuts, eSl, pSom, pNon, gSl, Dn.cutD, sDrop, gMax2, gLen, gIsN, isNone, wRng1, wRng2, sFor, gN, sRaise, sTry, eMut, isLst, mutEnd, mAppend, n0, cd]
  · by_cases e1 : c = 1
    · subst e1
      by_cases e0 : 0 < a
      · refine ⟨a.fmod m, a.fdiv m, b, 1, ?_, key a⟩
        simp [dSeq, andThen, sIf, thenS, sRet, sSet, put, dNil, eTest, tst, eChain, eOp2, op2, both, sole, lift, cont, slotC, eC, eV, eOp1, dLst, dTup, fCons, fNil, stl, Dn.settle, isDic, boolOf, Out.bind, ORes.res, Dn.gSub, gLt, gLe, gGt, gGe, gAdd, gMod, gMul, gMulI, gFdiv, gPow, gAbs, gInt, ig, oelse, startEnv, startAux, Dn.finish, retv, outsOf, sSetIx, setAt, mutC, atI, ixN, tOrD, tAndD, tNotD, gEq, gNe, reput, gIx, ioAt, eCall, aVal, aRef, aNil, callD, refsApart, isRef, dataAux, setOuts, eSl, pSom, pNon, gSl, Dn.cutD, sDrop, gMax2, gLen, gIsN, isNone, wRng1, wRng2, sFor, gN, sRaise, sTry, eMut, isLst, mutEnd, mAppend, n0, cd, e0]
      · refine ⟨(z.fdiv 7 + z).fmod m, z, b + 1, 0, ?_, key _⟩
        simp [dSeq, andThen, sIf, thenS, sRet, sSet, put, dNil, eTest, tst, eChain, eOp2, op2, both, sole, lift, cont, slotC, eC, eV, eOp1, dLst, dTup, fCons, fNil, stl, Dn.settle, isDic, boolOf, Out.bind, ORes.res, Dn.gSub, gLt, gLe, gGt, gGe, gAdd, gMod, gMul, gMulI, gFdiv, gPow, gAbs, gInt, ig, oelse, startEnv, startAux, Dn.finish, retv, outsOf, sSetIx, setAt, mutC, atI, ixN, tOrD, tAndD, tNotD, gEq, gNe, reput, gIx, ioAt, eCall, aVal, aRef, aNil, callD, refsApart, isRef, dataAux, setOuts, eSl, pSom, pNon, gSl, Dn.cutD, sDrop, gMax2, gLen, gIsN, isNone, wRng1, wRng2, sFor, gN, sRaise, sTry, eMut, isLst, mutEnd, mAppend, n0, cd, e0, c7, m1, m2, ← hz]
    · refine ⟨(z.fdiv 7 + z).fmod m, z, b + 1, 0, ?_, key _⟩
      simp [dSeq, andThen, sIf, thenS, sRet, sSet, put, dNil, eTest, tst, eChain, eOp2, op2, both, sole, lift, cont, slotC, eC, eV, eOp1, dLst, dTup, fCons, fNil, stl, Dn.settle, isDic, boolOf, Out.bind, ORes.res, Dn.gSub, gLt, gLe, gGt, gGe, gAdd, gMod, gMul, gMulI, gFdiv, gPow, gAbs, gInt, ig, oelse, startEnv, startAux, Dn.finish, retv, outsOf, sSetIx, setAt, mutC, atI, ixN, tOrD, tAndD, tNotD, gEq, gNe, reput, gIx, ioAt, eCall, aVal, aRef, aNil, callD, refsApart, isRef, dataAux, setOuts, eSl, pSom, pNon, gSl, Dn.cutD, sDrop, gMax2, gLen, gIsN, isNone, wRng1, wRng2, sFor, gN, sRaise, sTry, eMut, isLst, mutEnd, mAppend, n0, cd, e1, e2, c7, m1, m2, ← hz]
/-- dice: three ints -/
def Di (d : D) : Prop := ∃ a b c : Int, d = .list [.int a, .int b, .int c]
theorem di_rnd (c : Int) : Di (.list ((diceOf c).map .int)) := by
  unfold diceOf
  split
  · exact ⟨_, _, _, rfl⟩
  · exact ⟨_, _, _, rfl⟩
/-- a roll of the dice at slot i -/
theorem roll_at {r : Dn.Env} {i : Nat} {d : D} {m : Int} {f : Dn.Env → Out Res} (hd : Di d) (h : r[i]? = some (.io d)) (hf : f r = .ok (.fz (.int m)) r) (h0 : 0 < m) (h1 : m < 1000) :
    ∃ v d', eCall [0] D__law_roll (aRef i (aVal f aNil)) r = .ok (.fz (.int v)) (r.set i (.io d')) ∧ 0 ≤ v ∧ v < m ∧ Di d' := by
  obtain ⟨a, b, c, rfl⟩ := hd
  obtain ⟨v, a', b', c', e, h2, h3⟩ := roll_den a b c m h0 h1
  refine ⟨v, _, ?_, h2, h3, ⟨a', b', c', rfl⟩⟩
  simp [eCall, aRef, aVal, aNil, slotC, h, hf, Out.bind, Dn.settle, callD, refsApart, isRef, dataAux, mutC, e, setOuts, reput]
theorem roll_c {r : Dn.Env} {i : Nat} {d : D} {m : Int} (hd : Di d) (h : r[i]? = some (.io d)) (h0 : 0 < m) (h1 : m < 1000) :
    ∃ v d', eCall [0] D__law_roll (aRef i (aVal (eC (.int m)) aNil)) r = .ok (.fz (.int v)) (r.set i (.io d')) ∧ 0 ≤ v ∧ v < m ∧ Di d' := roll_at hd h rfl h0 h1
theorem dSeq_assoc (f g h : Dn.Env → Out Fl) : dSeq (dSeq f g) h = dSeq f (dSeq g h) := by
  funext r
  unfold dSeq andThen
  cases f r with
  | ok fl r1 => cases fl <;> rfl
  | exn e r1 => rfl
  | bad => rfl

/-! ### the law's parts -/
def Pa : Dn.Env → Out Fl := sParN [2, 3, 4] [(eCall [0] D__law_roll (aRef 1 (aVal (eC (.int 5)) aNil))), (dLst fNil), (eOp2 gAdd (eC (.int 4)) (eCall [0] D__law_roll (aRef 1 (aVal (eC (.int 4)) aNil))))]
def PbB : Dn.Env → Out Fl := sSet 3 (eOp2 gAdd (eV 3) (eLc [14] (wRng2 (fCons (eOp2 gAdd (eV 5) (eC (.int 1))) (fCons (eV 2) fNil))) (gN 14) (eTest (eOp2 gEq (eCall [0] D__law_roll (aRef 1 (aVal (eC (.int 3)) aNil))) (eC (.int 0)))) (dTup (fCons (eV 5) (fCons (eV 14) fNil)))))
def Pb : Dn.Env → Out Fl := sFor (wRng1 (fCons (eV 2) fNil)) (gN 5) PbB
def PcB : Dn.Env → Out Fl := sSet 3 (eLc [5, 14] (wSeq (eV 3)) (gT (gsCons (gN 5) (gsCons (gN 14) gsNil))) tYesD (dTup (fCons (eOp2 Dn.gSub (eOp2 Dn.gSub (eV 2) (eC (.int 1))) (eV 5)) (fCons (eOp2 Dn.gSub (eOp2 Dn.gSub (eV 2) (eC (.int 1))) (eV 14)) fNil))))
def Pc : Dn.Env → Out Fl := sIf (eTest (eOp2 gEq (eCall [0] D__law_roll (aRef 1 (aVal (eC (.int 2)) aNil))) (eC (.int 0)))) PcB dNil
def Pd : Dn.Env → Out Fl := sParN [6, 7] [(eLc [8] (wRng1 (fCons (eV 2) fNil)) (gN 8) tYesD (eOp2 gAdd (eC (.int 1)) (eCall [0] D__law_roll (aRef 1 (aVal (eC (.int 4)) aNil))))), (dLst (fCons (dTup fNil) fNil))]
def PeI : Dn.Env → Out Fl := sSet 9 (eOp2 gAdd (eV 9) (eLc [15] (wRng1 (fCons (eV 2) fNil)) (gN 15) (eTest (eOp2 gLe (eOp2 gAdd (eOp1 gSum (eLc [16] (wRng1 (fCons (eV 8) fNil)) (gN 16) (eTest (eOp2 gEq (eOp2 gIx (eV 10) (eV 16)) (eV 15))) (eOp2 gIx (eV 6) (eV 16)))) (eOp2 gIx (eV 6) (eV 8))) (eV 4))) (eOp2 gAdd (eV 10) (dTup (fCons (eV 15) fNil)))))
def PeB : Dn.Env → Out Fl := dSeq (sSet 9 (dLst fNil)) (dSeq (sFor (wSeq (eV 7)) (gN 10) PeI) (sSet 7 (eV 9)))
def Pe : Dn.Env → Out Fl := sFor (wRng1 (fCons (eV 2) fNil)) (gN 8) PeB
def gdT (s : Nat) : Dn.Env → Out Res := eLc [5, 14] (wSeq (eV 3)) (gT (gsCons (gN 5) (gsCons (gN 14) gsNil))) (eTest (eOp2 gGt (eOp2 gIx (eV 10) (eV 5)) (eOp2 gIx (eV 10) (eV 14)))) (eC (.int 1))
def Pf : Dn.Env → Out Fl := sSet 11 (eLc [10] (wSeq (eV 7)) (gN 10) (eTest (eOp2 gEq (gdT 0) (dLst fNil))) (dTup (fCons (eOp2 gAdd (eOp1 (gBest PySem.W.maxD) (eOp2 gAdd (dTup (fCons (eOp2 Dn.gSub (eC (.int 0)) (eC (.int 1))) fNil)) (eV 10))) (eC (.int 1))) (fCons (eV 10) fNil))))
def Pg : Dn.Env → Out Fl := sSet 12 (eCall [] D_places (aVal (eV 6) (aVal (eV 3) (aVal (eV 4) aNil))))
def Ph : Dn.Env → Out Fl := sIf (tOrD (eTest (eOp2 gNe (eV 12) (eOp1 (gBest PySem.W.minD) (eV 11)))) (eTest (eOp2 (gIsN false) (eTold toldF (eCall [] D_look_places (aVal (eV 6) (aVal (eV 3) (aVal (eV 4) (aVal (eOp2 gIx (eV 12) (eC (.int 1))) aNil)))))) (eC .none)))) (sRet (eC (.bool false))) dNil
def PiB : Dn.Env → Out Fl := dSeq (sSet 13 (eLc [10] (wSeq (eV 7)) (gN 10) (eTest (eOp2 gNe (gdT 0) (dLst fNil))) (eV 10)))
    (sIf (tAndD (eTest (eOp2 gNe (eV 13) (dLst fNil))) (eTest (eOp2 gNe (eTold toldF (eCall [] D_look_places (aVal (eV 6) (aVal (eV 3) (aVal (eV 4) (aVal (eOp2 gIx (eV 13) (eCall [0] D__law_roll (aRef 1 (aVal (eOp1 gLen (eV 13)) aNil)))) aNil)))))) (eC (.str "paper"))))) (sRet (eC (.bool false))) dNil)
def Pi : Dn.Env → Out Fl := sIf (eTest (eOp2 gNe (eV 3) (dLst fNil))) PiB dNil
def Pj : Dn.Env → Out Fl := sIf (tAndD (eTest (eOp2 gGt (eV 2) (eC (.int 0)))) (tAndD (eTest (eOp2 gGt (eOp1 gSum (eV 6)) (eV 4))) (eTest (eOp2 gNe (eTold toldF (eCall [] D_look_places (aVal (eV 6) (aVal (eV 3) (aVal (eV 4) (aVal (eOp2 gMul (dTup (fCons (eC (.int 0)) fNil)) (eV 2)) aNil)))))) (eC (.str "paper")))))) (sRet (eC (.bool false))) dNil
def Pk : Dn.Env → Out Fl := sIf (eTest (eOp2 gNe (eTold toldF (eCall [] D_places (aVal (dLst (fCons (eOp2 gAdd (eV 4) (eC (.int 1))) fNil)) (aVal (dLst fNil) (aVal (eV 4) aNil))))) (eC (.str "no fit")))) (sRet (eC (.bool false))) dNil
theorem law_eq : lawB = dSeq Pa (dSeq Pb (dSeq Pc (dSeq Pd (dSeq Pe (dSeq Pf (dSeq Pg (dSeq Ph (dSeq Pi (dSeq Pj Pk))))))))) := rfl
abbrev Z (d : D) (x2 x3 x4 x5 x6 x7 x8 x9 x10 x11 x12 x13 : Slot) : Dn.Env := [.un, .io d, x2, x3, x4, x5, x6, x7, x8, x9, x10, x11, x12, x13, .un, .un, .un]
section
variable {d : D} {n : Nat} {bs : List (Int × Int)} {x2 x3 x4 x5 x6 x7 x8 x9 x10 x11 x12 x13 : Slot}
theorem stA (hd : Di d) : ∃ (n : Nat) (bt : Int) (d' : D), Pa (Z d x2 x3 x4 x5 x6 x7 x8 x9 x10 x11 x12 x13) = .ok .nx (Z d' (.fz (.int n)) (.ow (BL [])) (.fz (.int bt)) x5 x6 x7 x8 x9 x10 x11 x12 x13) ∧ Di d' ∧ n ≤ 4 ∧ 4 ≤ bt ∧ bt ≤ 7 := by
  obtain ⟨v1, d1, e1, a1, a2, D1⟩ := roll_c (r := Z d x2 x3 x4 x5 x6 x7 x8 x9 x10 x11 x12 x13) (i := 1) (m := 5) hd rfl (by decide) (by decide)
  obtain ⟨v2, d2, e2, b1, b2, D2⟩ := roll_c (r := Z d1 x2 x3 x4 x5 x6 x7 x8 x9 x10 x11 x12 x13) (i := 1) (m := 4) D1 rfl (by decide) (by decide)
  obtain ⟨n, rfl⟩ : ∃ n : Nat, v1 = n := ⟨v1.toNat, by omega⟩
  have e1' : eCall [0] D__law_roll (aRef 1 (aVal (eC (.int 5)) aNil)) (Z d x2 x3 x4 x5 x6 x7 x8 x9 x10 x11 x12 x13) = .ok (.fz (.int n)) (Z d1 x2 x3 x4 x5 x6 x7 x8 x9 x10 x11 x12 x13) := e1
  have e2' : eCall [0] D__law_roll (aRef 1 (aVal (eC (.int 4)) aNil)) (Z d1 x2 x3 x4 x5 x6 x7 x8 x9 x10 x11 x12 x13) = .ok (.fz (.int v2)) (Z d2 x2 x3 x4 x5 x6 x7 x8 x9 x10 x11 x12 x13) := e2
  refine ⟨n, 4 + v2, d2, ?_, D2, by omega, by omega, by omega⟩
  exact parN_of (hL_fz e1' (hL_ow rfl (hL_fz (op2_of (o := .val (.int (4 + v2))) rfl e2' rfl rfl (add_i 4 v2)) rfl))) rfl
def prs (n : Nat) (a : Nat) : List (Int × Int) := (List.range (n - (a + 1))).map fun k => ((a : Int), ((a + 1 + k : Nat) : Int))
theorem wrng2_of {f : Dn.Env → Out (List D)} {r : Dn.Env} {a b : Nat} (h : f r = .ok [.int (a : Int), .int (b : Int)] r) (ha : a ≤ 1000) (hb : b ≤ 1000) : wRng2 f r = .ok ((List.range (b - a)).map fun k : Nat => PyData.int ((a + k : Nat) : Int)) r := by
  unfold wRng2
  rw [h]
  have s1 : smallI (a : Int) = true := by simp [smallI]; omega
  have s2 : smallI (b : Int) = true := by simp [smallI]; omega
  have tn : ((b : Int) - (a : Int)).toNat = b - a := by omega
  simp only [Out.bind, s1, s2, and_self, if_true, rngL_eq, tn, Int.natCast_add]
theorem stB1 (hd : Di d) (hn : n ≤ 4) {a : Nat} (ha : a < n) (hbs : bs.length ≤ 1000) : ∃ (sub : List (Int × Int)) (d' : D), sub.Sublist (prs n a) ∧ Di d' ∧ PbB (Z d (.fz (.int n)) (.ow (BL bs)) x4 (.fz (.int a)) x6 x7 x8 x9 x10 x11 x12 x13) = .ok .nx (Z d' (.fz (.int n)) (.ow (BL (bs ++ sub))) x4 (.fz (.int a)) x6 x7 x8 x9 x10 x11 x12 x13) := by
  have hi : wRng2 (fCons (eOp2 gAdd (eV 5) (eC (.int 1))) (fCons (eV 2) fNil)) (Z d (.fz (.int n)) (.ow (BL bs)) x4 (.fz (.int a)) x6 x7 x8 x9 x10 x11 x12 x13) = .ok ((List.range (n - (a + 1))).map fun k : Nat => PyData.int ((a + 1 + k : Nat) : Int)) (Z d (.fz (.int n)) (.ow (BL bs)) x4 (.fz (.int a)) x6 x7 x8 x9 x10 x11 x12 x13) := by
    refine wrng2_of (a := a + 1) (b := n) ?_ (by omega) (by omega)
    have e : eOp2 gAdd (eV 5) (eC (.int 1)) (Z d (.fz (.int n)) (.ow (BL bs)) x4 (.fz (.int a)) x6 x7 x8 x9 x10 x11 x12 x13) = .ok (.fz (.int ((a + 1 : Nat) : Int))) (Z d (.fz (.int n)) (.ow (BL bs)) x4 (.fz (.int a)) x6 x7 x8 x9 x10 x11 x12 x13) := op2_of (o := .val (.int ((a + 1 : Nat) : Int))) rfl rfl rfl rfl (add_n a 1)
    unfold fCons
    rw [e]
    rfl
  obtain ⟨sub, r', h1, h2, d', D', rfl⟩ := lc_any (vs := [14]) (G := gN 14) (ft := eTest (eOp2 gEq (eCall [0] D__law_roll (aRef 1 (aVal (eC (.int 3)) aNil))) (eC (.int 0)))) (fe := dTup (fCons (eV 5) (fCons (eV 14) fNil))) (g := fun k : Nat => TP2 ((a : Int), ((a + 1 + k : Nat) : Int)))
    (P := fun e => ∃ d', Di d' ∧ e = Z d' (.fz (.int n)) (.ow (BL bs)) x4 (.fz (.int a)) x6 x7 x8 x9 x10 x11 x12 x13) (List.range (n - (a + 1))) hi rfl ⟨d, hd, rfl⟩ (by rw [List.length_range]; omega) (fun k hk e ⟨d0, D0, he⟩ => by
      subst he
      obtain ⟨v, d1, e1, a1, a2, D1⟩ := roll_c (r := [.un, .io d0, (.fz (.int n)), (.ow (BL bs)), x4, (.fz (.int a)), x6, x7, x8, x9, x10, x11, x12, x13, .fz (.int ((a + 1 + k : Nat) : Int)), .un, .un]) (i := 1) (m := 3) D0 rfl (by decide) (by decide)
      refine ⟨[.un, .io d0, (.fz (.int n)), (.ow (BL bs)), x4, (.fz (.int a)), x6, x7, x8, x9, x10, x11, x12, x13, .fz (.int ((a + 1 + k : Nat) : Int)), .un, .un], [.un, .io d1, (.fz (.int n)), (.ow (BL bs)), x4, (.fz (.int a)), x6, x7, x8, x9, x10, x11, x12, x13, .fz (.int ((a + 1 + k : Nat) : Int)), .un, .un], decide (v = 0), rfl, ?_, fun _ => ⟨d1, D1, rfl⟩, fun _ => ⟨_, _, _, rfl, rfl, d1, D1, rfl⟩⟩
      exact test_b (x := .fz (.bool (decide (v = 0)))) (op2_of (o := .val (.bool (decide (v = 0)))) e1 rfl rfl rfl (eq_i v 0)) rfl)
  refine ⟨sub.map fun k => ((a : Int), ((a + 1 + k : Nat) : Int)), d', h1.map _, D', ?_⟩
  unfold PbB
  have e := addL_of (fe := eV 3) (x := .bw 3) (xs := bs.map TP2) (ys := sub.map fun k : Nat => TP2 ((a : Int), ((a + 1 + k : Nat) : Int))) (r := Z d (.fz (.int n)) (.ow (BL bs)) x4 (.fz (.int a)) x6 x7 x8 x9 x10 x11 x12 x13) rfl h2 rfl rfl (by
    have := h1.length_le
    rw [List.length_range] at this
    simp only [List.length_map]; omega)
  have em : (bs ++ sub.map fun k => ((a : Int), ((a + 1 + k : Nat) : Int))).map TP2 = bs.map TP2 ++ sub.map fun k : Nat => TP2 ((a : Int), ((a + 1 + k : Nat) : Int)) := by rw [List.map_append, List.map_map]; rfl
  rw [set_ow e, ← em]
  rfl
theorem stB (hd : Di d) (hn : n ≤ 4) (h5 : freeS x5 = true) : ∃ (bs : List (Int × Int)) (d' : D) (x5' : Slot), bs.Sublist ((List.range n).flatMap (prs n)) ∧ Di d' ∧ freeS x5' = true ∧ Pb (Z d (.fz (.int n)) (.ow (BL [])) x4 x5 x6 x7 x8 x9 x10 x11 x12 x13) = .ok .nx (Z d' (.fz (.int n)) (.ow (BL bs)) x4 x5' x6 x7 x8 x9 x10 x11 x12 x13) := by
  obtain ⟨r2, h1, bs, d', x5', h2, h3, h4, rfl⟩ := loop_pre (G := gN 5) (b := PbB) (f := fun a : Nat => PyData.int (a : Int)) (fun l r => ∃ (bs : List (Int × Int)) (d' : D) (x5' : Slot), bs.Sublist (l.flatMap (prs n)) ∧ Di d' ∧ freeS x5' = true ∧ r = Z d' (.fz (.int n)) (.ow (BL bs)) x4 x5' x6 x7 x8 x9 x10 x11 x12 x13)
    (List.range n) (List.range n) [] (Z d (.fz (.int n)) (.ow (BL [])) x4 x5 x6 x7 x8 x9 x10 x11 x12 x13) rfl ⟨[], d, x5, List.Sublist.refl _, hd, h5, rfl⟩ (fun l a r ha hP => by
      obtain ⟨bs, d', x5', h2, h3, h4, rfl⟩ := hP
      obtain ⟨hl0, ha2⟩ := pre_range ha
      subst hl0
      have hl : (((List.range a).flatMap (prs n)).length ≤ 1000) := by
        rw [List.length_flatMap]
        have hc : a = 0 ∨ a = 1 ∨ a = 2 ∨ a = 3 := by omega
        unfold prs
        rcases hc with rfl | rfl | rfl | rfl <;> simp [List.range_succ] <;> omega
      obtain ⟨sub, d2, k1, k2, k3⟩ := stB1 (x4 := x4) (x6 := x6) (x7 := x7) (x8 := x8) (x9 := x9) (x10 := x10) (x11 := x11) (x12 := x12) (x13 := x13) h3 hn ha2 (Nat.le_trans h2.length_le hl)
      refine ⟨_, _, rfl, k3, bs ++ sub, d2, _, ?_, k2, rfl, rfl⟩
      rw [List.flatMap_append, List.flatMap_singleton]
      exact h2.append k1)
  refine ⟨bs, d', x5', h2, h3, h4, ?_⟩
  unfold Pb
  rw [for_of (wrng1_of (fc1b (i := 2) rfl) (by omega))]
  exact h1
/-- turned round, or not -/
def tn (n : Nat) (q : Int × Int) : Int × Int := ((n : Int) - 1 - q.1, (n : Int) - 1 - q.2)
theorem test_roll {m : Int} (hd : Di d) (h0 : 0 < m) (h1 : m < 1000) {r : Dn.Env} (hr : r[1]? = some (.io d)) : ∃ (b : Bool) (d' : D), eTest (eOp2 gEq (eCall [0] D__law_roll (aRef 1 (aVal (eC (.int m)) aNil))) (eC (.int 0))) r = .ok b (r.set 1 (.io d')) ∧ Di d' := by
  obtain ⟨v, d1, e1, a1, a2, D1⟩ := roll_c (r := r) (i := 1) (m := m) hd hr h0 h1
  exact ⟨decide (v = 0), d1, test_b (x := .fz (.bool (decide (v = 0)))) (op2_of (o := .val (.bool (decide (v = 0)))) e1 rfl rfl rfl (eq_i v 0)) rfl, D1⟩
theorem stC (hd : Di d) (h5 : freeS x5 = true) (hbs : bs.length ≤ 1000) : ∃ (bs' : List (Int × Int)) (d' : D), (bs' = bs ∨ bs' = bs.map (tn n)) ∧ Di d' ∧ Pc (Z d (.fz (.int n)) (.ow (BL bs)) x4 x5 x6 x7 x8 x9 x10 x11 x12 x13) = .ok .nx (Z d' (.fz (.int n)) (.ow (BL bs')) x4 x5 x6 x7 x8 x9 x10 x11 x12 x13) := by
  obtain ⟨b, d', e, D'⟩ := test_roll (m := 2) hd (by decide) (by decide) (r := Z d (.fz (.int n)) (.ow (BL bs)) x4 x5 x6 x7 x8 x9 x10 x11 x12 x13) rfl
  unfold Pc
  cases b with
  | false => exact ⟨bs, d', .inl rfl, D', (sif_f e).trans rfl⟩
  | true =>
    refine ⟨bs.map (tn n), d', .inr rfl, D', ?_⟩
    rw [sif_t e]
    show PcB (Z d' (.fz (.int n)) (.ow (BL bs)) x4 x5 x6 x7 x8 x9 x10 x11 x12 x13) = _
    have hc : clearB [5, 14] (Z d' (.fz (.int n)) (.fz (BL bs)) x4 x5 x6 x7 x8 x9 x10 x11 x12 x13) = true := by
      show (freeS x5 && (true && true)) = true
      rw [h5]; rfl
    obtain ⟨r', h1, rfl⟩ := lc_rel (vs := [5, 14]) (fi := wSeq (eV 3)) (G := gT (gsCons (gN 5) (gsCons (gN 14) gsNil))) (ft := tYesD) (f := TP2) (p := fun _ => true) (g := fun q => TP2 (tn n q)) (fe := dTup (fCons (eOp2 Dn.gSub (eOp2 Dn.gSub (eV 2) (eC (.int 1))) (eV 5)) (fCons (eOp2 Dn.gSub (eOp2 Dn.gSub (eV 2) (eC (.int 1))) (eV 14)) fNil)))
      (r := Z d' (.fz (.int n)) (.ow (BL bs)) x4 x5 x6 x7 x8 x9 x10 x11 x12 x13) (r0 := Z d' (.fz (.int n)) (.fz (BL bs)) x4 x5 x6 x7 x8 x9 x10 x11 x12 x13) (P := fun e => e = Z d' (.fz (.int n)) (.fz (BL bs)) x4 .un x6 x7 x8 x9 x10 x11 x12 x13) bs rfl hc rfl (by omega) (fun q hq e he => by
        subst he
        exact ⟨[.un, .io d', .fz (.int n), .fz (BL bs), x4, .fz (.int q.1), x6, x7, x8, x9, x10, x11, x12, x13, .fz (.int q.2), .un, .un], _, rfl, rfl, fun _ => rfl, fun _ => ⟨.fz (TP2 (tn n q)), _, _, rfl, rfl, rfl⟩⟩)
    unfold PcB
    rw [set_ow h1, filter_tt]
    rw [show bs.map (fun q => TP2 (tn n q)) = (bs.map (tn n)).map TP2 by rw [List.map_map]; rfl]
    rfl
theorem stD (hd : Di d) (hn : n ≤ 4) : ∃ (ts : List Int) (d' : D), ts.length = n ∧ (∀ t ∈ ts, 1 ≤ t ∧ t ≤ 4) ∧ Di d' ∧ Pd (Z d (.fz (.int n)) x3 x4 x5 x6 x7 .un x9 x10 x11 x12 x13) = .ok .nx (Z d' (.fz (.int n)) x3 x4 x5 (.ow (TL ts)) (.ow (.list [TI []])) .un x9 x10 x11 x12 x13) := by
  obtain ⟨out, r', k1, k2, k3, d', D', rfl⟩ := lc_val (vs := [8]) (fi := wRng1 (fCons (eV 2) fNil)) (G := gN 8) (f := fun k : Nat => PyData.int (k : Int)) (gv := PyData.int) (Q := fun t : Int => 1 ≤ t ∧ t ≤ 4) (fe := eOp2 gAdd (eC (.int 1)) (eCall [0] D__law_roll (aRef 1 (aVal (eC (.int 4)) aNil))))
    (r := Z d (.fz (.int n)) x3 x4 x5 x6 x7 .un x9 x10 x11 x12 x13) (P := fun e => ∃ d', Di d' ∧ e = Z d' (.fz (.int n)) x3 x4 x5 x6 x7 .un x9 x10 x11 x12 x13) (List.range n) (wrng1_of (fc1b (i := 2) rfl) (by omega)) rfl ⟨d, hd, rfl⟩ (by rw [List.length_range]; omega) (fun k hk e ⟨d0, D0, he⟩ => by
      subst he
      obtain ⟨v, d1, e1, a1, a2, D1⟩ := roll_c (r := Z d0 (.fz (.int n)) x3 x4 x5 x6 x7 (.fz (.int k)) x9 x10 x11 x12 x13) (i := 1) (m := 4) D0 rfl (by decide) (by decide)
      have e1' : eCall [0] D__law_roll (aRef 1 (aVal (eC (.int 4)) aNil)) (Z d0 (.fz (.int n)) x3 x4 x5 x6 x7 (.fz (.int k)) x9 x10 x11 x12 x13) = .ok (.fz (.int v)) (Z d1 (.fz (.int n)) x3 x4 x5 x6 x7 (.fz (.int k)) x9 x10 x11 x12 x13) := e1
      exact ⟨Z d0 (.fz (.int n)) x3 x4 x5 x6 x7 (.fz (.int k)) x9 x10 x11 x12 x13, 1 + v, .fz (.int (1 + v)), Z d1 (.fz (.int n)) x3 x4 x5 x6 x7 (.fz (.int k)) x9 x10 x11 x12 x13, Z d1 (.fz (.int n)) x3 x4 x5 x6 x7 (.fz (.int k)) x9 x10 x11 x12 x13, rfl, op2_of (o := .val (.int (1 + v))) rfl e1' rfl rfl (add_i 1 v), rfl, ⟨by omega, by omega⟩, d1, D1, rfl⟩)
  rw [List.length_range] at k1
  refine ⟨out, d', k1, k2, D', ?_⟩
  exact parN_of (hL_ow k3 (hL_ow rfl rfl)) rfl
end
end K13

end
section
namespace K13
open PySem L2 Dn
open PyProof.Rows hiding St
abbrev RL (rs : List (List Int)) : D := .list (rs.map TI)
abbrev Z15 (d : D) (x2 x3 x4 x5 x6 x7 x8 x9 x10 x11 x12 x13 x15 x16 : Slot) : Dn.Env := [.un, .io d, x2, x3, x4, x5, x6, x7, x8, x9, x10, x11, x12, x13, .un, x15, x16]
section
variable {d : D} {n : Nat} {ts row : List Int} {bt : Int} {bs : List (Int × Int)} {x2 x3 x4 x5 x6 x7 x8 x9 x10 x11 x12 x13 : Slot}
def inn : Dn.Env → Out Res := eLc [16] (wRng1 (fCons (eV 8) fNil)) (gN 16) (eTest (eOp2 gEq (eOp2 gIx (eV 10) (eV 16)) (eV 15))) (eOp2 gIx (eV 6) (eV 16))
theorem inn_den (hr : row.length ≤ ts.length) (hl : ts.length ≤ 9) (p : Int) : inn (Z15 d x2 x3 x4 x5 (.ow (TL ts)) x7 (.fz (.int row.length)) x9 (.fz (TI row)) x11 x12 x13 (.fz (.int p)) .un) = .ok (.ow (.list ((((List.range row.length).filter fun j => decide (row.getD j 0 = p)).map fun j => ts.getD j 0).map .int))) (Z15 d x2 x3 x4 x5 (.ow (TL ts)) x7 (.fz (.int row.length)) x9 (.fz (TI row)) x11 x12 x13 (.fz (.int p)) .un) := by
  obtain ⟨r', h1, rfl⟩ := lc_rel (vs := [16]) (fi := wRng1 (fCons (eV 8) fNil)) (G := gN 16) (ft := eTest (eOp2 gEq (eOp2 gIx (eV 10) (eV 16)) (eV 15))) (fe := eOp2 gIx (eV 6) (eV 16)) (f := fun j : Nat => PyData.int (j : Int)) (p := fun j => decide (row.getD j 0 = p)) (g := fun j => PyData.int (ts.getD j 0))
    (r := Z15 d x2 x3 x4 x5 (.ow (TL ts)) x7 (.fz (.int row.length)) x9 (.fz (TI row)) x11 x12 x13 (.fz (.int p)) .un) (P := fun e => e = Z15 d x2 x3 x4 x5 (.ow (TL ts)) x7 (.fz (.int row.length)) x9 (.fz (TI row)) x11 x12 x13 (.fz (.int p)) .un) (List.range row.length) (wrng1_of (fc1b (i := 8) rfl) (by omega)) rfl rfl (by rw [List.length_range]; omega) (fun j hj e he => by
      subst he
      have hj := List.mem_range.mp hj
      have e1 := gix_t (xs := row) (i := (j : Int)) (by omega) (by omega)
      have e2 := gix_l (xs := ts) (i := (j : Int)) (by omega) (by omega)
      rw [Int.toNat_natCast] at e1 e2
      refine ⟨Z15 d x2 x3 x4 x5 (.ow (TL ts)) x7 (.fz (.int row.length)) x9 (.fz (TI row)) x11 x12 x13 (.fz (.int p)) (.fz (.int j)), Z15 d x2 x3 x4 x5 (.ow (TL ts)) x7 (.fz (.int row.length)) x9 (.fz (TI row)) x11 x12 x13 (.fz (.int p)) (.fz (.int j)), rfl, ?_, fun _ => rfl, fun _ => ⟨.fz (.int (ts.getD j 0)), _, _, op2_of (o := .val (.int (ts.getD j 0))) (x := .bw 6) (y := .bw 16) rfl rfl rfl rfl e2, rfl, rfl⟩⟩
      exact test_b (x := .fz (.bool (decide (row.getD j 0 = p)))) (op2_of (o := .val (.bool (decide (row.getD j 0 = p)))) (y := .bw 15) (op2_of (o := .val (.int (row.getD j 0))) (x := .bw 10) (y := .bw 16) rfl rfl rfl rfl e1) rfl rfl rfl (eq_i _ p)) rfl)
  unfold inn
  rw [h1, List.map_map]
  rfl
theorem nxt_den (hr : row.length < ts.length) (hl : ts.length ≤ 9) (hn : n ≤ 100) : eLc [15] (wRng1 (fCons (eV 2) fNil)) (gN 15) (eTest (eOp2 gLe (eOp2 gAdd (eOp1 gSum inn) (eOp2 gIx (eV 6) (eV 8))) (eV 4))) (eOp2 gAdd (eV 10) (dTup (fCons (eV 15) fNil))) (Z d (.fz (.int n)) x3 (.fz (.int bt)) x5 (.ow (TL ts)) x7 (.fz (.int row.length)) x9 (.fz (TI row)) x11 x12 x13) = .ok (.ow (RL (nxt ts bt n row))) (Z d (.fz (.int n)) x3 (.fz (.int bt)) x5 (.ow (TL ts)) x7 (.fz (.int row.length)) x9 (.fz (TI row)) x11 x12 x13) := by
  have e3 := gix_l (xs := ts) (i := (row.length : Int)) (by omega) (by omega)
  rw [Int.toNat_natCast] at e3
  obtain ⟨r', h1, rfl⟩ := lc_rel (vs := [15]) (fi := wRng1 (fCons (eV 2) fNil)) (G := gN 15) (ft := eTest (eOp2 gLe (eOp2 gAdd (eOp1 gSum inn) (eOp2 gIx (eV 6) (eV 8))) (eV 4))) (fe := eOp2 gAdd (eV 10) (dTup (fCons (eV 15) fNil))) (f := fun j : Nat => PyData.int (j : Int)) (p := fun j : Nat => lok ts bt row (j : Int)) (g := fun j : Nat => TI (row ++ [(j : Int)]))
    (r := Z d (.fz (.int n)) x3 (.fz (.int bt)) x5 (.ow (TL ts)) x7 (.fz (.int row.length)) x9 (.fz (TI row)) x11 x12 x13) (P := fun e => e = Z d (.fz (.int n)) x3 (.fz (.int bt)) x5 (.ow (TL ts)) x7 (.fz (.int row.length)) x9 (.fz (TI row)) x11 x12 x13) (List.range n) (wrng1_of (fc1b (i := 2) rfl) (by omega)) rfl rfl (by rw [List.length_range]; omega) (fun j hj e he => by
      subst he
      have i1 := inn_den (d := d) (x2 := .fz (.int n)) (x3 := x3) (x4 := .fz (.int bt)) (x5 := x5) (x7 := x7) (x9 := x9) (x11 := x11) (x12 := x12) (x13 := x13) (Nat.le_of_lt hr) hl (j : Int)
      refine ⟨Z15 d (.fz (.int n)) x3 (.fz (.int bt)) x5 (.ow (TL ts)) x7 (.fz (.int row.length)) x9 (.fz (TI row)) x11 x12 x13 (.fz (.int j)) .un, Z15 d (.fz (.int n)) x3 (.fz (.int bt)) x5 (.ow (TL ts)) x7 (.fz (.int row.length)) x9 (.fz (TI row)) x11 x12 x13 (.fz (.int j)) .un, rfl, ?_, fun _ => rfl, fun _ => ⟨.fz (.tuple (row.map .int ++ [.int (j : Int)])), _, _, addT_of (x := .bw 10) (y := .fz (.tuple [.int (j : Int)])) rfl rfl rfl rfl (by rw [List.length_map]; show row.length + 1 ≤ _; omega), by rw [show TI (row ++ [(j : Int)]) = .tuple (row.map .int ++ [.int (j : Int)]) by rw [Dn.TI, List.map_append]; rfl]; rfl, rfl⟩⟩
      exact test_b (x := .fz (.bool (decide (ld ts row j + ts.getD row.length 0 ≤ bt)))) (op2_of (o := .val (.bool (decide (ld ts row j + ts.getD row.length 0 ≤ bt)))) (y := .bw 4) (op2_of (o := .val (.int (ld ts row j + ts.getD row.length 0))) (op1_of (o := .val (.int (ld ts row j))) i1 rfl (sum_l _)) (op2_of (o := .val (.int (ts.getD row.length 0))) (x := .bw 6) (y := .bw 8) rfl rfl rfl rfl e3) rfl rfl (add_i _ _)) rfl rfl rfl rfl) rfl)
  rw [h1]
  unfold nxt RL
  rw [List.map_map]
  rfl
theorem stE2 {acc : List (List Int)} (hr : row.length < ts.length) (hl : ts.length ≤ 9) (hn : n ≤ 100) (ha : acc.length + (nxt ts bt n row).length ≤ 100000) : PeI (Z d (.fz (.int n)) x3 (.fz (.int bt)) x5 (.ow (TL ts)) x7 (.fz (.int row.length)) (.ow (RL acc)) (.fz (TI row)) x11 x12 x13) = .ok .nx (Z d (.fz (.int n)) x3 (.fz (.int bt)) x5 (.ow (TL ts)) x7 (.fz (.int row.length)) (.ow (RL (acc ++ nxt ts bt n row))) (.fz (TI row)) x11 x12 x13) := by
  have e := addL_of (fe := eV 9) (x := .bw 9) (xs := acc.map TI) (ys := (nxt ts bt n row).map TI) (r := Z d (.fz (.int n)) x3 (.fz (.int bt)) x5 (.ow (TL ts)) x7 (.fz (.int row.length)) (.ow (RL acc)) (.fz (TI row)) x11 x12 x13) rfl (nxt_den (d := d) (x3 := x3) (x5 := x5) (x7 := x7) (x9 := .ow (RL acc)) (x11 := x11) (x12 := x12) (x13 := x13) (bt := bt) hr hl hn) rfl rfl (by simpa using ha)
  unfold PeI
  refine (set_ow e).trans ?_
  rw [← List.map_append]
  rfl
theorem rws_len (hn : n ≤ 4) : ∀ k, (rws ts bt n k).length ≤ 4 ^ k
  | 0 => Nat.le_refl _
  | k + 1 => by
    unfold rws
    rw [List.length_flatMap]
    have ih := rws_len hn k
    have : ∀ l : List (List Int), (l.map fun a => (nxt ts bt n a).length).sum ≤ l.length * 4 := by
      intro l
      induction l with
      | nil => simp
      | cons a l ih =>
        rw [List.map_cons, List.sum_cons, List.length_cons]
        have : (nxt ts bt n a).length ≤ 4 := by
          unfold nxt
          rw [List.length_map]
          have := List.length_filter_le (fun p : Nat => lok ts bt a (p : Int)) (List.range n)
          rw [List.length_range] at this
          omega
        omega
    have := this (rws ts bt n k)
    rw [Nat.pow_succ]
    omega
theorem stE1 {k : Nat} (hk : k < ts.length) (hl : ts.length ≤ 4) (hn : n = ts.length) (h7 : x7 = .ow (RL (rws ts bt n k)) ∨ x7 = .fz (RL (rws ts bt n k))) : ∃ x9' x10', (freeS x10 = true → freeS x10' = true) ∧ PeB (Z d (.fz (.int n)) x3 (.fz (.int bt)) x5 (.ow (TL ts)) x7 (.fz (.int k)) x9 x10 x11 x12 x13) = .ok .nx (Z d (.fz (.int n)) x3 (.fz (.int bt)) x5 (.ow (TL ts)) (.fz (RL (rws ts bt n (k + 1)))) (.fz (.int k)) x9' x10' x11 x12 x13) := by
  have hi : wSeq (eV 7) (Z d (.fz (.int n)) x3 (.fz (.int bt)) x5 (.ow (TL ts)) x7 (.fz (.int k)) (.ow (RL [])) x10 x11 x12 x13) = .ok ((rws ts bt n k).map TI) (Z d (.fz (.int n)) x3 (.fz (.int bt)) x5 (.ow (TL ts)) (.fz (RL (rws ts bt n k))) (.fz (.int k)) (.ow (RL [])) x10 x11 x12 x13) := by
    rcases h7 with rfl | rfl <;> rfl
  have len1 := rws_len (ts := ts) (bt := bt) (n := n) (by omega) (k + 1)
  have p4 : (4 : Nat) ^ (k + 1) ≤ 4 ^ 4 := Nat.pow_le_pow_right (by decide) (by omega)
  obtain ⟨r2, h1, x10', h2, rfl⟩ := loop_pre (G := gN 10) (b := PeI) (f := TI) (fun l r => ∃ x10', (freeS x10 = true → freeS x10' = true) ∧ r = Z d (.fz (.int n)) x3 (.fz (.int bt)) x5 (.ow (TL ts)) (.fz (RL (rws ts bt n k))) (.fz (.int k)) (.ow (RL (l.flatMap (nxt ts bt n)))) x10' x11 x12 x13) (rws ts bt n k) (rws ts bt n k) []
    (Z d (.fz (.int n)) x3 (.fz (.int bt)) x5 (.ow (TL ts)) (.fz (RL (rws ts bt n k))) (.fz (.int k)) (.ow (RL [])) x10 x11 x12 x13) rfl ⟨x10, fun h => h, rfl⟩ (fun l row r hp hP => by
      obtain ⟨x10', h2, rfl⟩ := hP
      obtain ⟨t, et⟩ := hp
      have hm : row ∈ rws ts bt n k := by rw [← et]; simp
      have hrl := ((mem_rws (ts := ts) (bt := bt) (n := n) k row).mp hm).1
      have hb : (l.flatMap (nxt ts bt n)).length + (nxt ts bt n row).length ≤ 100000 := by
        have e : rws ts bt n (k + 1) = (l.flatMap (nxt ts bt n) ++ nxt ts bt n row) ++ t.flatMap (nxt ts bt n) := by
          show (rws ts bt n k).flatMap (nxt ts bt n) = _
          rw [← et, List.flatMap_append, List.flatMap_append, List.flatMap_singleton]
        have := congrArg List.length e
        rw [List.length_append, List.length_append] at this
        omega
      refine ⟨Z d (.fz (.int n)) x3 (.fz (.int bt)) x5 (.ow (TL ts)) (.fz (RL (rws ts bt n k))) (.fz (.int k)) (.ow (RL (l.flatMap (nxt ts bt n)))) (.fz (TI row)) x11 x12 x13, _, rfl, ?_, .fz (TI row), fun _ => rfl, rfl⟩
      rw [List.flatMap_append, List.flatMap_singleton]
      have := stE2 (d := d) (x3 := x3) (x5 := x5) (x7 := .fz (RL (rws ts bt n k))) (x11 := x11) (x12 := x12) (x13 := x13) (row := row) (bt := bt) (n := n) (ts := ts) (by omega) (by omega) (by omega) hb
      rw [hrl] at this
      exact this)
  refine ⟨.fz (RL ((rws ts bt n k).flatMap (nxt ts bt n))), x10', h2, ?_⟩
  unfold PeB
  have s1 : sSet 9 (dLst fNil) (Z d (.fz (.int n)) x3 (.fz (.int bt)) x5 (.ow (TL ts)) x7 (.fz (.int k)) x9 x10 x11 x12 x13) = .ok .nx (Z d (.fz (.int n)) x3 (.fz (.int bt)) x5 (.ow (TL ts)) x7 (.fz (.int k)) (.ow (RL [])) x10 x11 x12 x13) := rfl
  rw [seq_nx s1, seq_nx ((for_of hi).trans h1)]
  rfl
theorem stE (hl : ts.length ≤ 4) (hn : n = ts.length) (h8 : freeS x8 = true) (h10 : freeS x10 = true) : ∃ x7' x8' x9' x10', freeS x8' = true ∧ freeS x10' = true ∧ (x7' = .ow (RL (rws ts bt n n)) ∨ x7' = .fz (RL (rws ts bt n n))) ∧ Pe (Z d (.fz (.int n)) x3 (.fz (.int bt)) x5 (.ow (TL ts)) (.ow (RL [[]])) x8 x9 x10 x11 x12 x13) = .ok .nx (Z d (.fz (.int n)) x3 (.fz (.int bt)) x5 (.ow (TL ts)) x7' x8' x9' x10' x11 x12 x13) := by
  obtain ⟨r2, h1, x7', x8', x9', x10', k1, k2, k3, rfl⟩ := loop_pre (G := gN 8) (b := PeB) (f := fun k : Nat => PyData.int (k : Int)) (fun l r => ∃ x7' x8' x9' x10', freeS x8' = true ∧ freeS x10' = true ∧ (x7' = .ow (RL (rws ts bt n l.length)) ∨ x7' = .fz (RL (rws ts bt n l.length))) ∧ r = Z d (.fz (.int n)) x3 (.fz (.int bt)) x5 (.ow (TL ts)) x7' x8' x9' x10' x11 x12 x13) (List.range n) (List.range n) []
    (Z d (.fz (.int n)) x3 (.fz (.int bt)) x5 (.ow (TL ts)) (.ow (RL [[]])) x8 x9 x10 x11 x12 x13) rfl ⟨_, _, _, _, h8, h10, .inl rfl, rfl⟩ (fun l k r hp hP => by
      obtain ⟨x7', x8', x9', x10', k1, k2, k3, rfl⟩ := hP
      obtain ⟨hl0, hk⟩ := pre_range hp
      subst hl0
      rw [List.length_range] at k3
      obtain ⟨y9, y10, j1, j2⟩ := stE1 (d := d) (x3 := x3) (x5 := x5) (x7 := x7') (x9 := x9') (x10 := x10') (x11 := x11) (x12 := x12) (x13 := x13) (ts := ts) (bt := bt) (n := n) (k := k) (by omega) hl hn k3
      refine ⟨Z d (.fz (.int n)) x3 (.fz (.int bt)) x5 (.ow (TL ts)) x7' (.fz (.int k)) x9' x10' x11 x12 x13, _, rfl, j2, _, _, _, _, rfl, j1 k2, ?_, rfl⟩
      rw [List.length_append, List.length_range]
      exact .inr rfl)
  rw [List.length_range] at k3
  refine ⟨x7', x8', x9', x10', k1, k2, k3, ?_⟩
  unfold Pe
  rw [for_of (wrng1_of (fc1b (i := 2) rfl) (by omega))]
  exact h1
end
end K13

end
section
namespace K13
open PySem L2 Dn
open PyProof.Rows hiding St
abbrev GP (p : Int × List Int) : D := .tuple [.int p.1, TI p.2]
abbrev GL (gs : List (Int × List Int)) : D := .list (gs.map GP)
theorem lok_gp : LOk GP ltp 2 := LOk.pair lok_int lok_ti
section
variable {d : D} {n : Nat} {ts row : List Int} {bt : Int} {bs : List (Int × Int)} {x2 x3 x4 x5 x6 x7 x8 x9 x10 x11 x12 x13 : Slot}
def one (bs : List (Int × Int)) (row : List Int) : List Int := (bs.filter fun q => decide (row.getD q.2.toNat 0 < row.getD q.1.toNat 0)).map fun _ => 1
theorem one_nil : decide (one bs row = []) = gd bs row := by
  unfold one gd
  rw [Bool.eq_iff_iff]
  simp only [decide_eq_true_eq, List.map_eq_nil_iff, List.filter_eq_nil_iff, List.all_eq_true, Int.not_lt]
def B3 (bs : List (Int × Int)) (x : Slot) : Prop := x = .ow (BL bs) ∨ x = .fz (BL bs)
theorem gdT_den (hb : ∀ q ∈ bs, 0 ≤ q.1 ∧ q.1 < row.length ∧ 0 ≤ q.2 ∧ q.2 < row.length) (hl : bs.length ≤ 1000) (h5 : freeS x5 = true) (h3 : B3 bs x3) : gdT 0 (Z d x2 x3 x4 x5 x6 x7 x8 x9 (.fz (TI row)) x11 x12 x13) = .ok (.ow (.list ((one bs row).map .int))) (Z d x2 (.fz (BL bs)) x4 x5 x6 x7 x8 x9 (.fz (TI row)) x11 x12 x13) := by
  have hc : clearB [5, 14] (Z d x2 (.fz (BL bs)) x4 x5 x6 x7 x8 x9 (.fz (TI row)) x11 x12 x13) = true := by
    show (freeS x5 && (true && true)) = true
    rw [h5]; rfl
  have hi : wSeq (eV 3) (Z d x2 x3 x4 x5 x6 x7 x8 x9 (.fz (TI row)) x11 x12 x13) = .ok (bs.map TP2) (Z d x2 (.fz (BL bs)) x4 x5 x6 x7 x8 x9 (.fz (TI row)) x11 x12 x13) := by
    rcases h3 with rfl | rfl <;> rfl
  obtain ⟨r', h1, rfl⟩ := lc_rel (vs := [5, 14]) (fi := wSeq (eV 3)) (G := gT (gsCons (gN 5) (gsCons (gN 14) gsNil))) (ft := eTest (eOp2 gGt (eOp2 gIx (eV 10) (eV 5)) (eOp2 gIx (eV 10) (eV 14)))) (fe := eC (.int 1)) (f := TP2) (p := fun q => decide (row.getD q.2.toNat 0 < row.getD q.1.toNat 0)) (g := fun _ => .int 1)
    (r := Z d x2 x3 x4 x5 x6 x7 x8 x9 (.fz (TI row)) x11 x12 x13) (r0 := Z d x2 (.fz (BL bs)) x4 x5 x6 x7 x8 x9 (.fz (TI row)) x11 x12 x13) (P := fun e => e = Z d x2 (.fz (BL bs)) x4 .un x6 x7 x8 x9 (.fz (TI row)) x11 x12 x13) bs hi hc rfl (by omega) (fun q hq e he => by
      subst he
      obtain ⟨b1, b2, b3, b4⟩ := hb q hq
      have e1 := gix_t (xs := row) (i := q.1) b1 b2
      have e2 := gix_t (xs := row) (i := q.2) b3 b4
      refine ⟨[.un, .io d, x2, .fz (BL bs), x4, .fz (.int q.1), x6, x7, x8, x9, .fz (TI row), x11, x12, x13, .fz (.int q.2), .un, .un], [.un, .io d, x2, .fz (BL bs), x4, .fz (.int q.1), x6, x7, x8, x9, .fz (TI row), x11, x12, x13, .fz (.int q.2), .un, .un], rfl, ?_, fun _ => rfl, fun _ => ⟨.fz (.int 1), _, _, rfl, rfl, rfl⟩⟩
      exact test_b (x := .fz (.bool (decide (row.getD q.2.toNat 0 < row.getD q.1.toNat 0)))) (op2_of (o := .val (.bool (decide (row.getD q.2.toNat 0 < row.getD q.1.toNat 0)))) (op2_of (o := .val (.int (row.getD q.1.toNat 0))) (x := .bw 10) (y := .bw 5) rfl rfl rfl rfl e1) (op2_of (o := .val (.int (row.getD q.2.toNat 0))) (x := .bw 10) (y := .bw 14) rfl rfl rfl rfl e2) rfl rfl rfl) rfl)
  unfold gdT
  rw [h1]
  unfold one
  rw [List.map_map]
  rfl
theorem test_gd (k : Bool) (hb : ∀ q ∈ bs, 0 ≤ q.1 ∧ q.1 < row.length ∧ 0 ≤ q.2 ∧ q.2 < row.length) (hl : bs.length ≤ 1000) (h5 : freeS x5 = true) (h3 : B3 bs x3) : eTest (eOp2 (if k then gEq else gNe) (gdT 0) (dLst fNil)) (Z d x2 x3 x4 x5 x6 x7 x8 x9 (.fz (TI row)) x11 x12 x13) = .ok (gd bs row == k) (Z d x2 (.fz (BL bs)) x4 x5 x6 x7 x8 x9 (.fz (TI row)) x11 x12 x13) := by
  have g := gdT_den (d := d) (x2 := x2) (x4 := x4) (x6 := x6) (x7 := x7) (x8 := x8) (x9 := x9) (x11 := x11) (x12 := x12) (x13 := x13) hb hl h5 h3
  have e1 : gEq (.list ((one bs row).map .int)) (.list []) = some (.val (.bool (gd bs row))) := by
    rw [← one_nil]
    exact eq_e (eok_int.lst) (by decide) (one bs row) []
  have e2 : gNe (.list ((one bs row).map .int)) (.list []) = some (.val (.bool (!gd bs row))) := by
    rw [← one_nil]
    exact ne_e (eok_int.lst) (by decide) (one bs row) []
  cases k with
  | true =>
    have := test_b (b := gd bs row) (op2_of (fe' := dLst fNil) (o := .val (.bool (gd bs row))) (y := .ow (.list [])) (e := .list []) g rfl rfl rfl e1) rfl
    cases h : gd bs row <;> (rw [h] at this; exact this)
  | false =>
    have := test_b (b := !gd bs row) (op2_of (fe' := dLst fNil) (o := .val (.bool (!gd bs row))) (y := .ow (.list [])) (e := .list []) g rfl rfl rfl e2) rfl
    cases h : gd bs row <;> (rw [h] at this; exact this)
def S7 (rs : List (List Int)) (x : Slot) : Prop := x = .ow (RL rs) ∨ x = .fz (RL rs)
theorem stF (O : Ok ts bs) (hl : bs.length ≤ 1000) (hn : n = ts.length) (hn4 : ts.length ≤ 4) (h5 : freeS x5 = true) (h10 : freeS x10 = true) (h3 : B3 bs x3) (h7 : S7 (rws ts bt n n) x7) : ∃ x3', B3 bs x3' ∧ Pf (Z d x2 x3 x4 x5 x6 x7 x8 x9 x10 x11 x12 x13) = .ok .nx (Z d x2 x3' x4 x5 x6 (.fz (RL (rws ts bt n n))) x8 x9 x10 (.ow (GL (gds ts bs bt))) x12 x13) := by
  have hc : clearB [10] (Z d x2 x3 x4 x5 x6 (.fz (RL (rws ts bt n n))) x8 x9 x10 x11 x12 x13) = true := by
    show (freeS x10 && true) = true
    rw [h10]; rfl
  have hi : wSeq (eV 7) (Z d x2 x3 x4 x5 x6 x7 x8 x9 x10 x11 x12 x13) = .ok ((rws ts bt n n).map TI) (Z d x2 x3 x4 x5 x6 (.fz (RL (rws ts bt n n))) x8 x9 x10 x11 x12 x13) := by
    rcases h7 with rfl | rfl <;> rfl
  have len := rws_len (ts := ts) (bt := bt) (n := n) (by omega) n
  have p4 : (4 : Nat) ^ n ≤ 4 ^ 4 := Nat.pow_le_pow_right (by decide) (by omega)
  obtain ⟨r', h1, x3', hB, rfl⟩ := lc_rel (vs := [10]) (fi := wSeq (eV 7)) (G := gN 10) (ft := eTest (eOp2 gEq (gdT 0) (dLst fNil))) (fe := dTup (fCons (eOp2 gAdd (eOp1 (gBest PySem.W.maxD) (eOp2 gAdd (dTup (fCons (eOp2 Dn.gSub (eC (.int 0)) (eC (.int 1))) fNil)) (eV 10))) (eC (.int 1))) (fCons (eV 10) fNil))) (f := TI) (p := gd bs) (g := fun r => GP (mx r + 1, r))
    (r := Z d x2 x3 x4 x5 x6 x7 x8 x9 x10 x11 x12 x13) (r0 := Z d x2 x3 x4 x5 x6 (.fz (RL (rws ts bt n n))) x8 x9 x10 x11 x12 x13) (P := fun e => ∃ x3', B3 bs x3' ∧ e = Z d x2 x3' x4 x5 x6 (.fz (RL (rws ts bt n n))) x8 x9 .un x11 x12 x13) (rws ts bt n n) hi hc ⟨x3, h3, rfl⟩ (by omega) (fun row hr e he => by
      obtain ⟨x3', hB, rfl⟩ := he
      have hrl := ((mem_rws (ts := ts) (bt := bt) (n := n) n row).mp hr).1
      have t := test_gd (d := d) (x2 := x2) (x3 := x3') (x4 := x4) (x5 := x5) (x6 := x6) (x7 := .fz (RL (rws ts bt n n))) (x8 := x8) (x9 := x9) (x11 := x11) (x12 := x12) (x13 := x13) true (bs := bs) (row := row) (fun q hq => by
        obtain ⟨a, b, c, e⟩ := O.b q hq
        exact ⟨a, by omega, c, by omega⟩) hl h5 hB
      refine ⟨Z d x2 x3' x4 x5 x6 (.fz (RL (rws ts bt n n))) x8 x9 (.fz (TI row)) x11 x12 x13, Z d x2 (.fz (BL bs)) x4 x5 x6 (.fz (RL (rws ts bt n n))) x8 x9 (.fz (TI row)) x11 x12 x13, rfl, ?_, fun _ => ⟨.fz (BL bs), .inr rfl, rfl⟩, fun _ => ?_⟩
      · rw [show (gd bs row == true) = gd bs row by cases gd bs row <;> rfl] at t; exact t
      · have a := addT_of (fe := dTup (fCons (eOp2 Dn.gSub (eC (.int 0)) (eC (.int 1))) fNil)) (fe' := eV 10) (r := Z d x2 (.fz (BL bs)) x4 x5 x6 (.fz (RL (rws ts bt n n))) x8 x9 (.fz (TI row)) x11 x12 x13) (x := .fz (.tuple [.int (-1)])) (y := .bw 10) (xs := [.int (-1)]) (ys := row.map .int) rfl rfl rfl rfl (by rw [List.length_map]; show 1 + row.length ≤ _; omega)
        have b := op1_of (g := gBest PySem.W.maxD) (o := .val (.int (mx row))) a rfl (max_t (-1) row)
        have c := op2_of (fe' := eC (.int 1)) (o := .val (.int (mx row + 1))) b rfl rfl rfl (add_i (mx row) 1)
        refine ⟨.fz (GP (mx row + 1, row)), Z d x2 (.fz (BL bs)) x4 x5 x6 (.fz (RL (rws ts bt n n))) x8 x9 (.fz (TI row)) x11 x12 x13, _, tup2_of c rfl (y := .bw 10) rfl rfl, rfl, .fz (BL bs), .inr rfl, rfl⟩)
  refine ⟨x3', hB, ?_⟩
  unfold Pf
  rw [set_ow h1]
  subst hn
  unfold GL gds
  rw [List.map_map]
  rfl
theorem stG (O : Ok ts bs) (hn : ts.length < 6) (ht : ∀ t ∈ ts, t ≤ bt) {c1 c2 : D} (hc : D_check_seams [.int ts.length, BL bs] = .ok (.fz c1) []) (hf : D_first_order [.int ts.length, BL bs] = .ok (.fz c2) []) {m : Nat} {r : List Int} (e : tld ts bs bt = some (m, r)) (h3 : B3 bs x3) :
    Pg (Z d x2 x3 (.fz (.int bt)) x5 (.ow (TL ts)) x7 x8 x9 x10 x11 x12 x13) = .ok .nx (Z d x2 (.fz (BL bs)) (.fz (.int bt)) x5 (.fz (TL ts)) x7 x8 x9 x10 x11 (.fz (GP (m, r))) x13) := by
  have pd := places_den O hn ht hc hf e
  have c : eCall [] D_places (aVal (eV 6) (aVal (eV 3) (aVal (eV 4) aNil))) (Z d x2 x3 (.fz (.int bt)) x5 (.ow (TL ts)) x7 x8 x9 x10 x11 x12 x13) = .ok (.fz (GP (m, r))) (Z d x2 (.fz (BL bs)) (.fz (.int bt)) x5 (.fz (TL ts)) x7 x8 x9 x10 x11 x12 x13) := by
    rcases h3 with rfl | rfl <;> (unfold eCall; simp [aVal, eV, slotC, Out.bind, stl, Dn.settle, isDic, aNil, callD, refsApart, dataAux, pd, setOuts])
  unfold Pg
  rw [set_fz c]
  rfl
end
end K13

end
section
namespace K13
open PySem L2 Dn
open PyProof.Rows hiding St
section
variable {d : D} {n : Nat} {ts r : List Int} {bt : Int} {bs : List (Int × Int)} {x2 x3 x4 x5 x6 x7 x8 x9 x10 x11 x12 x13 : Slot}
theorem told_ok' {F : List D → FOut} {f : Dn.Env → Out (List Dn.Arg)} {e e' : Dn.Env} {x : D} (h : eCall [] F f e = .ok (.fz x) e') : eTold toldF (eCall [] F f) e = .ok (.fz x) e' := by
  unfold eTold; rw [h]
theorem told_exn {F : List D → FOut} {f : Dn.Env → Out (List Dn.Arg)} {e e' : Dn.Env} {x : Ex} {w : Str} (h : eCall [] F f e = .exn x e') (hw : toldF x = some w) : eTold toldF (eCall [] F f) e = .ok (.fz (.str w)) e' := by
  unfold eTold; rw [h]; dsimp only; rw [hw]
theorem stH (O : Ok ts bs) (hr : r.length = ts.length) {m : Nat} (hlook : (List.range ts.length).any (bad ts bs bt r) = false) {gs : List (Int × List Int)} (hm : ((m : Int), r) ∈ gs) (hall : ∀ y ∈ gs, y = ((m : Int), r) ∨ (ltp (m, r) y = true ∧ ltp y (m, r) = false)) :
    Ph (Z d x2 (.fz (BL bs)) (.fz (.int bt)) x5 (.fz (TL ts)) x7 x8 x9 x10 (.ow (GL gs)) (.fz (GP (m, r))) x13) = .ok .nx (Z d x2 (.fz (BL bs)) (.fz (.int bt)) x5 (.fz (TL ts)) x7 x8 x9 x10 (.ow (GL gs)) (.fz (GP (m, r))) x13) := by
  have mn : gBest PySem.W.minD (GL gs) = some (.val (GP (m, r))) := by
    cases gs with
    | nil => cases hm
    | cons x xs =>
      have := lok_gp.min_l (by decide) x xs
      rw [minF_of ((m : Int), r) xs x hall (by simp [ltp]) hm] at this
      exact this
  have ne : gNe (GP (m, r)) (GP (m, r)) = some (.val (.bool false)) := by
    have := ne_e lok_gp.toEOk (by decide) ((m : Int), r) (m, r)
    rw [decide_eq_true rfl] at this
    exact this
  have t1 : eTest (eOp2 gNe (eV 12) (eOp1 (gBest PySem.W.minD) (eV 11))) (Z d x2 (.fz (BL bs)) (.fz (.int bt)) x5 (.fz (TL ts)) x7 x8 x9 x10 (.ow (GL gs)) (.fz (GP (m, r))) x13) = .ok false (Z d x2 (.fz (BL bs)) (.fz (.int bt)) x5 (.fz (TL ts)) x7 x8 x9 x10 (.ow (GL gs)) (.fz (GP (m, r))) x13) :=
    test_b (x := .fz (.bool false)) (op2_of (o := .val (.bool false)) (x := .bw 12) rfl (op1_of (o := .val (GP (m, r))) (x := .bw 11) rfl rfl mn) rfl rfl ne) rfl
  have lk := (look_den (bt := bt) O hr).2 hlook
  have ix : eOp2 gIx (eV 12) (eC (.int 1)) (Z d x2 (.fz (BL bs)) (.fz (.int bt)) x5 (.fz (TL ts)) x7 x8 x9 x10 (.ow (GL gs)) (.fz (GP (m, r))) x13) = .ok (.fz (TI r)) (Z d x2 (.fz (BL bs)) (.fz (.int bt)) x5 (.fz (TL ts)) x7 x8 x9 x10 (.ow (GL gs)) (.fz (GP (m, r))) x13) := rfl
  have c : eCall [] D_look_places (aVal (eV 6) (aVal (eV 3) (aVal (eV 4) (aVal (eOp2 gIx (eV 12) (eC (.int 1))) aNil)))) (Z d x2 (.fz (BL bs)) (.fz (.int bt)) x5 (.fz (TL ts)) x7 x8 x9 x10 (.ow (GL gs)) (.fz (GP (m, r))) x13) = .ok (.fz .none) (Z d x2 (.fz (BL bs)) (.fz (.int bt)) x5 (.fz (TL ts)) x7 x8 x9 x10 (.ow (GL gs)) (.fz (GP (m, r))) x13) := by
    unfold eCall
    simp [aVal, eV, slotC, Out.bind, Dn.settle, isDic, aNil, ix, callD, refsApart, dataAux, lk, setOuts]
  have t2 : eTest (eOp2 (gIsN false) (eTold toldF (eCall [] D_look_places (aVal (eV 6) (aVal (eV 3) (aVal (eV 4) (aVal (eOp2 gIx (eV 12) (eC (.int 1))) aNil)))))) (eC .none)) (Z d x2 (.fz (BL bs)) (.fz (.int bt)) x5 (.fz (TL ts)) x7 x8 x9 x10 (.ow (GL gs)) (.fz (GP (m, r))) x13) = .ok false (Z d x2 (.fz (BL bs)) (.fz (.int bt)) x5 (.fz (TL ts)) x7 x8 x9 x10 (.ow (GL gs)) (.fz (GP (m, r))) x13) :=
    test_b (x := .fz (.bool false)) (op2_of (o := .val (.bool false)) (told_ok' c) rfl rfl rfl rfl) rfl
  unfold Ph
  exact (sif_f ((tor_f t1).trans t2)).trans rfl
theorem stI (hd : Di d) (O : Ok ts bs) (hl : bs.length ≤ 1000) (hn : n = ts.length) (hn4 : ts.length ≤ 4) (h5 : freeS x5 = true) (h10 : freeS x10 = true) :
    ∃ d' x13', Di d' ∧ Pi (Z d x2 (.fz (BL bs)) (.fz (.int bt)) x5 (.fz (TL ts)) (.fz (RL (rws ts bt n n))) x8 x9 x10 x11 x12 x13) = .ok .nx (Z d' x2 (.fz (BL bs)) (.fz (.int bt)) x5 (.fz (TL ts)) (.fz (RL (rws ts bt n n))) x8 x9 x10 x11 x12 x13') := by
  have t0 : eTest (eOp2 gNe (eV 3) (dLst fNil)) (Z d x2 (.fz (BL bs)) (.fz (.int bt)) x5 (.fz (TL ts)) (.fz (RL (rws ts bt n n))) x8 x9 x10 x11 x12 x13) = .ok (!decide (bs = [])) (Z d x2 (.fz (BL bs)) (.fz (.int bt)) x5 (.fz (TL ts)) (.fz (RL (rws ts bt n n))) x8 x9 x10 x11 x12 x13) :=
    test_b (x := .fz (.bool (!decide (bs = [])))) (op2_of (o := .val (.bool (!decide (bs = [])))) (fe' := dLst fNil) (x := .bw 3) (y := .ow (.list [])) (e := .list []) rfl rfl rfl rfl (ne_e eok_tp2.lst (by decide) bs [])) rfl
  unfold Pi
  by_cases hb : bs = []
  · rw [show (!decide (bs = [])) = false by simp [hb]] at t0
    exact ⟨d, x13, hd, (sif_f t0).trans rfl⟩
  · rw [show (!decide (bs = [])) = true by simp [hb]] at t0
    rw [sif_t t0]
    have len := rws_len (ts := ts) (bt := bt) (n := n) (by omega) n
    have p4 : (4 : Nat) ^ n ≤ 4 ^ 4 := Nat.pow_le_pow_right (by decide) (by omega)
    have hc : clearB [10] (Z d x2 (.fz (BL bs)) (.fz (.int bt)) x5 (.fz (TL ts)) (.fz (RL (rws ts bt n n))) x8 x9 x10 x11 x12 x13) = true := by
      show (freeS x10 && true) = true
      rw [h10]; rfl
    obtain ⟨r', h1, rfl⟩ := lc_rel (vs := [10]) (fi := wSeq (eV 7)) (G := gN 10) (ft := eTest (eOp2 gNe (gdT 0) (dLst fNil))) (fe := eV 10) (f := TI) (p := fun r => !gd bs r) (g := TI)
      (r := Z d x2 (.fz (BL bs)) (.fz (.int bt)) x5 (.fz (TL ts)) (.fz (RL (rws ts bt n n))) x8 x9 x10 x11 x12 x13) (r0 := Z d x2 (.fz (BL bs)) (.fz (.int bt)) x5 (.fz (TL ts)) (.fz (RL (rws ts bt n n))) x8 x9 x10 x11 x12 x13) (P := fun e => e = Z d x2 (.fz (BL bs)) (.fz (.int bt)) x5 (.fz (TL ts)) (.fz (RL (rws ts bt n n))) x8 x9 .un x11 x12 x13) (rws ts bt n n) rfl hc rfl (by omega) (fun row hr e he => by
        subst he
        have hrl := ((mem_rws (ts := ts) (bt := bt) (n := n) n row).mp hr).1
        have t := test_gd (d := d) (x2 := x2) (x3 := .fz (BL bs)) (x4 := .fz (.int bt)) (x5 := x5) (x6 := .fz (TL ts)) (x7 := .fz (RL (rws ts bt n n))) (x8 := x8) (x9 := x9) (x11 := x11) (x12 := x12) (x13 := x13) false (bs := bs) (row := row) (fun q hq => by
          obtain ⟨a, b, c, e⟩ := O.b q hq
          exact ⟨a, by omega, c, by omega⟩) hl h5 (.inr rfl)
        rw [show (gd bs row == false) = !gd bs row by cases gd bs row <;> rfl] at t
        exact ⟨Z d x2 (.fz (BL bs)) (.fz (.int bt)) x5 (.fz (TL ts)) (.fz (RL (rws ts bt n n))) x8 x9 (.fz (TI row)) x11 x12 x13, _, rfl, t, fun _ => rfl, fun _ => ⟨.bw 10, _, _, rfl, rfl, rfl⟩⟩)
    generalize hw : (rws ts bt n n).filter (fun r => !gd bs r) = wr at h1
    have hwr : ∀ w ∈ wr, w.length = ts.length ∧ gd bs w = false := fun w h => by
      rw [← hw] at h
      obtain ⟨h1, h2⟩ := List.mem_filter.mp h
      exact ⟨by rw [((mem_rws (ts := ts) (bt := bt) (n := n) n w).mp h1).1, hn], by simpa using h2⟩
    have hwl : wr.length ≤ 256 := by
      rw [← hw]
      have := List.length_filter_le (fun r => !gd bs r) (rws ts bt n n)
      omega
    unfold PiB
    have s1 : sSet 13 (eLc [10] (wSeq (eV 7)) (gN 10) (eTest (eOp2 gNe (gdT 0) (dLst fNil))) (eV 10)) (Z d x2 (.fz (BL bs)) (.fz (.int bt)) x5 (.fz (TL ts)) (.fz (RL (rws ts bt n n))) x8 x9 x10 x11 x12 x13) = .ok .nx (Z d x2 (.fz (BL bs)) (.fz (.int bt)) x5 (.fz (TL ts)) (.fz (RL (rws ts bt n n))) x8 x9 x10 x11 x12 (.ow (RL wr))) := set_ow h1
    have t1 : eTest (eOp2 gNe (eV 13) (dLst fNil)) (Z d x2 (.fz (BL bs)) (.fz (.int bt)) x5 (.fz (TL ts)) (.fz (RL (rws ts bt n n))) x8 x9 x10 x11 x12 (.ow (RL wr))) = .ok (!decide (wr = [])) (Z d x2 (.fz (BL bs)) (.fz (.int bt)) x5 (.fz (TL ts)) (.fz (RL (rws ts bt n n))) x8 x9 x10 x11 x12 (.ow (RL wr))) :=
      test_b (x := .fz (.bool (!decide (wr = [])))) (op2_of (o := .val (.bool (!decide (wr = [])))) (fe' := dLst fNil) (x := .bw 13) (y := .ow (.list [])) (e := .list []) rfl rfl rfl rfl (ne_e lok_ti.toEOk.lst (by decide) wr [])) rfl
    rw [seq_nx s1]
    by_cases hw0 : wr = []
    · rw [show (!decide (wr = [])) = false by simp [hw0]] at t1
      exact ⟨d, .ow (RL wr), hd, (sif_f (tand_f t1)).trans rfl⟩
    · rw [show (!decide (wr = [])) = true by simp [hw0]] at t1
      have hpos : 0 < wr.length := List.length_pos_iff.mpr hw0
      obtain ⟨v, d', e1, a1, a2, D1⟩ := roll_at (r := Z d x2 (.fz (BL bs)) (.fz (.int bt)) x5 (.fz (TL ts)) (.fz (RL (rws ts bt n n))) x8 x9 x10 x11 x12 (.ow (RL wr))) (i := 1) (m := (wr.length : Int)) (f := eOp1 gLen (eV 13)) hd rfl (op1_of (o := .val (.int wr.length)) (x := .bw 13) rfl rfl (len_l wr)) (by omega) (by omega)
      obtain ⟨k, rfl⟩ : ∃ k : Nat, v = k := ⟨v.toNat, by omega⟩
      have hk : k < wr.length := by omega
      have hmem : wr[k] ∈ wr := List.getElem_mem hk
      obtain ⟨q1, q2⟩ := hwr _ hmem
      have gi : gIx (RL wr) (.int (k : Int)) = some (.val (TI wr[k])) := ix_l (f := TI) (List.getElem?_eq_getElem hk)
      have ix : eOp2 gIx (eV 13) (eCall [0] D__law_roll (aRef 1 (aVal (eOp1 gLen (eV 13)) aNil))) (Z d x2 (.fz (BL bs)) (.fz (.int bt)) x5 (.fz (TL ts)) (.fz (RL (rws ts bt n n))) x8 x9 x10 x11 x12 (.ow (RL wr))) = .ok (.fz (TI wr[k])) (Z d' x2 (.fz (BL bs)) (.fz (.int bt)) x5 (.fz (TL ts)) (.fz (RL (rws ts bt n n))) x8 x9 x10 x11 x12 (.ow (RL wr))) :=
        op2_of (o := .val (TI wr[k])) (x := .bw 13) rfl e1 rfl rfl gi
      have lk := (look_den (bt := bt) O q1).1 (look_wrong O q2)
      have c : eCall [] D_look_places (aVal (eV 6) (aVal (eV 3) (aVal (eV 4) (aVal (eOp2 gIx (eV 13) (eCall [0] D__law_roll (aRef 1 (aVal (eOp1 gLen (eV 13)) aNil)))) aNil)))) (Z d x2 (.fz (BL bs)) (.fz (.int bt)) x5 (.fz (TL ts)) (.fz (RL (rws ts bt n n))) x8 x9 x10 x11 x12 (.ow (RL wr))) = .exn .paper (Z d' x2 (.fz (BL bs)) (.fz (.int bt)) x5 (.fz (TL ts)) (.fz (RL (rws ts bt n n))) x8 x9 x10 x11 x12 (.ow (RL wr))) := by
        generalize eOp2 gIx (eV 13) (eCall [0] D__law_roll (aRef 1 (aVal (eOp1 gLen (eV 13)) aNil))) = g at ix
        unfold eCall
        simp [aVal, eV, slotC, Out.bind, Dn.settle, isDic, aNil, ix, callD, refsApart, dataAux, lk, setOuts]
      have t2 : eTest (eOp2 gNe (eTold toldF (eCall [] D_look_places (aVal (eV 6) (aVal (eV 3) (aVal (eV 4) (aVal (eOp2 gIx (eV 13) (eCall [0] D__law_roll (aRef 1 (aVal (eOp1 gLen (eV 13)) aNil)))) aNil)))))) (eC (.str "paper"))) (Z d x2 (.fz (BL bs)) (.fz (.int bt)) x5 (.fz (TL ts)) (.fz (RL (rws ts bt n n))) x8 x9 x10 x11 x12 (.ow (RL wr))) = .ok false (Z d' x2 (.fz (BL bs)) (.fz (.int bt)) x5 (.fz (TL ts)) (.fz (RL (rws ts bt n n))) x8 x9 x10 x11 x12 (.ow (RL wr))) :=
        test_b (x := .fz (.bool false)) (op2_of (o := .val (.bool false)) (told_exn c (w := "paper") rfl) rfl rfl rfl (by kernel_rfl)) rfl
      exact ⟨d', .ow (RL wr), D1, (sif_f ((tand_t t1).trans t2)).trans rfl⟩
theorem stJ (O : Ok ts bs) (ht : ∀ t ∈ ts, t ≤ 4) (hb4 : 4 ≤ bt) (hn : n = ts.length) (hn4 : ts.length ≤ 4) : Pj (Z d (.fz (.int n)) (.fz (BL bs)) (.fz (.int bt)) x5 (.fz (TL ts)) x7 x8 x9 x10 x11 x12 x13) = .ok .nx (Z d (.fz (.int n)) (.fz (BL bs)) (.fz (.int bt)) x5 (.fz (TL ts)) x7 x8 x9 x10 x11 x12 x13) := by
  have t1 : eTest (eOp2 gGt (eV 2) (eC (.int 0))) (Z d (.fz (.int n)) (.fz (BL bs)) (.fz (.int bt)) x5 (.fz (TL ts)) x7 x8 x9 x10 x11 x12 x13) = .ok (decide ((0 : Int) < n)) (Z d (.fz (.int n)) (.fz (BL bs)) (.fz (.int bt)) x5 (.fz (TL ts)) x7 x8 x9 x10 x11 x12 x13) := rfl
  have t2 : eTest (eOp2 gGt (eOp1 gSum (eV 6)) (eV 4)) (Z d (.fz (.int n)) (.fz (BL bs)) (.fz (.int bt)) x5 (.fz (TL ts)) x7 x8 x9 x10 x11 x12 x13) = .ok (decide (bt < ts.sum)) (Z d (.fz (.int n)) (.fz (BL bs)) (.fz (.int bt)) x5 (.fz (TL ts)) x7 x8 x9 x10 x11 x12 x13) :=
    test_b (x := .fz (.bool (decide (bt < ts.sum)))) (op2_of (o := .val (.bool (decide (bt < ts.sum)))) (y := .bw 4) (op1_of (o := .val (.int ts.sum)) (x := .bw 6) rfl rfl (sum_l ts)) rfl rfl rfl rfl) rfl
  unfold Pj
  cases h1 : decide ((0 : Int) < n) with
  | false => rw [h1] at t1; exact (sif_f (tand_f t1)).trans rfl
  | true =>
    rw [h1] at t1
    cases h2 : decide (bt < ts.sum) with
    | false => rw [h2] at t2; exact (sif_f ((tand_t t1).trans (tand_f t2))).trans rfl
    | true =>
      rw [h2] at t2
      have h1 := of_decide_eq_true h1
      have h2 := of_decide_eq_true h2
      have n2 : 2 ≤ n := by
        rcases Nat.lt_or_ge n 2 with z | z
        · exfalso
          match ts, hn with
          | [], hn => simp at hn; omega
          | [t], _ => have := ht t (by simp); simp at h2; omega
          | _ :: _ :: _, hn => simp at hn; omega
        · exact z
      have lk := (look_den (bt := bt) (bs := bs) (r := List.replicate ts.length 0) O (by simp)).1 (look_zero (n := n - 1) (by omega) h2)
      have mul : eOp2 gMul (dTup (fCons (eC (.int 0)) fNil)) (eV 2) (Z d (.fz (.int n)) (.fz (BL bs)) (.fz (.int bt)) x5 (.fz (TL ts)) x7 x8 x9 x10 x11 x12 x13) = .ok (.fz (TI (List.replicate ts.length 0))) (Z d (.fz (.int n)) (.fz (BL bs)) (.fz (.int bt)) x5 (.fz (TL ts)) x7 x8 x9 x10 x11 x12 x13) := by
        subst hn
        have hc : ts.length = 2 ∨ ts.length = 3 ∨ ts.length = 4 := by omega
        rcases hc with e | e | e <;> rw [e] <;> rfl
      have c : eCall [] D_look_places (aVal (eV 6) (aVal (eV 3) (aVal (eV 4) (aVal (eOp2 gMul (dTup (fCons (eC (.int 0)) fNil)) (eV 2)) aNil)))) (Z d (.fz (.int n)) (.fz (BL bs)) (.fz (.int bt)) x5 (.fz (TL ts)) x7 x8 x9 x10 x11 x12 x13) = .exn .paper (Z d (.fz (.int n)) (.fz (BL bs)) (.fz (.int bt)) x5 (.fz (TL ts)) x7 x8 x9 x10 x11 x12 x13) := by
        generalize eOp2 gMul (dTup (fCons (eC (.int 0)) fNil)) (eV 2) = g at mul
        unfold eCall
        simp only [aVal, eV, List.getElem?_cons_succ, List.getElem?_cons_zero, Out.bind, Dn.settle, aNil, mul, callD, refsApart, if_true, dataAux, List.not_mem_nil, if_false, Option.map_some, lk, setOuts]
      have t3 : eTest (eOp2 gNe (eTold toldF (eCall [] D_look_places (aVal (eV 6) (aVal (eV 3) (aVal (eV 4) (aVal (eOp2 gMul (dTup (fCons (eC (.int 0)) fNil)) (eV 2)) aNil)))))) (eC (.str "paper"))) (Z d (.fz (.int n)) (.fz (BL bs)) (.fz (.int bt)) x5 (.fz (TL ts)) x7 x8 x9 x10 x11 x12 x13) = .ok false (Z d (.fz (.int n)) (.fz (BL bs)) (.fz (.int bt)) x5 (.fz (TL ts)) x7 x8 x9 x10 x11 x12 x13) :=
        test_b (x := .fz (.bool false)) (op2_of (o := .val (.bool false)) (told_exn c (w := "paper") rfl) rfl rfl rfl (by kernel_rfl)) rfl
      exact (sif_f ((tand_t t1).trans ((tand_t t2).trans t3))).trans rfl
theorem stK (hb4 : 4 ≤ bt) (hb7 : bt ≤ 7) : Pk (Z d x2 x3 (.fz (.int bt)) x5 x6 x7 x8 x9 x10 x11 x12 x13) = .ok .nx (Z d x2 x3 (.fz (.int bt)) x5 x6 x7 x8 x9 x10 x11 x12 x13) := by
  have hc : bt = 4 ∨ bt = 5 ∨ bt = 6 ∨ bt = 7 := by omega
  rcases hc with rfl | rfl | rfl | rfl <;> kernel_rfl
end
end K13

end
section
namespace K13
open PySem L2 Dn
open PyProof.Rows hiding St
def subs {α : Type} : List α → List (List α)
  | [] => [[]]
  | x :: xs => subs xs ++ (subs xs).map (x :: ·)
theorem mem_subs {α : Type} {l L : List α} (h : l.Sublist L) : l ∈ subs L := by
  induction h with
  | slnil => exact List.mem_singleton.mpr rfl
  | cons a _ ih => exact List.mem_append_left _ ih
  | cons_cons a _ ih => exact List.mem_append_right _ (List.mem_map.mpr ⟨_, ih, rfl⟩)
def okF : FOut → Bool
  | .ok (.fz _) [] => true
  | _ => false
theorem okF_of {o : FOut} (h : okF o = true) : ∃ c, o = .ok (.fz c) [] := by
  unfold okF at h
  split at h
  · exact ⟨_, rfl⟩
  · cases h
def chkF (n : Nat) (bs : List (Int × Int)) : Bool := okF (D_check_seams [.int n, BL bs]) && okF (D_first_order [.int n, BL bs])
def chk2 (n : Nat) (bs : List (Int × Int)) : Bool := chkF n bs && chkF n (bs.map (tn n))
def LL (n : Nat) : List (Int × Int) := (List.range n).flatMap (prs n)
theorem f0 : (subs (LL 0)).all (chk2 0) = true := by kernel_rfl
theorem f1 : (subs (LL 1)).all (chk2 1) = true := by kernel_rfl
theorem f2 : (subs (LL 2)).all (chk2 2) = true := by kernel_rfl
theorem f3 : (subs (LL 3)).all (chk2 3) = true := by kernel_rfl
theorem f4_0 : (((subs (LL 4)).drop 0).take 8).all (chk2 4) = true := by kernel_rfl
theorem f4_1 : (((subs (LL 4)).drop 8).take 8).all (chk2 4) = true := by kernel_rfl
theorem f4_2 : (((subs (LL 4)).drop 16).take 8).all (chk2 4) = true := by kernel_rfl
theorem f4_3 : (((subs (LL 4)).drop 24).take 8).all (chk2 4) = true := by kernel_rfl
theorem f4_4 : (((subs (LL 4)).drop 32).take 8).all (chk2 4) = true := by kernel_rfl
theorem f4_5 : (((subs (LL 4)).drop 40).take 8).all (chk2 4) = true := by kernel_rfl
theorem f4_6 : (((subs (LL 4)).drop 48).take 8).all (chk2 4) = true := by kernel_rfl
theorem f4_7 : (((subs (LL 4)).drop 56).take 8).all (chk2 4) = true := by kernel_rfl
end K13

end
section
namespace K13
open PySem L2 Dn
open PyProof.Rows hiding St
theorem mem_chunk {α : Type} {l : List α} {a : α} (h : a ∈ l) (hl : l.length ≤ 64) : ∃ k, k < 8 ∧ a ∈ (l.drop (8 * k)).take 8 := by
  obtain ⟨i, hi, rfl⟩ := List.mem_iff_getElem.mp h
  refine ⟨i / 8, by omega, List.mem_iff_getElem.mpr ⟨i % 8, by simp; omega, ?_⟩⟩
  rw [List.getElem_take, List.getElem_drop]
  congr 1
  omega
theorem ckF {n : Nat} {bs : List (Int × Int)} (hn : n ≤ 4) (hs : bs.Sublist (LL n)) : chk2 n bs = true := by
  have hm := mem_subs hs
  have hc : n = 0 ∨ n = 1 ∨ n = 2 ∨ n = 3 ∨ n = 4 := by omega
  rcases hc with rfl | rfl | rfl | rfl | rfl
  · exact List.all_eq_true.mp f0 bs hm
  · exact List.all_eq_true.mp f1 bs hm
  · exact List.all_eq_true.mp f2 bs hm
  · exact List.all_eq_true.mp f3 bs hm
  · obtain ⟨k, hk, hb⟩ := mem_chunk hm (by decide)
    have hc : k = 0 ∨ k = 1 ∨ k = 2 ∨ k = 3 ∨ k = 4 ∨ k = 5 ∨ k = 6 ∨ k = 7 := by omega
    rcases hc with rfl | rfl | rfl | rfl | rfl | rfl | rfl | rfl
    · exact List.all_eq_true.mp f4_0 bs hb
    · exact List.all_eq_true.mp f4_1 bs hb
    · exact List.all_eq_true.mp f4_2 bs hb
    · exact List.all_eq_true.mp f4_3 bs hb
    · exact List.all_eq_true.mp f4_4 bs hb
    · exact List.all_eq_true.mp f4_5 bs hb
    · exact List.all_eq_true.mp f4_6 bs hb
    · exact List.all_eq_true.mp f4_7 bs hb
theorem mem_LL {n : Nat} {q : Int × Int} (h : q ∈ LL n) : 0 ≤ q.1 ∧ q.1 < q.2 ∧ q.2 < (n : Int) := by
  unfold LL prs at h
  obtain ⟨a, ha, h⟩ := List.mem_flatMap.mp h
  obtain ⟨k, hk, rfl⟩ := List.mem_map.mp h
  have := List.mem_range.mp ha
  have := List.mem_range.mp hk
  refine ⟨by simp, ?_, ?_⟩ <;> simp <;> omega
theorem len_LL {n : Nat} (hn : n ≤ 4) : (LL n).length ≤ 6 := by
  have hc : n = 0 ∨ n = 1 ∨ n = 2 ∨ n = 3 ∨ n = 4 := by omega
  rcases hc with rfl | rfl | rfl | rfl | rfl <;> decide
section
variable {ts : List Int} {bt : Int} {n : Nat}
/-- each at a place of its own -/
theorem own_row (hn : n = ts.length) (ht : ∀ t ∈ ts, t ≤ 4) (hb : 4 ≤ bt) (g : Nat → Nat) (hg : ∀ k, k < n → g k < n) (inj : ∀ j k, j < k → k < n → g j ≠ g k) : ((List.range n).map fun k => ((g k : Nat) : Int)) ∈ rws ts bt n n := by
  subst hn
  refine (mem_R _).mpr ⟨by simp, fun x hx => ?_, ?_⟩
  · obtain ⟨k, hk, rfl⟩ := List.mem_map.mp hx
    have := hg k (List.mem_range.mp hk)
    omega
  · rw [ch_iff]
    intro k hk
    have hk : k < ts.length := by simpa using hk
    have gd : ∀ j, j < ts.length → ((List.range ts.length).map fun k => ((g k : Nat) : Int)).getD j 0 = (g j : Int) := fun j hj => by
      simp [List.getD_eq_getElem?_getD, hj]
    unfold lok ld
    rw [List.nil_append, gd k hk]
    have e : ((List.range (((List.range ts.length).map fun k => ((g k : Nat) : Int)).take k).length).filter fun j => decide ((((List.range ts.length).map fun k => ((g k : Nat) : Int)).take k).getD j 0 = (g k : Int))) = [] := by
      rw [List.filter_eq_nil_iff]
      intro j hj
      have hj : j < k := by
        have := List.mem_range.mp hj
        simp at this
        omega
      rw [List.getD_eq_getElem?_getD (l := List.take _ _), List.getElem?_take_of_lt hj, ← List.getD_eq_getElem?_getD, gd j (by omega)]
      simp only [decide_eq_true_eq]
      have := inj j k hj hk
      omega
    rw [e]
    have t := ht (ts.getD k 0) (by
      rw [List.getD_eq_getElem?_getD, List.getElem?_eq_getElem hk]
      exact List.getElem_mem hk)
    have ek : (((List.range ts.length).map fun k => ((g k : Nat) : Int)).take k).length = k := by simp; omega
    rw [ek]
    simp only [List.map_nil, List.sum_nil, decide_eq_true_eq]
    omega
theorem has_row (hn : n = ts.length) (ht : ∀ t ∈ ts, t ≤ 4) (hb : 4 ≤ bt) {bs bs' : List (Int × Int)} (hs : bs.Sublist (LL n)) (h : bs' = bs ∨ bs' = bs.map (tn n)) : ∃ r, r ∈ rws ts bt ts.length ts.length ∧ gd bs' r = true := by
  have gd' : ∀ (g : Nat → Nat) j, j < n → ((List.range n).map fun k => ((g k : Nat) : Int)).getD j 0 = (g j : Int) := fun g j hj => by
    simp [List.getD_eq_getElem?_getD, hj]
  subst hn
  rcases h with rfl | rfl
  · refine ⟨_, own_row rfl ht hb (fun k => k) (fun k hk => hk) (fun j k h _ => by omega), ?_⟩
    unfold gd
    rw [List.all_eq_true]
    intro q hq
    obtain ⟨h1, h2, h3⟩ := mem_LL (hs.subset hq)
    rw [gd' _ _ (by omega), gd' _ _ (by omega)]
    simp only [decide_eq_true_eq]; omega
  · refine ⟨_, own_row rfl ht hb (fun k => ts.length - 1 - k) (fun k hk => by omega) (fun j k h _ => by omega), ?_⟩
    unfold gd
    rw [List.all_eq_true]
    intro q hq
    obtain ⟨p, hp, rfl⟩ := List.mem_map.mp hq
    obtain ⟨h1, h2, h3⟩ := mem_LL (hs.subset hp)
    unfold tn
    dsimp only
    rw [gd' _ _ (by omega), gd' _ _ (by omega)]
    simp only [decide_eq_true_eq]; omega
end
theorem law_holds : ∀ c, bitsOk c → goesOn 17 (lawB (rnd 17 1 c)) := by
  intro c _
  show goesOn 17 (lawB (Z (.list ((diceOf c).map .int)) .un .un .un .un .un .un .un .un .un .un .un .un))
  obtain ⟨n, bt, d1, e1, D1, n4, b4, b7⟩ := stA (x2 := .un) (x3 := .un) (x4 := .un) (x5 := .un) (x6 := .un) (x7 := .un) (x8 := .un) (x9 := .un) (x10 := .un) (x11 := .un) (x12 := .un) (x13 := .un) (di_rnd c)
  rw [law_eq, seq_nx e1]
  obtain ⟨bs0, d2, x5, hs, D2, h5, e2⟩ := stB (n := n) (x4 := .fz (.int bt)) (x5 := .un) (x6 := .un) (x7 := .un) (x8 := .un) (x9 := .un) (x10 := .un) (x11 := .un) (x12 := .un) (x13 := .un) D1 n4 rfl
  rw [seq_nx e2]
  have lb : bs0.length ≤ 6 := Nat.le_trans hs.length_le (len_LL n4)
  obtain ⟨bs, d3, hbs, D3, e3⟩ := stC (n := n) (bs := bs0) (x4 := .fz (.int bt)) (x5 := x5) (x6 := .un) (x7 := .un) (x8 := .un) (x9 := .un) (x10 := .un) (x11 := .un) (x12 := .un) (x13 := .un) D2 h5 (by omega)
  rw [seq_nx e3]
  obtain ⟨ts, d4, ln, ht, D4, e4⟩ := stD (n := n) (x3 := .ow (BL bs)) (x4 := .fz (.int bt)) (x5 := x5) (x6 := .un) (x7 := .un) (x9 := .un) (x10 := .un) (x11 := .un) (x12 := .un) (x13 := .un) D3 n4
  rw [seq_nx e4]
  have hlb : bs.length ≤ 1000 := by
    rcases hbs with rfl | rfl
    · omega
    · rw [List.length_map]; omega
  have ck := ckF n4 hs
  have hmem : ∀ q ∈ bs, 0 ≤ q.1 ∧ q.1 < (n : Int) ∧ 0 ≤ q.2 ∧ q.2 < (n : Int) ∧ q.1 ≠ q.2 := fun q hq => by
    rcases hbs with rfl | rfl
    · obtain ⟨h1, h2, h3⟩ := mem_LL (hs.subset hq)
      exact ⟨by omega, by omega, by omega, by omega, by omega⟩
    · obtain ⟨p, hp, rfl⟩ := List.mem_map.mp hq
      obtain ⟨h1, h2, h3⟩ := mem_LL (hs.subset hp)
      unfold tn
      dsimp only
      exact ⟨by omega, by omega, by omega, by omega, by omega⟩
  have ckb : chkF n bs = true := by
    unfold chk2 at ck
    rw [Bool.and_eq_true] at ck
    rcases hbs with rfl | rfl
    · exact ck.1
    · exact ck.2
  unfold chkF at ckb
  rw [Bool.and_eq_true] at ckb
  obtain ⟨c1, hc1⟩ := okF_of ckb.1
  obtain ⟨c2, hc2⟩ := okF_of ckb.2
  subst ln
  have O : Ok ts bs := ⟨by omega, fun t h => ⟨(ht t h).1, by have := (ht t h).2; omega⟩, fun q hq => by obtain ⟨a, b, c, e, _⟩ := hmem q hq; exact ⟨a, b, c, e⟩⟩
  have hne : ∀ q ∈ bs, q.1 ≠ q.2 := fun q hq => (hmem q hq).2.2.2.2
  obtain ⟨x7, x8, x9, x10, h8, h10, h7, e5⟩ := stE (d := d4) (n := ts.length) (ts := ts) (bt := bt) (x3 := .ow (BL bs)) (x5 := x5) (x8 := .un) (x9 := .un) (x10 := .un) (x11 := .un) (x12 := .un) (x13 := .un) n4 rfl rfl rfl
  rw [show (PyData.list [Dn.TI []] : D) = RL [[]] from rfl, seq_nx e5]
  obtain ⟨x3, h3, e6⟩ := stF (d := d4) (n := ts.length) (x2 := .fz (.int ts.length)) (x3 := .ow (BL bs)) (x4 := .fz (.int bt)) (x5 := x5) (x6 := .ow (TL ts)) (x7 := x7) (x8 := x8) (x9 := x9) (x10 := x10) (x11 := .un) (x12 := .un) (x13 := .un) (bt := bt) O hlb rfl n4 h5 h10 (.inl rfl) h7
  rw [seq_nx e6]
  obtain ⟨m, r, et, hm, hR, hg, hin, hall⟩ := tld_ok (bt := bt) O (by omega) hne (has_row rfl (fun t h => (ht t h).2) b4 hs hbs)
  have e7 := stG (d := d4) (x2 := .fz (.int ts.length)) (x3 := x3) (x5 := x5) (x7 := .fz (RL (rws ts bt ts.length ts.length))) (x8 := x8) (x9 := x9) (x10 := x10) (x11 := .ow (GL (gds ts bs bt))) (x12 := .un) (x13 := .un) O (by omega) (fun t h => by have := (ht t h).2; omega) hc1 hc2 et h3
  rw [seq_nx e7]
  have hrl : r.length = ts.length := ((mem_R r).mp hR).1
  have e8 := stH (d := d4) (x2 := .fz (.int ts.length)) (x5 := x5) (x7 := .fz (RL (rws ts bt ts.length ts.length))) (x8 := x8) (x9 := x9) (x10 := x10) (x13 := .un) (bt := bt) O hrl (look_good hne O hR hg) hin hall
  rw [seq_nx e8]
  obtain ⟨d9, x13, D9, e9⟩ := stI (d := d4) (n := ts.length) (x2 := .fz (.int ts.length)) (x5 := x5) (x8 := x8) (x9 := x9) (x10 := x10) (x11 := .ow (GL (gds ts bs bt))) (x12 := .fz (GP (m, r))) (x13 := .un) (bt := bt) D4 O hlb rfl n4 h5 h10
  rw [seq_nx e9]
  have e10 := stJ (d := d9) (n := ts.length) (x5 := x5) (x7 := .fz (RL (rws ts bt ts.length ts.length))) (x8 := x8) (x9 := x9) (x10 := x10) (x11 := .ow (GL (gds ts bs bt))) (x12 := .fz (GP (m, r))) (x13 := x13) (bt := bt) O (fun t h => (ht t h).2) b4 rfl n4
  rw [seq_nx e10]
  have e11 := stK (d := d9) (x2 := .fz (.int ts.length)) (x3 := .fz (BL bs)) (x5 := x5) (x6 := .fz (TL ts)) (x7 := .fz (RL (rws ts bt ts.length ts.length))) (x8 := x8) (x9 := x9) (x10 := x10) (x11 := .ow (GL (gds ts bs bt))) (x12 := .fz (GP (m, r))) (x13 := x13) b4 b7
  rw [e11]
  rfl
end K13
theorem PySem.Challenge.cw_tailorshop_k13_work_in_a_line_holds : PySem.Challenge.rw_tailorshop_k13_work_in_a_line.Holds :=
  K13.holds_of K13.law_holds

end
