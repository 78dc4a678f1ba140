import PyProof.Rows.All
import Wide.All
import OpenK.AllK
import Wide.FinOn
import HandS.ForMost
import HandS.ForExc
import HandS.Flow
import HandS.Wide
import HandS.Deep
import HandS.Style
import HandS.TupAny
import HandS.IsInst
import HandS.SortInts
import HandS.Conv
import HandS.SetFor
import HandS.CallSlots
import HandS.Property
import HandS.ClsMeth
import HandS.Nested
import KE.KSuper
import HandS.ExcInit
import KE.KExcSuper
import KE.KExcMake
import HandS.TryMany
import HandS.ExcField
import HandS.HotCalls
import KE.GoesMore
import HandS.DictComp
import PyProof.DictUpdate
import HandS.RaiseMore
import HandS.HeadEnd
import HandS.HeadHook1
import HandS.Head0
import HandS.Head1
import HandS.Head2
import KE.KStateDown
import HandS.HeadHook2
import PySem.Challenge.RW_choosingunseen_k00_rules_of_lists
set_option Elab.async false
set_option linter.all false
set_option maxRecDepth 100000
/-! D0: Python data as trees, slots that own their object, what it means that a heap holds them. -/
namespace Dl
open PySem L2

inductive D where
  | non | bl (b : Bool) | int (i : Int) | str (x : Str)
  | tup (ds : List D) | lst (ds : List D)
  | dct (ks : List Key) (ds : List D)
  /-- a dict that nobody changes any more -/
  | dcl (ks : List Key) (ds : List D)
  | ins (c : Str) (ns : List Str) (ds : List D)
  | frz (ds : List D)
  deriving Inhabited

/-- the written part, the class's address by its name, in an except suite: the exception and its dict -/
structure Cf where
  K : PySem.W.Frag
  CE : Str → Addr
  ex : Option (Addr × Addr)

mutual
/-- a value denotes data; O: the addresses that are owned elsewhere -/
inductive Den (F : Cf) (O : Addr → Prop) (H : Hp) : V → D → Prop
  | non : Den F O H .non .non
  | bl (b : Bool) : Den F O H (.bl b) (.bl b)
  | int (i : Int) : Den F O H (.int i) (.int i)
  | str (x : Str) : Den F O H (.str x) (.str x)
  | ob {a : Addr} {d : D} : Bod F O H a d → ¬ O a → Den F O H (.ref a) d
  | tupK {a : Addr} {xs : List V} {ds : List D} : (∀ H, SqT F.K H a xs) → Dens F O H xs ds → Den F O H (.ref a) (.tup ds)
  | lstK {a : Addr} {xs : List V} {ds : List D} : (∀ H, SqL F.K H a xs) → Dens F O H xs ds → Den F O H (.ref a) (.frz ds)
inductive Dens (F : Cf) (O : Addr → Prop) (H : Hp) : List V → List D → Prop
  | nil : Dens F O H [] []
  | cons {v : V} {d : D} {vs : List V} {ds : List D} : Den F O H v d → Dens F O H vs ds → Dens F O H (v :: vs) (d :: ds)
/-- what stands at an address -/
inductive Bod (F : Cf) (O : Addr → Prop) (H : Hp) : Addr → D → Prop
  | tup {a : Addr} {xs : List V} {ds : List D} : H a = some (.tup xs) → Dens F O H xs ds → Bod F O H a (.tup ds)
  | lst {a : Addr} {xs : List V} {ds : List D} : H a = some (.lst xs) → Dens F O H xs ds → Bod F O H a (.lst ds)
  | lstz {a : Addr} {ob : Obj} {xs : List V} {ds : List D} : H a = some (.frz ob (.lst xs)) → Dens F O H xs ds → Bod F O H a (.frz ds)
  | dct {a : Addr} {kvs : List (Key × V)} {ks : List Key} {ds : List D} : H a = some (.dK kvs) → kvs.map (·.1) = ks → Dens F O H (kvs.map (·.2)) ds → Bod F O H a (.dct ks ds)
  | dcl {a : Addr} {ob : Obj} {kvs : List (Key × V)} {ks : List Key} {ds : List D} : H a = some (.frz ob (.dK kvs)) → kvs.map (·.1) = ks → Dens F O H (kvs.map (·.2)) ds → Bod F O H a (.dcl ks ds)
  | ins {a dx : Addr} {fs : List (Str × V)} {c : Str} {ns : List Str} {ds : List D} : H a = some (.ins (F.CE c) dx fs) → fs.map (·.1) = ns → Dens F O H (fs.map (·.2)) ds → Bod F O H a (.ins c ns ds)
end

section
variable {F : Cf} {O O' : Addr → Prop} {H H' : Hp}
theorem Bod.some {a : Addr} {d : D} (h : Bod F O H a d) : ∃ o, H a = some o := by
  cases h with
  | tup e _ => exact ⟨_, e⟩
  | lst e _ => exact ⟨_, e⟩
  | lstz e _ => exact ⟨_, e⟩
  | dct e _ _ => exact ⟨_, e⟩
  | dcl e _ _ => exact ⟨_, e⟩
  | ins e _ _ => exact ⟨_, e⟩
mutual
theorem Den.mono (hk : ∀ a o, ¬ O a → H a = some o → H' a = some o ∧ ¬ O' a) : ∀ {v : V} {d : D}, Den F O H v d → Den F O' H' v d
  | _, _, .non => .non
  | _, _, .bl b => .bl b
  | _, _, .int i => .int i
  | _, _, .str x => .str x
  | _, _, .ob b n => by
    obtain ⟨o, e⟩ := b.some
    exact .ob (Bod.mono hk (hk _ _ n e).1 e b) (hk _ _ n e).2
  | _, _, .tupK h ds => .tupK h (Dens.mono hk ds)
  | _, _, .lstK h ds => .lstK h (Dens.mono hk ds)
theorem Dens.mono (hk : ∀ a o, ¬ O a → H a = some o → H' a = some o ∧ ¬ O' a) : ∀ {vs : List V} {ds : List D}, Dens F O H vs ds → Dens F O' H' vs ds
  | _, _, .nil => .nil
  | _, _, .cons x xs => .cons (Den.mono hk x) (Dens.mono hk xs)
theorem Bod.mono (hk : ∀ a o, ¬ O a → H a = some o → H' a = some o ∧ ¬ O' a) : ∀ {a : Addr} {d : D} {o : HO}, H' a = some o → H a = some o → Bod F O H a d → Bod F O' H' a d
  | _, _, _, e', e, .tup e1 ds => .tup (by rw [e', ← e, e1]) (Dens.mono hk ds)
  | _, _, _, e', e, .lst e1 ds => .lst (by rw [e', ← e, e1]) (Dens.mono hk ds)
  | _, _, _, e', e, .lstz e1 ds => .lstz (by rw [e', ← e, e1]) (Dens.mono hk ds)
  | _, _, _, e', e, .dct e1 k ds => .dct (by rw [e', ← e, e1]) k (Dens.mono hk ds)
  | _, _, _, e', e, .dcl e1 k ds => .dcl (by rw [e', ← e, e1]) k (Dens.mono hk ds)
  | _, _, _, e', e, .ins e1 k ds => .ins (by rw [e', ← e, e1]) k (Dens.mono hk ds)
end
/-- less is owned: the same heap -/
theorem Den.anti (ho : ∀ a, O' a → O a) {v : V} {d : D} (h : Den F O H v d) : Den F O' H v d := h.mono fun a _ n e => ⟨e, fun z => n (ho a z)⟩
theorem Dens.anti (ho : ∀ a, O' a → O a) {v : List V} {d : List D} (h : Dens F O H v d) : Dens F O' H v d := h.mono fun a _ n e => ⟨e, fun z => n (ho a z)⟩
theorem Bod.anti (ho : ∀ a, O' a → O a) {a : Addr} {d : D} (h : Bod F O H a d) : Bod F O' H a d := by
  obtain ⟨o, e⟩ := h.some
  exact h.mono (fun a _ n e => ⟨e, fun z => n (ho a z)⟩) e e
/-- the heap grows -/
theorem Den.grow (hs : Same H H') {v : V} {d : D} (h : Den F O H v d) : Den F O H' v d := h.mono fun a _ n e => ⟨hs _ _ e, n⟩
theorem Dens.grow (hs : Same H H') {v : List V} {d : List D} (h : Dens F O H v d) : Dens F O H' v d := h.mono fun a _ n e => ⟨hs _ _ e, n⟩
theorem Bod.grow (hs : Same H H') {a : Addr} {d : D} (h : Bod F O H a d) : Bod F O H' a d := by
  obtain ⟨o, e⟩ := h.some
  exact h.mono (fun a _ n e => ⟨hs _ _ e, n⟩) (hs _ _ e) e
theorem Dens.length : ∀ {vs : List V} {ds : List D}, Dens F O H vs ds → vs.length = ds.length
  | _, _, .nil => rfl
  | _, _, .cons _ t => by rw [List.length_cons, List.length_cons, Dens.length t]
theorem Dens.get : ∀ {vs : List V} {ds : List D} {i : Nat} {d : D}, Dens F O H vs ds → ds[i]? = some d → ∃ v, vs[i]? = some v ∧ Den F O H v d
  | _, _, _, _, .nil, e => by simp at e
  | _, _, 0, _, .cons x _, e => by simp at e; subst e; exact ⟨_, rfl, x⟩
  | _, _, i + 1, d, .cons _ t, e => by
    obtain ⟨v, h1, h2⟩ := Dens.get (i := i) (d := d) t (by simpa using e)
    exact ⟨v, by simpa using h1, h2⟩
theorem Dens.append : ∀ {vs ws : List V} {ds es : List D}, Dens F O H vs ds → Dens F O H ws es → Dens F O H (vs ++ ws) (ds ++ es)
  | _, _, _, _, .nil, t => t
  | _, _, _, _, .cons x xs, t => .cons x (Dens.append xs t)
theorem Dens.snoc {vs : List V} {ds : List D} {v : V} {d : D} (h : Dens F O H vs ds) (x : Den F O H v d) : Dens F O H (vs ++ [v]) (ds ++ [d]) := h.append (.cons x .nil)
theorem Dens.set : ∀ {vs : List V} {ds : List D} (i : Nat) {v : V} {d : D}, Dens F O H vs ds → Den F O H v d → Dens F O H (vs.set i v) (ds.set i d)
  | _, _, _, _, _, .nil, _ => .nil
  | _, _, 0, _, _, .cons _ t, x => .cons x t
  | _, _, i + 1, _, _, .cons y t, x => .cons y (Dens.set i t x)
theorem Dens.take : ∀ {vs : List V} {ds : List D} (n : Nat), Dens F O H vs ds → Dens F O H (vs.take n) (ds.take n)
  | _, _, 0, _ => .nil
  | _, _, _ + 1, .nil => .nil
  | _, _, n + 1, .cons x t => .cons x (Dens.take n t)
theorem Dens.drop : ∀ {vs : List V} {ds : List D} (n : Nat), Dens F O H vs ds → Dens F O H (vs.drop n) (ds.drop n)
  | _, _, 0, h => h
  | _, _, _ + 1, .nil => .nil
  | _, _, n + 1, .cons x t => Dens.drop n t
/-- a new object -/
theorem same_new {p : Addr} {o : HO} (h : H p = none) : Same H (upd H p o) := fun b x e => by
  rw [upd_ne (ne_of_none e h)]
  exact e
end

/-! ### slots -/
inductive Sl where
  /-- nothing is known -/
  | un
  /-- data that nobody changes -/
  | val (d : D)
  /-- an object of this def's own making, seen by nobody else -/
  | own (d : D)
  /-- an object that the caller lent, to be changed -/
  | mt (d : D)
  /-- an object that the caller lent, to be read -/
  | br (d : D)
  /-- the exception that an except suite has, its fields -/
  | ex (ns : List Str) (ds : List D)
  deriving Inhabited
abbrev En := List Sl
def Sl.lent : Sl → Option D
  | .own d => some d
  | .mt d => some d
  | .br d => some d
  | _ => none

/-- slot i has an object of its own at a -/
def OwnAt (env : En) (σ : L2.St) (a : Addr) : Prop := ∃ (i : Nat) (d : D), env[i]? = some (Sl.own d) ∧ σ[i]? = some (some (V.ref a))
def MtAt (env : En) (σ : L2.St) (a : Addr) : Prop := ∃ (i : Nat) (d : D), env[i]? = some (Sl.mt d) ∧ σ[i]? = some (some (V.ref a))
def Os (B : Addr → Prop) (env : En) (σ : L2.St) (a : Addr) : Prop := B a ∨ OwnAt env σ a

def SlOk (F : Cf) (B O : Addr → Prop) (H : Hp) : Sl → Option V → Prop
  | .un, _ => True
  | .val d, ov => ∃ v, ov = some v ∧ Den F O H v d
  | .own d, ov => ∃ a, ov = some (.ref a) ∧ ¬ B a ∧ Bod F O H a d
  | .mt d, ov => ∃ a, ov = some (.ref a) ∧ B a ∧ Bod F O H a d
  | .br d, ov => ∃ a, ov = some (.ref a) ∧ B a ∧ Bod F O H a d
  | .ex ns ds, ov => ∃ a dd fs, F.ex = some (a, dd) ∧ ov = some (.ref a) ∧ ¬ O dd ∧ H dd = some (.xd fs) ∧ fs.map (·.1) = ns ∧ Dens F O H (fs.map (·.2)) ds

structure EnvOk (F : Cf) (B : Addr → Prop) (env : En) (σ : L2.St) (H : Hp) : Prop where
  len : env.length = σ.length
  ok : ∀ (i : Nat) (s : Sl) (ov : Option V), env[i]? = some s → σ[i]? = some ov → SlOk F B (Os B env σ) H s ov
  apart : ∀ (i j : Nat) (si sj : Sl) (di dj : D) (a : Addr), i ≠ j → env[i]? = some si → env[j]? = some sj → si.lent = some di → sj.lent = some dj → σ[i]? = some (some (V.ref a)) → σ[j]? = some (some (V.ref a)) → False
  trk : ∀ a, B a → ∃ o, H a = some o

/-- what a piece of code leaves as it is -/
structure Ext (env : En) (σ : L2.St) (H : Hp) (env' : En) (σ' : L2.St) (H' : Hp) : Prop where
  keep : ∀ a o, ¬ OwnAt env σ a → ¬ MtAt env σ a → H a = some o → H' a = some o
  own : ∀ a, OwnAt env' σ' a → OwnAt env σ a ∨ H a = none
  mt : ∀ (j : Nat) (d : D), env'[j]? = some (Sl.mt d) → (∃ d0, env[j]? = some (Sl.mt d0)) ∧ σ'[j]? = σ[j]?
  br : ∀ (j : Nat) (d : D), env'[j]? = some (Sl.br d) → (∃ d0, env[j]? = some (Sl.br d0)) ∧ σ'[j]? = σ[j]?
  dom : ∀ a o, H a = some o → ∃ o', H' a = some o'

section
variable {F : Cf} {B : Addr → Prop} {env env1 env2 : En} {σ σ1 σ2 : L2.St} {H H1 H2 : Hp}
theorem EnvOk.slot (k : EnvOk F B env σ H) {i : Nat} {s : Sl} (h : env[i]? = some s) : ∃ ov, σ[i]? = some ov ∧ SlOk F B (Os B env σ) H s ov := by
  have hi : i < σ.length := by
    rw [← k.len]
    exact (List.getElem?_eq_some_iff.mp h).1
  exact ⟨σ[i], List.getElem?_eq_getElem hi, k.ok i s _ h (List.getElem?_eq_getElem hi)⟩
theorem EnvOk.mtB (k : EnvOk F B env σ H) {a : Addr} (h : MtAt env σ a) : B a := by
  obtain ⟨i, d, e1, e2⟩ := h
  obtain ⟨b, e, hb, _⟩ := k.ok i _ _ e1 e2
  cases e
  exact hb
theorem EnvOk.ownB (k : EnvOk F B env σ H) {a : Addr} (h : OwnAt env σ a) : ¬ B a := by
  obtain ⟨i, d, e1, e2⟩ := h
  obtain ⟨b, e, hb, _⟩ := k.ok i _ _ e1 e2
  cases e
  exact hb
theorem EnvOk.trkO (k : EnvOk F B env σ H) {a : Addr} (h : Os B env σ a) : ∃ o, H a = some o := by
  rcases h with h | ⟨i, d, e1, e2⟩
  · exact k.trk a h
  · obtain ⟨b, e, hb, w⟩ := k.ok i _ _ e1 e2
    cases e
    exact w.some
theorem EnvOk.newO (k : EnvOk F B env σ H) {p : Addr} (h : H p = none) : ¬ Os B env σ p := fun z => by
  obtain ⟨o, e⟩ := k.trkO z
  rw [h] at e
  cases e
theorem Ext.refl (env : En) (σ : L2.St) (H : Hp) : Ext env σ H env σ H := ⟨fun _ _ _ _ e => e, fun _ h => .inl h, fun _ d h => ⟨⟨d, h⟩, rfl⟩, fun _ d h => ⟨⟨d, h⟩, rfl⟩, fun _ o e => ⟨o, e⟩⟩
theorem Ext.trans (x : Ext env σ H env1 σ1 H1) (y : Ext env1 σ1 H1 env2 σ2 H2) : Ext env σ H env2 σ2 H2 where
  keep := fun a o n1 n2 e => by
    refine y.keep a o (fun z => ?_) (fun z => ?_) (x.keep a o n1 n2 e)
    · rcases x.own a z with z | z
      · exact n1 z
      · rw [z] at e
        cases e
    · obtain ⟨i, d, e1, e2⟩ := z
      obtain ⟨⟨d0, e3⟩, e4⟩ := x.mt i d e1
      exact n2 ⟨i, d0, e3, e4 ▸ e2⟩
  own := fun a h => by
    rcases y.own a h with z | z
    · exact x.own a z
    · refine .inr ?_
      cases q : H a with
      | none => rfl
      | some o =>
        obtain ⟨o', e'⟩ := x.dom a o q
        rw [z] at e'
        cases e'
  mt := fun j d h => by
    obtain ⟨⟨d0, h0⟩, e⟩ := y.mt j d h
    obtain ⟨h1, e1⟩ := x.mt j d0 h0
    exact ⟨h1, e.trans e1⟩
  br := fun j d h => by
    obtain ⟨⟨d0, h0⟩, e⟩ := y.br j d h
    obtain ⟨h1, e1⟩ := x.br j d0 h0
    exact ⟨h1, e.trans e1⟩
  dom := fun a o e => let ⟨o', e'⟩ := x.dom a o e; y.dom a o' e'
/-- what was known stays known -/
theorem Ext.stay (x : Ext env σ H env1 σ1 H1) (k : EnvOk F B env σ H) : ∀ a o, ¬ Os B env σ a → H a = some o → H1 a = some o ∧ ¬ Os B env1 σ1 a := fun a o n e => by
  refine ⟨x.keep a o (fun z => n (.inr z)) (fun z => n (.inl (k.mtB z))) e, fun z => ?_⟩
  rcases z with z | z
  · exact n (.inl z)
  · rcases x.own a z with z | z
    · exact n (.inr z)
    · rw [z] at e
      cases e
theorem Ext.den (x : Ext env σ H env1 σ1 H1) (k : EnvOk F B env σ H) {v : V} {d : D} (h : Den F (Os B env σ) H v d) : Den F (Os B env1 σ1) H1 v d := h.mono (x.stay k)
theorem Ext.dens (x : Ext env σ H env1 σ1 H1) (k : EnvOk F B env σ H) {v : List V} {d : List D} (h : Dens F (Os B env σ) H v d) : Dens F (Os B env1 σ1) H1 v d := h.mono (x.stay k)
/-- nothing but new objects -/
theorem Ext.new (hs : Same H H1) : Ext env σ H env σ H1 := ⟨fun a o _ _ e => hs a o e, fun _ h => .inl h, fun _ d h => ⟨⟨d, h⟩, rfl⟩, fun _ d h => ⟨⟨d, h⟩, rfl⟩, fun a o e => ⟨o, hs a o e⟩⟩
theorem SlOk.grow {O : Addr → Prop} (hs : Same H H1) : ∀ {s : Sl} {ov : Option V}, SlOk F B O H s ov → SlOk F B O H1 s ov
  | .un, _, _ => True.intro
  | .val _, _, ⟨v, e, h⟩ => ⟨v, e, h.grow hs⟩
  | .own _, _, ⟨a, e, n, h⟩ => ⟨a, e, n, h.grow hs⟩
  | .mt _, _, ⟨a, e, n, h⟩ => ⟨a, e, n, h.grow hs⟩
  | .br _, _, ⟨a, e, n, h⟩ => ⟨a, e, n, h.grow hs⟩
  | .ex _ _, _, ⟨a, dd, fs, e, n, o, x, ns, h⟩ => ⟨a, dd, fs, e, n, o, hs _ _ x, ns, h.grow hs⟩
theorem EnvOk.grow (k : EnvOk F B env σ H) (hs : Same H H1) : EnvOk F B env σ H1 :=
  ⟨k.len, fun i s ov h1 h2 => (k.ok i s ov h1 h2).grow hs, k.apart, fun a h => let ⟨o, e⟩ := k.trk a h; ⟨o, hs a o e⟩⟩
theorem SlOk.anti {O O' : Addr → Prop} (ho : ∀ a, O' a → O a) : ∀ {s : Sl} {ov : Option V}, SlOk F B O H s ov → SlOk F B O' H s ov
  | .un, _, _ => True.intro
  | .val _, _, ⟨v, e, h⟩ => ⟨v, e, h.anti ho⟩
  | .own _, _, ⟨a, e, n, h⟩ => ⟨a, e, n, h.anti ho⟩
  | .mt _, _, ⟨a, e, n, h⟩ => ⟨a, e, n, h.anti ho⟩
  | .br _, _, ⟨a, e, n, h⟩ => ⟨a, e, n, h.anti ho⟩
  | .ex _ _, _, ⟨a, dd, fs, e, n, o, x, ns, h⟩ => ⟨a, dd, fs, e, n, fun z => o (ho _ z), x, ns, h.anti ho⟩
theorem SlOk.mono {O O' : Addr → Prop} (hk : ∀ a o, ¬ O a → H a = some o → H1 a = some o ∧ ¬ O' a) : ∀ {s : Sl} {ov : Option V}, (∀ a d o, s.lent = some d → ov = some (.ref a) → H a = some o → H1 a = some o) → SlOk F B O H s ov → SlOk F B O' H1 s ov := by
  intro s ov hl h
  cases s with
  | un => trivial
  | val d =>
    obtain ⟨v, e, h⟩ := h
    exact ⟨v, e, h.mono hk⟩
  | own d =>
    obtain ⟨a, e, n, h⟩ := h
    obtain ⟨o, e0⟩ := h.some
    exact ⟨a, e, n, h.mono hk (hl a d o rfl e e0) e0⟩
  | mt d =>
    obtain ⟨a, e, n, h⟩ := h
    obtain ⟨o, e0⟩ := h.some
    exact ⟨a, e, n, h.mono hk (hl a d o rfl e e0) e0⟩
  | br d =>
    obtain ⟨a, e, n, h⟩ := h
    obtain ⟨o, e0⟩ := h.some
    exact ⟨a, e, n, h.mono hk (hl a d o rfl e e0) e0⟩
  | ex ns ds =>
    obtain ⟨a, dd, fs, e, n, o, x, q, h⟩ := h
    exact ⟨a, dd, fs, e, n, (hk _ _ o x).2, (hk _ _ o x).1, q, h.mono hk⟩
end
end Dl

/-! D1: what code does, as a function on slots; the judgements; names, constants, operators, tests. -/
namespace Dl
open PySem L2

inductive Out (α : Type) where
  | ok (a : α) (e : En)
  | exc (c : Str) (ns : List Str) (ds : List D) (e : En)
  | stuck
def Out.bind {α β : Type} : Out α → (α → En → Out β) → Out β
  | .ok a e, k => k a e
  | .exc c ns ds e, _ => .exc c ns ds e
  | .stuck, _ => .stuck
theorem bind_ok {α β : Type} (a : α) (e : En) (k : α → En → Out β) : (Out.ok a e).bind k = k a e := rfl
def lift {α : Type} (o : Option α) (e : En) : Out α := match o with | some a => .ok a e | none => .stuck
theorem lift_some {α : Type} (a : α) (e : En) : lift (some a) e = .ok a e := rfl

/-- the own dict of an exception that flies -/
def ExcAt (F : Cf) (O : Addr → Prop) (H : Hp) (dx : Option Addr) (ns : List Str) (ds : List D) : Prop :=
  (ns = [] ∧ ds = [] ∧ dx = none) ∨ ∃ a fs, dx = some a ∧ ¬ O a ∧ H a = some (.xd fs) ∧ fs.map (·.1) = ns ∧ Dens F O H (fs.map (·.2)) ds

section
variable (F : Cf) (W : WX) (B : Addr → Prop) (σ : L2.St)
def Post {α : Type} (env : En) (H : Hp) (K : α → En → Hp → Prop) : Out α → Prop
  | .ok a e' => ∀ H', Ext env σ H e' σ H' → EnvOk F B e' σ H' → K a e' H'
  | .exc c ns ds e' => ∀ dx H', Ext env σ H e' σ H' → EnvOk F B e' σ H' → ExcAt F (Os B e' σ) H' dx ns ds → W (.ref (F.CE c)) dx σ H'
  | .stuck => False
end
section
variable {F : Cf} {W : WX} {B : Addr → Prop} {σ : L2.St} {env e1 : En} {H H1 : Hp} {α β : Type} {K K' : α → En → Hp → Prop} {o : Out α}
theorem Post.imp (h : Post F W B σ env H K o) (f : ∀ a e' H', Ext env σ H e' σ H' → EnvOk F B e' σ H' → K a e' H' → K' a e' H') : Post F W B σ env H K' o := by
  cases o with
  | ok a e => exact fun H' x k => f _ _ _ x k (h H' x k)
  | exc c ns ds e => exact h
  | stuck => exact h
theorem Post.ext (h : Post F W B σ env H K o) (x : Ext env σ H e1 σ H1) : Post F W B σ e1 H1 K o := by
  cases o with
  | ok a e => exact fun H' y k => h H' (x.trans y) k
  | exc c ns ds e => exact fun dx H' y k => h dx H' (x.trans y) k
  | stuck => exact h
theorem Post.split {k : α → En → Out β} {K : β → En → Hp → Prop} (h : Post F W B σ env H K (o.bind k)) : Post F W B σ env H (fun a e1 H1 => Post F W B σ e1 H1 K (k a e1)) o := by
  cases o with
  | ok a e =>
    intro H' x k'
    exact Post.ext (o := k a e) h x
  | exc c ns ds e => exact h
  | stuck => exact h
theorem Post.lift {oa : Option α} {e : En} (k : EnvOk F B env σ H) (h : Post F W B σ env H K (lift oa env)) : ∃ a, oa = some a ∧ K a env H := by
  cases oa with
  | none => exact h.elim
  | some a => exact ⟨a, rfl, h H (Ext.refl _ _ _) k⟩
end

abbrev ESem := En → Out D
abbrev BSem := En → Out Bool
abbrev ASem := En → Out (List D)
section
variable (F : Cf) (W : WX)
def T (f : ESem) : TE := fun σ H Q => ∃ B env, EnvOk F B env σ H ∧ Post F W B σ env H (fun d e' H' => ∀ v, Den F (Os B e' σ) H' v d → Q v H') (f env)
def TB (f : BSem) : TT := fun σ H Q => ∃ B env, EnvOk F B env σ H ∧ Post F W B σ env H (fun b _ H' => Q b H') (f env)
def TAs (f : ASem) : TA := fun σ H Q => ∃ B env, EnvOk F B env σ H ∧ Post F W B σ env H (fun ds e' H' => ∀ vs, Dens F (Os B e' σ) H' vs ds → Q vs H') (f env)
end
/-- the judgements -/
abbrev DE (F : Cf) (W : WX) (X : Cx) (e : Expr) (f : ESem) : Prop := PE X e (T F W f)
abbrev DT (F : Cf) (W : WX) (X : Cx) (e : Expr) (f : BSem) : Prop := PT X e (TB F W f)
abbrev DA (F : Cf) (W : WX) (X : Cx) (es : List Expr) (f : ASem) : Prop := PA X es (TAs F W f)
section
variable {F : Cf} {W : WX} {X : Cx} {e a b c : Expr} {es : List Expr} {te ta tb : TE} {tt : TT} {f fa fb : ESem} {g : BSem} {h : ASem} {pos : Pos}
theorem DE.of (p : PE X e te) (m : ∀ σ H Q, T F W f σ H Q → te σ H Q) : DE F W X e f := ⟨fun pins s σ H Q I q => p.run pins s σ H Q I (m _ _ _ q)⟩
theorem DT.of (p : PT X e tt) (m : ∀ σ H Q, TB F W g σ H Q → tt σ H Q) : DT F W X e g := ⟨fun pins s σ H Q I q => p.run pins s σ H Q I (m _ _ _ q)⟩
theorem DA.of {ta : TA} (p : PA X es ta) (m : ∀ σ H Q, TAs F W h σ H Q → ta σ H Q) : DA F W X es h := ⟨fun pos pins s σ H Q I q => p.run pos pins s σ H Q I (m _ _ _ q)⟩

/-! ### names, constants -/
/-- a dict that is given away is not changed any more -/
def lockD : D → D
  | .dct ks ds => .dcl ks ds
  | d => d
def eVar (i : Nat) : ESem := fun env => match env[i]? with
  | some (.val d) => .ok d env
  | some (.own d) => .ok (lockD d) (env.set i (.val (lockD d)))
  | _ => .stuck
def eC (d : D) : ESem := fun env => .ok d env

/-- an own object is given away, changed to o for the last time: from now on it is data -/
theorem freeze {B : Addr → Prop} {env : En} {σ : L2.St} {H : Hp} {i : Nat} {d : D} (k : EnvOk F B env σ H) (h : env[i]? = some (.own d)) :
    ∃ a, σ[i]? = some (some (V.ref a)) ∧ Bod F (Os B env σ) H a d ∧ ∀ (o : HO) (d' : D), (∀ O, (∀ b u, ¬ Os B env σ b → H b = some u → (upd H a o) b = some u ∧ ¬ O b) → Bod F O (upd H a o) a d') →
      EnvOk F B (env.set i (.val d')) σ (upd H a o) ∧ Ext env σ H (env.set i (.val d')) σ (upd H a o) ∧ Den F (Os B (env.set i (.val d')) σ) (upd H a o) (.ref a) d' := by
  have hi : i < env.length := (List.getElem?_eq_some_iff.mp h).1
  obtain ⟨ov, e1, a, rfl, nB, w⟩ := k.slot h
  refine ⟨a, e1, w, fun o d' wo => ?_⟩
  have hset : ∀ (j : Nat), (env.set i (.val d'))[j]? = if i = j then some (.val d') else env[j]? := fun j => by
    rw [List.getElem?_set]
    by_cases q : i = j
    · rw [if_pos q, if_pos q, if_pos (q ▸ hi)]
    · rw [if_neg q, if_neg q]
  have own' : ∀ b, OwnAt (env.set i (.val d')) σ b → OwnAt env σ b ∧ b ≠ a := fun b ⟨j, dj, h1, h2⟩ => by
    rw [hset] at h1
    by_cases q : i = j
    · rw [if_pos q] at h1
      cases h1
    · rw [if_neg q] at h1
      refine ⟨⟨j, dj, h1, h2⟩, fun z => ?_⟩
      subst z
      exact k.apart i j _ _ _ _ b q h h1 rfl rfl e1 h2
  have ao : Os B env σ a := .inr ⟨i, d, h, e1⟩
  have less : ∀ b, Os B (env.set i (.val d')) σ b → Os B env σ b := fun b z => z.elim .inl fun z => .inr (own' b z).1
  have nO : ¬ Os B (env.set i (.val d')) σ a := fun z => z.elim nB fun z => (own' a z).2 rfl
  have hk : ∀ b u, ¬ Os B env σ b → H b = some u → (upd H a o) b = some u ∧ ¬ Os B (env.set i (.val d')) σ b := fun b u n e => ⟨by rw [upd_ne (fun z => n (by rw [z]; exact ao))]; exact e, fun z => n (less b z)⟩
  have den : Den F (Os B (env.set i (.val d')) σ) (upd H a o) (.ref a) d' := .ob (wo _ hk) nO
  have dom : ∀ b u, H b = some u → ∃ u', (upd H a o) b = some u' := fun b u e => by
    by_cases q : b = a
    · exact ⟨o, by rw [q]; exact upd_same⟩
    · exact ⟨u, by rw [upd_ne q]; exact e⟩
  refine ⟨⟨by rw [List.length_set]; exact k.len, fun j s ov h1 h2 => ?_, fun i1 j1 si sj di dj b hne h1 h2 l1 l2 s1 s2 => ?_, fun b hb => let ⟨u, e⟩ := k.trk b hb; dom b u e⟩, ⟨fun b u n1 n2 e => ?_, fun b z => .inl (own' b z).1, fun j dj h1 => ?_, fun j dj h1 => ?_, dom⟩, den⟩
  · rw [hset] at h1
    by_cases q : i = j
    · subst q
      rw [if_pos rfl] at h1
      cases h1
      rw [e1] at h2
      cases h2
      exact ⟨_, rfl, den⟩
    · rw [if_neg q] at h1
      refine (k.ok j s ov h1 h2).mono hk fun b ds u hl e3 e4 => ?_
      subst e3
      rw [upd_ne (fun z => ?_)]
      · exact e4
      · subst z
        exact k.apart i j _ _ _ _ b q h h1 rfl hl e1 h2
  · rw [hset] at h1 h2
    by_cases q1 : i = i1
    · rw [if_pos q1] at h1
      cases h1
      cases l1
    · rw [if_neg q1] at h1
      by_cases q2 : i = j1
      · rw [if_pos q2] at h2
        cases h2
        cases l2
      · rw [if_neg q2] at h2
        exact k.apart i1 j1 si sj di dj b hne h1 h2 l1 l2 s1 s2
  · rw [upd_ne (fun z => n1 ⟨i, d, h, by rw [z]; exact e1⟩)]
    exact e
  · rw [hset] at h1
    by_cases q : i = j
    · rw [if_pos q] at h1
      cases h1
    · rw [if_neg q] at h1
      exact ⟨⟨dj, h1⟩, rfl⟩
  · rw [hset] at h1
    by_cases q : i = j
    · rw [if_pos q] at h1
      cases h1
    · rw [if_neg q] at h1
      exact ⟨⟨dj, h1⟩, rfl⟩
theorem upd_self {H : Hp} {a : Addr} {o : HO} (h : H a = some o) : upd H a o = H := by
  funext b
  by_cases q : b = a
  · rw [q, upd_same, h]
  · rw [upd_ne q]
/-- the name's value, its dict locked if it was ours -/
theorem t_var {i : Nat} {σ : L2.St} {H : Hp} {Q : VK} (h : T F W (eVar i) σ H Q) : tVar i σ H Q ∨ ∃ a kvs, σ[i]? = some (some (V.ref a)) ∧ H a = some (.dK kvs) ∧ ∀ od, Q (.ref a) (upd H a (.frz od (.dK kvs))) := by
  obtain ⟨B, env, k, p⟩ := h
  unfold eVar at p
  split at p
  · rename_i d he
    obtain ⟨ov, e1, v, rfl, w⟩ := k.slot he
    exact .inl ⟨v, e1, p H (Ext.refl _ _ _) k v w⟩
  · rename_i d he
    obtain ⟨a, e1, w, z⟩ := freeze k he
    have same : lockD d = d → tVar i σ H Q := fun el => by
      rw [el] at p
      obtain ⟨o, ho⟩ := w.some
      obtain ⟨k1, x1, w1⟩ := z o d fun O hk => w.mono hk upd_same ho
      rw [upd_self ho] at k1 x1 w1
      exact ⟨.ref a, e1, p H x1 k1 _ w1⟩
    cases d with
    | dct ks ds =>
      cases w with
      | @dct _ kvs _ _ ha hk dv =>
        refine .inr ⟨a, kvs, e1, ha, fun od => ?_⟩
        obtain ⟨k1, x1, w1⟩ := z (.frz od (.dK kvs)) (.dcl ks ds) fun O hk' => .dcl upd_same hk (dv.mono hk')
        exact p _ x1 k1 _ w1
    | _ => exact .inl (same rfl)
  · exact p.elim
theorem dv (i : Nat) {x : Str} (hN : X.N[i]? = some x := by rfl) (hv : Vis X.env.scope x := by first | exact Or.inl rfl | exact Or.inr (Or.inl rfl) | exact Or.inr (Or.inr rfl)) (hd : (x == ("__debug__" : Str)) = false := by decide)
    (hcd : (x == ("__classdict__" : Str)) = false := by decide) : DE F W X (.Name x pos) (eVar i) := ⟨fun pins s σ H Q I h => by
  rcases t_var h with h | ⟨a, kvs, e1, ha, q⟩
  · exact (pe_var hN hv hd hcd).run pins s σ H Q I h
  · obtain ⟨od, I1⟩ := I.lock ha True.intro
    exact (pe_var hN hv hd hcd).run pins s σ _ Q I1 ⟨_, e1, q od⟩⟩
theorem t_c {v : V} {d : D} {σ : L2.St} {H : Hp} {Q : VK} (hv : ∀ O, Den F O H v d) (h : T F W (eC d) σ H Q) : tC v σ H Q := by
  obtain ⟨B, env, k, p⟩ := h
  exact p H (Ext.refl _ _ _) k v (hv _)
theorem d_int {i j} : DE F W X (.Constant (.int i) j pos) (eC (.int i)) := .of pe_int fun _ _ _ h => t_c (fun _ => .int i) h
theorem d_bl {b j} : DE F W X (.Constant (.bool b) j pos) (eC (.bl b)) := .of pe_bl fun _ _ _ h => t_c (fun _ => .bl b) h
theorem d_non {j} : DE F W X (.Constant .none j pos) (eC .non) := .of pe_non fun _ _ _ h => t_c (fun _ => .non) h
theorem d_str {x j} : DE F W X (.Constant (.str x) j pos) (eC (.str x)) := .of pe_str fun _ _ _ h => t_c (fun _ => .str x) h

/-! ### operators on two values -/
/-- what a two-place reading does with data -/
def OkR (F : Cf) (r : R2) (g : D → D → Option D) : Prop := ∀ (O : Addr → Prop) (H : Hp) (x y : V) (dx dy dz : D) (Q : VK), (∀ a, O a → ∃ o, H a = some o) → Den F O H x dx → Den F O H y dy → g dx dy = some dz →
  (∀ v H', Same H H' → Den F O H' v dz → Q v H') → r x y H Q
def OkU (F : Cf) (r : V → Hp → VK → Prop) (g : D → Option D) : Prop := ∀ (O : Addr → Prop) (H : Hp) (x : V) (dx dz : D) (Q : VK), (∀ a, O a → ∃ o, H a = some o) → Den F O H x dx → g dx = some dz →
  (∀ v H', Same H H' → Den F O H' v dz → Q v H') → r x H Q
def OkC (F : Cf) (r : List V → Hp → VK → Prop) (g : List D → Option D) : Prop := ∀ (O : Addr → Prop) (H : Hp) (xs : List V) (ds : List D) (dz : D) (Q : VK), (∀ a, O a → ∃ o, H a = some o) → Dens F O H xs ds → g ds = some dz →
  (∀ v H', Same H H' → Den F O H' v dz → Q v H') → r xs H Q
def eBin (g : D → D → Option D) (fa fb : ESem) : ESem := fun env => (fa env).bind fun x e1 => (fb e1).bind fun y e2 => lift (g x y) e2
def eUn (g : D → Option D) (fa : ESem) : ESem := fun env => (fa env).bind fun x e1 => lift (g x) e1
theorem t_op {r : R2} {g : D → D → Option D} (hr : OkR F r g) {σ : L2.St} {H : Hp} {Q : VK} (h : T F W (eBin g fa fb) σ H Q) : tOp r (T F W fa) (T F W fb) σ H Q := by
  obtain ⟨B, env, k, p⟩ := h
  refine ⟨B, env, k, p.split.imp fun x e1 H1 x1 k1 p1 v dv => ⟨B, e1, k1, p1.split.imp fun y e2 H2 x2 k2 p2 u du => ?_⟩⟩
  obtain ⟨z, hz, q⟩ := Post.lift (e := e2) k2 p2
  exact hr _ H2 v u x y z Q (fun a => k2.trkO) (x2.den k1 dv) du hz fun v' H' hs w => by
    have p3 : Post F W B σ e2 H2 (fun d e' H' => ∀ v, Den F (Os B e' σ) H' v d → Q v H') (lift (g x y) e2) := p2
    rw [hz] at p3
    exact p3 H' (Ext.new hs) (k2.grow hs) v' w
theorem t_un {r : V → Hp → VK → Prop} {g : D → Option D} (hr : OkU F r g) {σ : L2.St} {H : Hp} {Q : VK} (h : T F W (eUn g fa) σ H Q) : tUn r (T F W fa) σ H Q := by
  obtain ⟨B, env, k, p⟩ := h
  refine ⟨B, env, k, p.split.imp fun x e1 H1 x1 k1 p1 v dv => ?_⟩
  obtain ⟨z, hz, q⟩ := Post.lift (e := e1) k1 p1
  exact hr _ H1 v x z Q (fun a => k1.trkO) dv hz fun v' H' hs w => by
    have p3 : Post F W B σ e1 H1 (fun d e' H' => ∀ v, Den F (Os B e' σ) H' v d → Q v H') (lift (g x) e1) := p1
    rw [hz] at p3
    exact p3 H' (Ext.new hs) (k1.grow hs) v' w
theorem d_op {op : Operator} {r : R2} {g : D → D → Option D} (ho : OpR X (binaryOp op) r) (hr : OkR F r g) (ha : DE F W X a fa) (hb : DE F W X b fb) : DE F W X (.BinOp a op b pos) (eBin g fa fb) := .of (pe_op ho ha hb) fun _ _ _ h => t_op hr h
theorem d_un {op : UnaryOp} {r : V → Hp → VK → Prop} {g : D → Option D} (ho : UnR X (unaryOp op) r) (hr : OkU F r g) (ha : DE F W X a fa) : DE F W X (.UnaryOp op a pos) (eUn g fa) := .of (pe_un ho ha) fun _ _ _ h => t_un hr h
theorem d_cmp {op : CmpOp} {r : R2} {g : D → D → Option D} (ho : OpR X (compareOp op) r) (hr : OkR F r g) (ha : DE F W X a fa) (hb : DE F W X b fb) (hm : behindInMarks op b = false) : DE F W X (.Compare a [op] [b] pos) (eBin g fa fb) := .of (pe_cmpR ho ha hb hm) fun _ _ _ h => t_op hr h

/-! ### tests -/
def truth : D → Option Bool
  | .bl b => some b
  | .non => some false
  | .int i => some (i != 0)
  | .str x => if x.length ≤ sizeLine then some (x.length != 0) else none
  | .lst ds => some (!ds.isEmpty)
  | .tup ds => some (!ds.isEmpty)
  | .dct ks _ => some (!ks.isEmpty)
  | _ => none
/-- an expression as a test -/
def bE (f : ESem) : BSem := fun env => (f env).bind fun d e1 => lift (truth d) e1
end
end Dl

/-! D2: tests, and, or, not; statements, loops. -/
namespace Dl
open PySem L2

section
variable {F : Cf} {W : WX} {X : Cx} {e a b c : Expr} {rest es : List Expr} {f fa fb fc : ESem} {g ga gb : BSem} {pos : Pos}
/-- the truth of a value -/
theorem tru_of {O : Addr → Prop} {H : Hp} {v : V} {d : D} {k : Bool} (h : Den F O H v d) (t : truth d = some k) : TruV F.K v H k := by
  cases h with
  | non => cases t; rfl
  | bl b => cases t; rfl
  | int i => cases t; rfl
  | str x =>
    have t : (if x.length ≤ sizeLine then some (x.length != 0) else none) = some k := t
    by_cases hx : x.length ≤ sizeLine
    · rw [if_pos hx] at t
      cases t
      refine ⟨hx, ?_⟩
      by_cases h0 : x.length = 0
      · rw [h0]
        rfl
      · rw [bne_iff_ne.mpr h0]
        exact (bne_iff_ne.mpr (show (x.length : Int) ≠ 0 by omega)).symm
    · rw [if_neg hx] at t
      cases t
  | ob w n =>
    cases w with
    | tup e1 ds =>
      cases t
      refine .inr (.inl ⟨_, .inl (.inl e1), ?_⟩)
      cases ds <;> rfl
    | lst e1 ds =>
      cases t
      refine .inl ⟨_, .inl (.inl e1), ?_⟩
      cases ds <;> rfl
    | lstz e1 ds => cases t
    | dct e1 k ds =>
      cases t
      refine .inr (.inr ⟨_, e1, ?_⟩)
      subst k
      cases ‹List (Key × V)› <;> rfl
    | dcl e1 k ds => cases t
    | ins e1 k ds => cases t
  | tupK h ds =>
    cases t
    refine .inr (.inl ⟨_, h H, ?_⟩)
    cases ds <;> rfl
  | lstK h ds => cases t
theorem t_tru {σ : L2.St} {H : Hp} {Q : Bool → Hp → Prop} (h : TB F W (bE f) σ H Q) : T F W f σ H fun x H' => ∃ k, TruV F.K x H' k ∧ Q k H' := by
  obtain ⟨B, env, k, p⟩ := h
  refine ⟨B, env, k, p.split.imp fun d e1 H1 x1 k1 p1 v dv => ?_⟩
  obtain ⟨z, hz, q⟩ := Post.lift (e := e1) k1 p1
  exact ⟨z, tru_of dv hz, q⟩
/-- any expression as a test -/
theorem dt_e (hK : X.K = F.K) (ha : DE F W X a f) (he : ∀ whole, isTrue a X.env whole = (do let v ← whole; standAt a.pos; holding [v] (truthy v)) := by intro _; rfl) : DT F W X a (bE f) :=
  .of (pt_truth ha he) fun _ _ _ h => by
    rw [hK]
    exact t_tru h
def bNot (g : BSem) : BSem := fun env => (g env).bind fun b e1 => .ok (!b) e1
theorem dt_not (ha : DT F W X a g) : DT F W X (.UnaryOp .Not a pos) (bNot g) := .of (pt_not ha) fun σ H Q ⟨B, env, k, p⟩ =>
  ⟨B, env, k, p.split.imp fun d e1 H1 x1 k1 p1 => p1 H1 (Ext.refl _ _ _) k1⟩
def bAnd (ga gb : BSem) : BSem := fun env => (ga env).bind fun b e1 => if b = true then gb e1 else .ok false e1
def bOr (ga gb : BSem) : BSem := fun env => (ga env).bind fun b e1 => if b = true then .ok true e1 else gb e1
/-- chains of and, or as tests -/
abbrev DW (F : Cf) (W : WX) (X : Cx) (e : Expr) (f : BSem) : Prop := PW X e (TB F W f)
theorem DW.of {tt : TT} (p : PW X e tt) (m : ∀ σ H Q, TB F W g σ H Q → tt σ H Q) : DW F W X e g := ⟨fun wh pins s σ H Q I q => p.run wh pins s σ H Q I (m _ _ _ q)⟩
theorem dw_and1 (ha : DT F W X a g) : DW F W X (.BoolOp .And [a] pos) g := pw_and1 ha
theorem dw_or1 (ha : DT F W X a g) : DW F W X (.BoolOp .Or [a] pos) g := pw_or1 ha
theorem dw_and (ha : DT F W X a ga) (hb : DW F W X (.BoolOp .And (b :: rest) pos) gb) : DW F W X (.BoolOp .And (a :: b :: rest) pos) (bAnd ga gb) := .of (pw_and ha hb) fun σ H Q ⟨B, env, k, p⟩ =>
  ⟨B, env, k, p.split.imp fun d e1 H1 x1 k1 p1 => by
    cases d with
    | true => exact ⟨B, e1, k1, p1⟩
    | false => exact p1 H1 (Ext.refl _ _ _) k1⟩
theorem dw_or (ha : DT F W X a ga) (hb : DW F W X (.BoolOp .Or (b :: rest) pos) gb) : DW F W X (.BoolOp .Or (a :: b :: rest) pos) (bOr ga gb) := .of (pw_or ha hb) fun σ H Q ⟨B, env, k, p⟩ =>
  ⟨B, env, k, p.split.imp fun d e1 H1 x1 k1 p1 => by
    cases d with
    | false => exact ⟨B, e1, k1, p1⟩
    | true => exact p1 H1 (Ext.refl _ _ _) k1⟩
theorem dt_w (h : DW F W X e g) : DT F W X e g := h.pt
/-- .. as values -/
def eAnd (fa fb : ESem) : ESem := fun env => (fa env).bind fun x e1 => (lift (truth x) e1).bind fun b e2 => if b = true then fb e2 else .ok x e2
def eOr (fa fb : ESem) : ESem := fun env => (fa env).bind fun x e1 => (lift (truth x) e1).bind fun b e2 => if b = true then .ok x e2 else fb e2
def eNot (fa : ESem) : ESem := fun env => (fa env).bind fun x e1 => (lift (truth x) e1).bind fun b e2 => .ok (.bl !b) e2
theorem de_one {op} (h : DE F W X a f) : DE F W X (.BoolOp op [a] pos) f := pe_one h
theorem de_and (hK : X.K = F.K) (ha : DE F W X a fa) (hb : DE F W X (.BoolOp .And (b :: rest) pos) fb) : DE F W X (.BoolOp .And (a :: b :: rest) pos) (eAnd fa fb) := .of (pe_andT ha hb) fun σ H Q ⟨B, env, k, p⟩ => by
  rw [hK]
  refine ⟨B, env, k, p.split.imp fun d e1 H1 x1 k1 p1 v dv => ?_⟩
  obtain ⟨z, hz, q⟩ := Post.lift (e := e1) k1 p1.split
  refine ⟨z, tru_of dv hz, ?_⟩
  cases z with
  | true => exact ⟨B, e1, k1, q⟩
  | false => exact q H1 (Ext.refl _ _ _) k1 v dv
theorem de_or (hK : X.K = F.K) (ha : DE F W X a fa) (hb : DE F W X (.BoolOp .Or (b :: rest) pos) fb) : DE F W X (.BoolOp .Or (a :: b :: rest) pos) (eOr fa fb) := .of (pe_orT ha hb) fun σ H Q ⟨B, env, k, p⟩ => by
  rw [hK]
  refine ⟨B, env, k, p.split.imp fun d e1 H1 x1 k1 p1 v dv => ?_⟩
  obtain ⟨z, hz, q⟩ := Post.lift (e := e1) k1 p1.split
  refine ⟨z, tru_of dv hz, ?_⟩
  cases z with
  | false => exact ⟨B, e1, k1, q⟩
  | true => exact q H1 (Ext.refl _ _ _) k1 v dv
theorem de_not (hK : X.K = F.K) (ha : DE F W X a fa) : DE F W X (.UnaryOp .Not a pos) (eNot fa) := .of (pe_notT ha) fun σ H Q ⟨B, env, k, p⟩ => by
  rw [hK]
  refine ⟨B, env, k, p.split.imp fun d e1 H1 x1 k1 p1 v dv => ?_⟩
  obtain ⟨z, hz, q⟩ := Post.lift (e := e1) k1 p1.split
  exact ⟨z, tru_of dv hz, q H1 (Ext.refl _ _ _) k1 _ (.bl _)⟩
def eIf (gc : BSem) (fa fb : ESem) : ESem := fun env => (gc env).bind fun b e1 => if b = true then fa e1 else fb e1
theorem de_if (hc : DT F W X c g) (ha : DE F W X a fa) (hb : DE F W X b fb) : DE F W X (.IfExp c a b pos) (eIf g fa fb) := .of (pe_ifExp hc ha hb) fun σ H Q ⟨B, env, k, p⟩ =>
  ⟨B, env, k, p.split.imp fun d e1 H1 x1 k1 p1 => by
    cases d with
    | true => exact ⟨B, e1, k1, p1⟩
    | false => exact ⟨B, e1, k1, p1⟩⟩
/-- a < b < c -/
def eChain (g g' : D → D → Option D) (fa fb fc : ESem) : ESem := fun env => (fa env).bind fun x e1 => (fb e1).bind fun y e2 => (lift (g x y) e2).bind fun z e3 => match z with
  | .bl true => (fc e3).bind fun w e4 => lift (g' y w) e4
  | .bl false => .ok (.bl false) e3
  | _ => .stuck
theorem t_lift {B : Addr → Prop} {σ : L2.St} {env : En} {H : Hp} {Q : VK} {o : Option D} {P : D → Prop} (k : EnvOk F B env σ H) (p : Post F W B σ env H (fun d e' H' => ∀ v, Den F (Os B e' σ) H' v d → Q v H') (lift o env)) :
    ∃ z, o = some z ∧ ∀ v H', Same H H' → Den F (Os B env σ) H' v z → Q v H' := by
  obtain ⟨z, hz, q⟩ := Post.lift (e := env) k p
  refine ⟨z, hz, fun v H' hs w => ?_⟩
  rw [hz] at p
  exact p H' (Ext.new hs) (k.grow hs) v w
theorem de_chain {op op' : CmpOp} {r r' : R2} {g g' : D → D → Option D} (ho : OpR X (compareOp op) r) (ho' : OpR X (compareOp op') r') (hr : OkR F r g) (hr' : OkR F r' g') (ha : DE F W X a fa) (hb : DE F W X b fb) (hc : DE F W X c fc)
    (hm : lastMarks [op, op'] [b, c] = false) : DE F W X (.Compare a [op, op'] [b, c] pos) (eChain g g' fa fb fc) := .of (pe_chain ho ho' ha hb hc hm) fun σ H Q ⟨B, env, k, p⟩ => by
  refine ⟨B, env, k, p.split.imp fun x e1 H1 x1 k1 p1 v dv => ⟨B, e1, k1, p1.split.imp fun y e2 H2 x2 k2 p2 u du => ?_⟩⟩
  obtain ⟨z, hz, q⟩ := Post.lift (e := e2) k2 p2.split
  refine hr _ H2 v u x y z _ (fun a => k2.trkO) (x2.den k1 dv) du hz fun v' H3 hs w => ?_
  have k3 := k2.grow hs
  have p3 : Post F W B σ e2 H3 _ _ := Post.ext (o := match z with
    | .bl true => (fc e2).bind fun w e4 => lift (g' y w) e4
    | .bl false => .ok (.bl false) e2
    | _ => .stuck) q (Ext.new hs)
  cases z with
  | bl c =>
    have ev : v' = .bl c := by
      cases w with
      | bl c => rfl
      | ob w' n => cases w'
    subst ev
    refine ⟨c, rfl, ?_⟩
    cases c with
    | false => exact p3 H3 (Ext.refl _ _ _) k3 _ (.bl false)
    | true =>
      refine ⟨B, e2, k3, Post.imp (Post.split p3) fun w e4 H4 x4 k4 p4 v4 dv4 => ?_⟩
      obtain ⟨z4, hz4, q4⟩ := t_lift (P := fun _ => True) k4 p4
      exact hr' _ H4 u v4 y w z4 Q (fun a => k4.trkO) (x4.den k3 (du.grow hs)) dv4 hz4 q4
  | _ => exact False.elim p3

/-! ### argument lists, displays -/
def aNil : ASem := fun env => .ok [] env
def aCons (f : ESem) (h : ASem) : ASem := fun env => (f env).bind fun x e1 => (h e1).bind fun xs e2 => .ok (x :: xs) e2
theorem da_nil : DA F W X [] aNil := .of pa_nil fun σ H Q ⟨B, env, k, p⟩ => p H (Ext.refl _ _ _) k [] .nil
theorem da_cons {h : ASem} (ha : DE F W X e f) (hr : DA F W X es h) (hs : starEach (e :: es) X.env = (false, eval e X.env) :: starEach es X.env := by rfl) : DA F W X (e :: es) (aCons f h) := .of (pa_cons ha hr hs) fun σ H Q ⟨B, env, k, p⟩ =>
  ⟨B, env, k, p.split.imp fun x e1 H1 x1 k1 p1 v dv => ⟨B, e1, k1, p1.split.imp fun xs e2 H2 x2 k2 p2 vs dvs => p2 H2 (Ext.refl _ _ _) k2 (v :: vs) (.cons (x2.den k1 dv) dvs)⟩⟩
/-- the most items of a display -/
def small {α : Type} (ds : List α) : Bool := decide (ds.length ≤ 1000000)
theorem small_line {ds : List D} {vs : List V} {O : Addr → Prop} {H : Hp} (h : small ds = true) (r : Dens F O H vs ds) : vs.length ≤ sizeLine := by
  rw [r.length]
  exact Nat.le_trans (of_decide_eq_true h) (by decide)
def eTup (h : ASem) : ESem := fun env => (h env).bind fun ds e1 => if small ds = true then .ok (.tup ds) e1 else .stuck
def eLst (h : ASem) : ESem := fun env => (h env).bind fun ds e1 => if small ds = true then .ok (.lst ds) e1 else .stuck
theorem new_den {B : Addr → Prop} {σ : L2.St} {env : En} {H : Hp} {p : Addr} {o : HO} {d : D} (k : EnvOk F B env σ H) (hp : H p = none) (w : Bod F (Os B env σ) (upd H p o) p d) : Den F (Os B env σ) (upd H p o) (.ref p) d := .ob w (k.newO hp)
theorem de_tup {h : ASem} {x1} (ha : DA F W X es h) : DE F W X (.Tuple es x1 pos) (eTup h) := .of (pe_tup ha) fun σ H Q ⟨B, env, k, p⟩ =>
  ⟨B, env, k, p.split.imp fun ds e1 H1 x1 k1 p1 vs dvs => by
    by_cases hs : small ds = true
    · simp only [hs, if_true] at p1
      refine ⟨small_line hs dvs, fun q hq => ?_⟩
      have sm : Same H1 (upd H1 q (.tup vs)) := same_new hq
      exact p1 _ (Ext.new sm) (k1.grow sm) _ (new_den k1 hq (.tup upd_same (dvs.grow sm)))
    · simp only [if_neg hs] at p1
      exact p1.elim⟩
theorem de_lst {h : ASem} (ha : DA F W X es h) : DE F W X (.List es pos) (eLst h) := .of (pe_lst ha) fun σ H Q ⟨B, env, k, p⟩ =>
  ⟨B, env, k, p.split.imp fun ds e1 H1 x1 k1 p1 vs dvs => by
    by_cases hs : small ds = true
    · simp only [hs, if_true] at p1
      refine ⟨small_line hs dvs, fun q hq => ?_⟩
      have sm : Same H1 (upd H1 q (.lst vs)) := same_new hq
      exact p1 _ (Ext.new sm) (k1.grow sm) _ (new_den k1 hq (.lst upd_same (dvs.grow sm)))
    · simp only [if_neg hs] at p1
      exact p1.elim⟩
end
end Dl

/-! D3: statements, loops. -/
namespace Dl
open PySem L2

inductive SOut where
  | nx (e : En) | rt (d : D) (e : En) | bk (e : En) | ct (e : En)
  | exc (c : Str) (ns : List Str) (ds : List D) (e : En)
  | stuck
abbrev SSem := En → SOut
def Out.then {α : Type} : Out α → (α → En → SOut) → SOut
  | .ok a e, k => k a e
  | .exc c ns ds e, _ => .exc c ns ds e
  | .stuck, _ => .stuck
theorem then_ok {α : Type} (a : α) (e : En) (k : α → En → SOut) : (Out.ok a e).then k = k a e := rfl
def SOut.seq : SOut → (En → SOut) → SOut
  | .nx e, k => k e
  | o, _ => o

section
variable (F : Cf) (W : WX) (B : Addr → Prop)
def PostS (env : En) (σ : L2.St) (H : Hp) (Dn : Ends) : SOut → Prop
  | .nx e' => ∀ σ' H', Ext env σ H e' σ' H' → EnvOk F B e' σ' H' → Dn.nx σ' H'
  | .rt d e' => ∀ σ' H' v, Ext env σ H e' σ' H' → EnvOk F B e' σ' H' → Den F (Os B e' σ') H' v d → Dn.rt v H'
  | .bk e' => ∀ σ' H', Ext env σ H e' σ' H' → EnvOk F B e' σ' H' → Dn.bk σ' H'
  | .ct e' => ∀ σ' H', Ext env σ H e' σ' H' → EnvOk F B e' σ' H' → Dn.ct σ' H'
  | .exc c ns ds e' => ∀ dx σ' H', Ext env σ H e' σ' H' → EnvOk F B e' σ' H' → ExcAt F (Os B e' σ') H' dx ns ds → W (.ref (F.CE c)) dx σ' H'
  | .stuck => False
def TS' (f : SSem) : TS := fun Dn σ H => ∃ B env, EnvOk F B env σ H ∧ PostS F W B env σ H Dn (f env)
end
abbrev DS (F : Cf) (W : WX) (X : Cx) (st : Stmt) (f : SSem) : Prop := PS X st (TS' F W f)
abbrev DSs (F : Cf) (W : WX) (X : Cx) (sts : List Stmt) (f : SSem) : Prop := PSs X sts (TS' F W f)

section
variable {F : Cf} {W : WX} {B : Addr → Prop} {σ σ1 : L2.St} {env e1 : En} {H H1 : Hp} {Dn : Ends} {α : Type}
theorem PostS.ext {o : SOut} (h : PostS F W B env σ H Dn o) (x : Ext env σ H e1 σ1 H1) : PostS F W B e1 σ1 H1 Dn o := by
  cases o with
  | nx e => exact fun σ' H' y k => h σ' H' (x.trans y) k
  | rt d e => exact fun σ' H' v y k => h σ' H' v (x.trans y) k
  | bk e => exact fun σ' H' y k => h σ' H' (x.trans y) k
  | ct e => exact fun σ' H' y k => h σ' H' (x.trans y) k
  | exc c ns ds e => exact fun dx σ' H' y k => h dx σ' H' (x.trans y) k
  | stuck => exact h
theorem PostS.split {o : Out α} {k : α → En → SOut} (h : PostS F W B env σ H Dn (o.then k)) : Post F W B σ env H (fun a e1 H1 => PostS F W B e1 σ H1 Dn (k a e1)) o := by
  cases o with
  | ok a e =>
    intro H' x k'
    exact PostS.ext (o := k a e) h x
  | exc c ns ds e => exact fun dx H' y k => h dx σ H' y k
  | stuck => exact h
theorem PostS.seq {o : SOut} {k : En → SOut} (h : PostS F W B env σ H Dn (o.seq k)) : PostS F W B env σ H { Dn with nx := fun σ' H' => ∃ B e1, EnvOk F B e1 σ' H' ∧ PostS F W B e1 σ' H' Dn (k e1) } o := by
  cases o with
  | nx e => exact fun σ' H' x k' => ⟨B, e, k', PostS.ext (o := k e) h x⟩
  | rt d e => exact h
  | bk e => exact h
  | ct e => exact h
  | exc c ns ds e => exact h
  | stuck => exact h
theorem PostS.imp {o : SOut} {Dn' : Ends} (h : PostS F W B env σ H Dn o) (h1 : ∀ e' σ' H', Ext env σ H e' σ' H' → EnvOk F B e' σ' H' → Dn.nx σ' H' → Dn'.nx σ' H') (h2 : ∀ v H', Dn.rt v H' → Dn'.rt v H')
    (h3 : ∀ e' σ' H', Ext env σ H e' σ' H' → EnvOk F B e' σ' H' → Dn.bk σ' H' → Dn'.bk σ' H') (h4 : ∀ e' σ' H', Ext env σ H e' σ' H' → EnvOk F B e' σ' H' → Dn.ct σ' H' → Dn'.ct σ' H') : PostS F W B env σ H Dn' o := by
  cases o with
  | nx e => exact fun σ' H' y k => h1 _ _ _ y k (h σ' H' y k)
  | rt d e => exact fun σ' H' v y k w => h2 _ _ (h σ' H' v y k w)
  | bk e => exact fun σ' H' y k => h3 _ _ _ y k (h σ' H' y k)
  | ct e => exact fun σ' H' y k => h4 _ _ _ y k (h σ' H' y k)
  | exc c ns ds e => exact h
  | stuck => exact h
end

section
variable {F : Cf} {W : WX} {X : Cx} {st : Stmt} {rest sts a b : List Stmt} {e c : Expr} {f fa fb : SSem} {fe : ESem} {g : BSem} {pos : Pos}
theorem DS.of {t : TS} (p : PS X st t) (m : ∀ Dn σ H, TS' F W f Dn σ H → t Dn σ H) : DS F W X st f := ⟨fun pins s σ H Dn I q => p.run pins s σ H Dn I (m _ _ _ q)⟩
theorem DSs.of {t : TS} (p : PSs X sts t) (m : ∀ Dn σ H, TS' F W f Dn σ H → t Dn σ H) : DSs F W X sts f := ⟨fun pins s σ H Dn I q => p.run pins s σ H Dn I (m _ _ _ q)⟩
def sNil : SSem := fun env => .nx env
def sSeq (fa fb : SSem) : SSem := fun env => (fa env).seq fb
theorem ds_nil : DSs F W X [] sNil := .of pss_nil fun Dn σ H ⟨B, env, k, p⟩ => p σ H (Ext.refl _ _ _) k
theorem ds_cons (h1 : DS F W X st fa) (h2 : DSs F W X rest fb) : DSs F W X (st :: rest) (sSeq fa fb) := .of (pss_cons h1 h2) fun Dn σ H ⟨B, env, k, p⟩ => ⟨B, env, k, p.seq⟩
theorem ds_one (h1 : DS F W X st fa) : DSs F W X [st] fa := pss_one h1
theorem ds_pass : DS F W X (.Pass pos) sNil := .of ps_pass fun Dn σ H ⟨B, env, k, p⟩ => p σ H (Ext.refl _ _ _) k
def sBk : SSem := fun env => .bk env
def sCt : SSem := fun env => .ct env
theorem ds_break : DS F W X (.Break pos) sBk := .of ps_break fun Dn σ H ⟨B, env, k, p⟩ => p σ H (Ext.refl _ _ _) k
theorem ds_continue : DS F W X (.Continue pos) sCt := .of ps_continue fun Dn σ H ⟨B, env, k, p⟩ => p σ H (Ext.refl _ _ _) k
/-- code that is never reached -/
def sNever : SSem := fun _ => .stuck
theorem ds_never : DS F W X st sNever := .of ps_never fun Dn σ H ⟨B, env, k, p⟩ => p
theorem dss_never : DSs F W X sts sNever := .of pss_never fun Dn σ H ⟨B, env, k, p⟩ => p
def sExpr (fe : ESem) : SSem := fun env => (fe env).then fun _ e1 => .nx e1
theorem ds_expr (he : DE F W X e fe) (hs : swapsWith e none pos.line X.env = pure false := by rfl) : DS F W X (.Expr e pos) (sExpr fe) := .of (ps_expr he hs) fun Dn σ H ⟨B, env, k, p⟩ =>
  ⟨B, env, k, p.split.imp fun x e1 H1 x1 k1 p1 v dv => p1 σ H1 (Ext.refl _ _ _) k1⟩
def sRet (fe : ESem) : SSem := fun env => (fe env).then fun d e1 => .rt d e1
theorem ds_ret (he : DE F W X e fe) : DS F W X (.Return (some e) pos) (sRet fe) := .of (ps_ret he) fun Dn σ H ⟨B, env, k, p⟩ =>
  ⟨B, env, k, p.split.imp fun x e1 H1 x1 k1 p1 v dv => p1 σ H1 v (Ext.refl _ _ _) k1 dv⟩
def sRetN : SSem := fun env => .rt .non env
theorem ds_retN : DS F W X (.Return none pos) sRetN := .of ps_retN fun Dn σ H ⟨B, env, k, p⟩ => p σ H .non (Ext.refl _ _ _) k .non
def sIf (g : BSem) (fa fb : SSem) : SSem := fun env => (g env).then fun b e1 => if b = true then fa e1 else fb e1
theorem ds_if (hc : DT F W X c g) (ha : DSs F W X a fa) (hb : DSs F W X b fb) : DS F W X (.If c a b pos) (sIf g fa fb) := .of (ps_if hc ha hb) fun Dn σ H ⟨B, env, k, p⟩ =>
  ⟨B, env, k, p.split.imp fun d e1 H1 x1 k1 p1 => by
    cases d with
    | true => exact ⟨B, e1, k1, p1⟩
    | false => exact ⟨B, e1, k1, p1⟩⟩

/-! ### stores -/
theorem get_set (env : En) (i j : Nat) (s : Sl) : (env.set i s)[j]? = if i = j ∧ i < env.length then some s else env[j]? := by
  rw [List.getElem?_set]
  by_cases q : i = j
  · subst q
    by_cases h : i < env.length
    · rw [if_pos rfl, if_pos h, if_pos ⟨rfl, h⟩]
    · rw [if_pos rfl, if_neg h, if_neg (fun z => h z.2)]
      exact (List.getElem?_eq_none (by omega)).symm
  · rw [if_neg q, if_neg (fun z => q z.1)]
theorem get_setV (σ : L2.St) (i j : Nat) (s : Option V) : (σ.set i s)[j]? = if i = j ∧ i < σ.length then some s else σ[j]? := by
  rw [List.getElem?_set]
  by_cases q : i = j
  · subst q
    by_cases h : i < σ.length
    · rw [if_pos rfl, if_pos h, if_pos ⟨rfl, h⟩]
    · rw [if_pos rfl, if_neg h, if_neg (fun z => h z.2)]
      exact (List.getElem?_eq_none (by omega)).symm
  · rw [if_neg q, if_neg (fun z => q z.1)]
/-- a slot takes data -/
theorem store_val {B : Addr → Prop} {env : En} {σ : L2.St} {H : Hp} {v : V} {d : D} (i : Nat) (k : EnvOk F B env σ H) (h : Den F (Os B env σ) H v d) :
    EnvOk F B (env.set i (.val d)) (σ.set i (some v)) H ∧ Ext env σ H (env.set i (.val d)) (σ.set i (some v)) H := by
  have own' : ∀ b, OwnAt (env.set i (.val d)) (σ.set i (some v)) b → OwnAt env σ b := fun b ⟨j, dj, h1, h2⟩ => by
    rw [get_set] at h1
    rw [get_setV] at h2
    split at h1
    · cases h1
    · rename_i hn
      rw [k.len] at hn
      rw [if_neg hn] at h2
      exact ⟨j, dj, h1, h2⟩
  have less : ∀ b, Os B (env.set i (.val d)) (σ.set i (some v)) b → Os B env σ b := fun b z => z.elim .inl fun z => .inr (own' b z)
  refine ⟨⟨by rw [List.length_set, List.length_set]; exact k.len, fun j s ov h1 h2 => ?_, fun i1 j1 si sj di dj b hne h1 h2 l1 l2 s1 s2 => ?_, k.trk⟩, ⟨fun b o n1 n2 e => e, fun b z => .inl (own' b z), fun j dj h1 => ?_, fun j dj h1 => ?_, fun b o e => ⟨o, e⟩⟩⟩
  · rw [get_set] at h1
    rw [get_setV, ← k.len] at h2
    split at h1
    · rename_i hp
      rw [if_pos hp] at h2
      cases h1
      cases h2
      exact ⟨v, rfl, h.anti less⟩
    · rename_i hn
      rw [if_neg hn] at h2
      exact (k.ok j s ov h1 h2).anti less
  · rw [get_set] at h1 h2
    rw [get_setV, ← k.len] at s1 s2
    split at h1
    · cases h1
      cases l1
    · rename_i hn1
      rw [if_neg hn1] at s1
      split at h2
      · cases h2
        cases l2
      · rename_i hn2
        rw [if_neg hn2] at s2
        exact k.apart i1 j1 si sj di dj b hne h1 h2 l1 l2 s1 s2
  · rw [get_set] at h1
    rw [get_setV, ← k.len]
    split at h1
    · cases h1
    · rename_i hn
      rw [if_neg hn]
      exact ⟨⟨dj, h1⟩, rfl⟩
  · rw [get_set] at h1
    rw [get_setV, ← k.len]
    split at h1
    · cases h1
    · rename_i hn
      rw [if_neg hn]
      exact ⟨⟨dj, h1⟩, rfl⟩
def sSet (i : Nat) (fe : ESem) : SSem := fun env => (fe env).then fun d e1 => .nx (e1.set i (.val d))
theorem ds_set {i : Nat} {x : Str} {pos' : Pos} (hN : X.N.Nodup) (hi : X.N[i]? = some x) (hx : Loc X.env.scope x) (he : DE F W X e fe) (hs : swapsWith e (some (.Name x pos')) pos.line X.env = pure false := by rfl) (hf : X.fn x = true ∨ X.env.scope.names.lookup x = some .local := by first | exact .inl rfl | exact .inr rfl | assumption) :
    DS F W X (.Assign [.Name x pos'] e pos) (sSet i fe) := .of (ps_set hN hi hx he hs hf) fun Dn σ H ⟨B, env, k, p⟩ =>
  ⟨B, env, k, p.split.imp fun d e1 H1 x1 k1 p1 v dv => by
    obtain ⟨k2, x2⟩ := store_val i k1 dv
    exact p1 _ _ x2 k2⟩

/-! ### targets -/
/-- a target takes data -/
abbrev GSem := D → En → Option En
def GOk (F : Cf) (g : TG) (f : GSem) : Prop := ∀ (B : Addr → Prop) (env : En) (σ : L2.St) (H : Hp) (v : V) (d : D) (env' : En) (Q : L2.St → Hp → Prop), EnvOk F B env σ H → Den F (Os B env σ) H v d → f d env = some env' →
  (∀ σ', Ext env σ H env' σ' H → EnvOk F B env' σ' H → Q σ' H) → g v σ H Q
def gV (i : Nat) : GSem := fun d env => some (env.set i (.val d))
theorem g_name {i : Nat} : GOk F (gName i) (gV i) := fun B env σ H v d env' Q k h e q => by
  cases e
  obtain ⟨k2, x2⟩ := store_val i k h
  exact q _ x2 k2
def gV2 (i j : Nat) : GSem := fun d env => match d with
  | .tup [x, y] => some ((env.set i (.val x)).set j (.val y))
  | _ => none
def gV3 (i j l : Nat) : GSem := fun d env => match d with
  | .tup [x, y, z] => some (((env.set i (.val x)).set j (.val y)).set l (.val z))
  | _ => none
theorem tup_of {O : Addr → Prop} {H : Hp} {v : V} {ds : List D} (h : Den F O H v (.tup ds)) : ∃ a xs, v = .ref a ∧ SqT F.K H a xs ∧ Dens F O H xs ds := by
  cases h with
  | ob w n =>
    cases w with
    | tup e ds => exact ⟨_, _, rfl, .inl (.inl e), ds⟩
  | tupK h ds => exact ⟨_, _, rfl, h H, ds⟩
theorem g_two {i j : Nat} : GOk F (gTup F.K 2 (gCons (gName i) (gCons (gName j) gNil))) (gV2 i j) := fun B env σ H v d env' Q k h e q => by
  unfold gV2 at e
  split at e
  · rename_i x y
    cases e
    obtain ⟨a, xs, rfl, hs, dvs⟩ := tup_of h
    cases dvs with
    | cons d1 r =>
      cases r with
      | cons d2 r =>
        cases r
        refine ⟨a, _, rfl, hs, rfl, _, _, rfl, ?_⟩
        obtain ⟨k1, x1⟩ := store_val i k d1
        obtain ⟨k2, x2⟩ := store_val j k1 (x1.den k d2)
        exact ⟨_, _, rfl, rfl, q _ (x1.trans x2) k2⟩
  · cases e
theorem g_three {i j l : Nat} : GOk F (gTup F.K 3 (gCons (gName i) (gCons (gName j) (gCons (gName l) gNil)))) (gV3 i j l) := fun B env σ H v d env' Q k h e q => by
  unfold gV3 at e
  split at e
  · rename_i x y z
    cases e
    obtain ⟨a, xs, rfl, hs, dvs⟩ := tup_of h
    cases dvs with
    | cons d1 r =>
      cases r with
      | cons d2 r =>
        cases r with
        | cons d3 r =>
          cases r
          refine ⟨a, _, rfl, hs, rfl, _, _, rfl, ?_⟩
          obtain ⟨k1, x1⟩ := store_val i k d1
          obtain ⟨k2, x2⟩ := store_val j k1 (x1.den k d2)
          obtain ⟨k3, x3⟩ := store_val l k2 (x2.den k1 (x1.den k d3))
          exact ⟨_, _, rfl, _, _, rfl, rfl, q _ ((x1.trans x2).trans x3) k3⟩
  · cases e
def sAsg (g : GSem) (fe : ESem) : SSem := fun env => (fe env).then fun d e1 => match g d e1 with | some e2 => .nx e2 | none => .stuck
theorem ds_asg {tg : Expr} {gt : TG} {g : GSem} (he : DE F W X e fe) (hg : PG X tg gt) (ho : GOk F gt g) (hs : swapsWithSole [tg] e pos.line X.env = pure false := by rfl) (hw : swappedStores [tg] e X.env = pure none := by rfl)
    (h1 : (assignEach [tg] X.env).map (·.2) = [assign tg X.env] := by rfl) : DS F W X (.Assign [tg] e pos) (sAsg g fe) := .of (ps_asg he hg hs hw h1) fun Dn σ H ⟨B, env, k, p⟩ =>
  ⟨B, env, k, p.split.imp fun d e1 H1 x1 k1 p1 v dv => by
    cases hq : g d e1 with
    | none =>
      rw [hq] at p1
      exact p1.elim
    | some e2 =>
      rw [hq] at p1
      exact ho B e1 σ H1 v d e2 _ k1 dv hq fun σ' x k' => p1 _ _ x k'⟩
end
end Dl

/-! D4: while, for. -/
namespace Dl
open PySem L2

/-- the most turns of a while -/
def turns : Nat := 1000000
def whileF (g : BSem) (body : SSem) : Nat → En → SOut
  | 0, _ => .stuck
  | n + 1, env => (g env).then fun b e1 => if b = true then (match body e1 with | .nx e2 => whileF g body n e2 | .ct e2 => whileF g body n e2 | .bk e2 => .nx e2 | o => o) else .nx e1
def sWhile (g : BSem) (body : SSem) : SSem := fun env => whileF g body turns env
/-- a loop over items -/
def forL (tg : GSem) (body : SSem) : List D → En → SOut
  | [], env => .nx env
  | d :: ds, env => match tg d env with
    | none => .stuck
    | some e1 => match body e1 with | .nx e2 => forL tg body ds e2 | .ct e2 => forL tg body ds e2 | .bk e2 => .nx e2 | o => o
abbrev ISem := En → Out (List D)
def sFor (tg : GSem) (it : ISem) (body : SSem) : SSem := fun env => (it env).then fun ds e1 => forL tg body ds e1

/-- an iterator that gives these items, whatever is done with what may change -/
def Seqs (F : Cf) (O : Addr → Prop) (H : Hp) (J : It) (ds : List D) : Prop := ∀ (O' : Addr → Prop) (H' : Hp), (∀ a o, ¬ O a → H a = some o → H' a = some o ∧ ¬ O' a) → (∀ a, O' a → ∃ o, H' a = some o) → ∀ i : Nat,
  (∀ d, ds[i]? = some d → J.go i H' ∧ ∀ x H2, J.yld i H' x H2 → Same H' H2 ∧ Den F O' H2 x d) ∧ (ds.length ≤ i → J.stop i H')
def TIt (F : Cf) (W : WX) (f : ISem) : TI := fun σ H R => ∃ B env, EnvOk F B env σ H ∧ Post F W B σ env H (fun ds e' H' => ∀ J, Seqs F (Os B e' σ) H' J ds → R J H') (f env)
abbrev DI (F : Cf) (W : WX) (X : Cx) (tg e : Expr) (f : ISem) : Prop := PI X tg e (TIt F W f)

section
variable {F : Cf} {W : WX} {X : Cx} {tg e iter c : Expr} {body : List Stmt} {f fb : SSem} {fe : ESem} {fi : ISem} {g : BSem} {gt : TG} {gs : GSem} {pos : Pos}
theorem DI.of {t : TI} (p : PI X tg e t) (m : ∀ σ H R, TIt F W fi σ H R → t σ H R) : DI F W X tg e fi := ⟨fun pins s σ H R I q => p.run pins s σ H R I (m _ _ _ q)⟩

theorem post_turn {B : Addr → Prop} {env : En} {σ : L2.St} {H : Hp} {Dn : Ends} {o : SOut} {k : En → SOut} (h : PostS F W B env σ H Dn (match o with | .nx e2 => k e2 | .ct e2 => k e2 | .bk e2 => .nx e2 | o => o)) :
    PostS F W B env σ H { Dn with nx := fun σ' H' => ∃ e2, EnvOk F B e2 σ' H' ∧ Ext env σ H e2 σ' H' ∧ PostS F W B e2 σ' H' Dn (k e2), ct := fun σ' H' => ∃ e2, EnvOk F B e2 σ' H' ∧ Ext env σ H e2 σ' H' ∧ PostS F W B e2 σ' H' Dn (k e2), bk := Dn.nx } o := by
  cases o with
  | nx e => exact fun σ' H' x k' => ⟨e, k', x, PostS.ext (o := k e) h x⟩
  | ct e => exact fun σ' H' x k' => ⟨e, k', x, PostS.ext (o := k e) h x⟩
  | bk e => exact h
  | rt d e => exact h
  | exc c ns ds e => exact h
  | stuck => exact h

theorem ds_while (hp : PassesOwn (model X.prog X.w) X.A X.env X.xe) (hc : DT F W X c g) (hb : DSs F W X body fb) : DS F W X (.While c body [] pos) (sWhile g fb) := .of (ps_while hp hc hb) fun Dn σ H ⟨B, env, k, p⟩ => by
  refine ⟨fun m σ' H' => ∃ e1, EnvOk F B e1 σ' H' ∧ PostS F W B e1 σ' H' Dn (whileF g fb m e1), ⟨turns, env, k, p⟩, ?_⟩
  rintro m σ1 H1 ⟨e1, k1, p1⟩
  cases m with
  | zero => exact p1.elim
  | succ m =>
    unfold whileF at p1
    refine ⟨B, e1, k1, p1.split.imp fun b e2 H2 x2 k2 p2 => ?_⟩
    cases b with
    | false => exact p2 σ1 H2 (Ext.refl _ _ _) k2
    | true =>
      refine ⟨fun σ' H' => ∃ e3, EnvOk F B e3 σ' H' ∧ PostS F W B e3 σ' H' Dn (whileF g fb m e3), fun σ' H' ⟨e3, k3, p3⟩ => ⟨m, Nat.lt_succ_self m, e3, k3, p3⟩, ?_⟩
      have p2' : PostS F W B e2 σ1 H2 Dn (match fb e2 with | .nx e2 => whileF g fb m e2 | .ct e2 => whileF g fb m e2 | .bk e2 => .nx e2 | o => o) := p2
      exact ⟨B, e2, k2, (post_turn p2').imp (fun _ _ _ _ _ ⟨e3, k3, _, p3⟩ => ⟨e3, k3, p3⟩) (fun _ _ h => h) (fun _ _ _ _ _ h => h) (fun _ _ _ _ _ ⟨e3, k3, _, p3⟩ => ⟨e3, k3, p3⟩)⟩

theorem ds_for (hp : PassesOwn (model X.prog X.w) X.A X.env X.xe) (hc : X.calm = true) (hi : DI F W X tg iter fi) (hg : PG X tg gt) (ho : GOk F gt gs) (hb : DSs F W X body fb)
    (hs : ∀ x, foldedSetIterable iter X.env x = pure x := by intro _; rfl) : DS F W X (.For tg iter body [] pos) (sFor gs fi fb) := .of (ps_for hp hc hi hg hb hs) fun Dn σ H ⟨B, env, k, p⟩ => by
  refine ⟨B, env, k, p.split.imp fun ds e1 H1 x1 k1 p1 J hJ => ?_⟩
  refine ⟨fun i m σ' H' => m = ds.length - i ∧ i ≤ ds.length ∧ ∃ e2, EnvOk F B e2 σ' H' ∧ Ext e1 σ H1 e2 σ' H' ∧ PostS F W B e2 σ' H' Dn (forL gs fb (ds.drop i) e2), ⟨ds.length, by simp, Nat.zero_le _, e1, k1, Ext.refl _ _ _, p1⟩, ?_⟩
  rintro i m σ2 H2 ⟨rfl, hi, e2, k2, x2, p2⟩
  have hj := hJ (Os B e2 σ2) H2 (x2.stay k1) (fun a => k2.trkO) i
  by_cases hlt : i < ds.length
  · have hd : ds[i]? = some ds[i] := List.getElem?_eq_getElem hlt
    obtain ⟨go, yl⟩ := hj.1 _ hd
    refine .inr ⟨go, fun σ' H' => ∃ e3, EnvOk F B e3 σ' H' ∧ Ext e1 σ H1 e3 σ' H' ∧ PostS F W B e3 σ' H' Dn (forL gs fb (ds.drop (i + 1)) e3), fun σ' H' ⟨e3, k3, x3, p3⟩ => ⟨ds.length - (i + 1), by omega, rfl, hlt, e3, k3, x3, p3⟩, fun x H3 hy => ?_⟩
    obtain ⟨sm, dx⟩ := yl x H3 hy
    have x23 : Ext e2 σ2 H2 e2 σ2 H3 := Ext.new sm
    have k3 := k2.grow sm
    rw [List.drop_eq_getElem_cons hlt] at p2
    have p3 := PostS.ext p2 x23
    unfold forL at p3
    cases hq : gs ds[i] e2 with
    | none =>
      rw [hq] at p3
      exact p3.elim
    | some e3 =>
      rw [hq] at p3
      refine ho B e2 σ2 H3 x ds[i] e3 _ k3 dx hq fun σ4 x4 k4 => ?_
      have p4 : PostS F W B e3 σ4 H3 Dn (match fb e3 with | .nx e2 => forL gs fb (ds.drop (i + 1)) e2 | .ct e2 => forL gs fb (ds.drop (i + 1)) e2 | .bk e2 => .nx e2 | o => o) := PostS.ext p3 x4
      have xx := (x2.trans x23).trans x4
      exact ⟨B, e3, k4, (post_turn p4).imp (fun _ _ _ _ _ ⟨e5, k5, x5, p5⟩ => ⟨e5, k5, xx.trans x5, p5⟩) (fun _ _ h => h) (fun _ _ _ _ _ h => h) (fun _ _ _ _ _ ⟨e5, k5, x5, p5⟩ => ⟨e5, k5, xx.trans x5, p5⟩)⟩
  · refine .inl ⟨hj.2 (by omega), ?_⟩
    have e0 : ds.drop i = [] := List.drop_eq_nil_of_le (by omega)
    rw [e0] at p2
    exact p2 σ2 H2 (Ext.refl _ _ _) k2

/-! ### iterables -/
/-- the items of a list or a tuple -/
def items : D → Option (List D)
  | .tup ds => some ds
  | .lst ds => some ds
  | _ => none
def iSeq (fe : ESem) : ISem := fun env => (fe env).bind fun d e1 => lift (items d) e1
def iSeqT (K : PySem.W.Frag) (tl : TE) : TI := fun σ H R => tl σ H fun x H1 => ∃ a, x = .ref a ∧ (((∃ xs, SqL K H1 a xs) ∧ R (Itl K a) H1) ∨ ((∃ xs, SqT K H1 a xs) ∧ R (Itt K a) H1))
theorem pi_seq {l : Expr} {tl : TE} (hl : PE X l tl) : PI X tg l (iSeqT X.K tl) := by
  refine ⟨fun pins s σ H R I h => ?_⟩
  refine thn (hl.run pins s σ H _ I h) fun v s1 ⟨x, H1, I1, r1, q1⟩ => ?_
  obtain ⟨a, e, q⟩ := q1
  subst e
  cases r1
  rcases q with ⟨⟨xs, hq⟩, q⟩ | ⟨⟨xs, hq⟩, q⟩
  · obtain ⟨its, rv, p, hz⟩ := I1.list hq
    refine wpAny_pyIter_list p.isList ?_
    refine ⟨s1.heap.objs.size, [s1.heap.objs.size], _, _, H1, rfl, I1.kept (t' := s1.toks) fun b o e => Heap.get?_push_of_some _ e, turn_list a _, ⟨_, Heap.get?_push_size _ rfl, rfl, rfl⟩, fun b hb => ?_, q⟩
    have e : b = s1.heap.objs.size := by simpa using hb
    subst e
    exact I1.fpOk (Nat.le_refl _) (I1.hok.fresh (Nat.le_refl _))
  · obtain ⟨its, rv, p, hz⟩ := I1.tuple hq
    refine wpAny_pyIter_tuple (show s1.heap.IsTuple a its.toArray from p) ?_
    refine ⟨s1.heap.objs.size, [s1.heap.objs.size], _, _, H1, rfl, I1.kept (t' := s1.toks) fun b o e => Heap.get?_push_of_some _ e, turn_tuple a _, ⟨_, Heap.get?_push_size _ rfl, rfl, rfl⟩, fun b hb => ?_, q⟩
    have e : b = s1.heap.objs.size := by simpa using hb
    subst e
    exact I1.fpOk (Nat.le_refl _) (I1.hok.fresh (Nat.le_refl _))
/-- the object that a list's or tuple's data denotes -/
inductive SeqOf (F : Cf) (O : Addr → Prop) (H : Hp) (a : Addr) (xs : List V) : D → Prop
  | lst {ds : List D} : Rd H a (.lst xs) → ¬ O a → Dens F O H xs ds → SeqOf F O H a xs (.lst ds)
  | tup {ds : List D} : Rd H a (.tup xs) → ¬ O a → Dens F O H xs ds → SeqOf F O H a xs (.tup ds)
  | tupK {ds : List D} : (∀ H, SqT F.K H a xs) → Dens F O H xs ds → SeqOf F O H a xs (.tup ds)
theorem seq_of {O : Addr → Prop} {H : Hp} {v : V} {d : D} {ds : List D} (h : Den F O H v d) (e : items d = some ds) : ∃ a xs, v = .ref a ∧ SeqOf F O H a xs d ∧ Dens F O H xs ds := by
  cases h with
  | ob w n =>
    cases w with
    | tup e1 dd => cases e; exact ⟨_, _, rfl, .tup (.inl e1) n dd, dd⟩
    | lst e1 dd => cases e; exact ⟨_, _, rfl, .lst (.inl e1) n dd, dd⟩
    | lstz e1 dd => cases e
    | dct e1 _ dd => cases e
    | dcl e1 _ dd => cases e
    | ins e1 _ dd => cases e
  | tupK h dd => cases e; exact ⟨_, _, rfl, .tupK h dd, dd⟩
  | _ => cases e
theorem rd_keep {O O' : Addr → Prop} {H H' : Hp} {a : Addr} {u : HO} (hk : ∀ a o, ¬ O a → H a = some o → H' a = some o ∧ ¬ O' a) (n : ¬ O a) (r : Rd H a u) : Rd H' a u := by
  rcases r with r | ⟨o, r⟩
  · exact .inl (hk _ _ n r).1
  · exact .inr ⟨o, (hk _ _ n r).1⟩
theorem seqs_l {O : Addr → Prop} {H : Hp} {a : Addr} {xs : List V} {ds : List D} (r : Rd H a (.lst xs)) (n : ¬ O a) (dd : Dens F O H xs ds) : Seqs F O H (Itl F.K a) ds := fun O' H' hk tr i => by
  have r' : SqL F.K H' a xs := .inl (rd_keep hk n r)
  have dd' := dd.mono hk
  refine ⟨fun d hd => ?_, fun hi => ⟨xs, r', by rw [dd.length]; exact hi⟩⟩
  obtain ⟨v, hv, dv⟩ := dd'.get hd
  refine ⟨⟨xs, v, r', hv⟩, fun x H2 hy => ?_⟩
  obtain ⟨rfl, hx⟩ := hy
  refine ⟨Same.refl _, ?_⟩
  have e := (hx xs r').symm.trans hv
  cases e
  exact dv
theorem seqs_t {O : Addr → Prop} {H : Hp} {a : Addr} {xs : List V} {ds : List D} (r : ∀ (O' : Addr → Prop) (H' : Hp), (∀ a o, ¬ O a → H a = some o → H' a = some o ∧ ¬ O' a) → SqT F.K H' a xs) (dd : Dens F O H xs ds) : Seqs F O H (Itt F.K a) ds := fun O' H' hk tr i => by
  have r' : SqT F.K H' a xs := r O' H' hk
  have dd' := dd.mono hk
  refine ⟨fun d hd => ?_, fun hi => ⟨xs, r', by rw [dd.length]; exact hi⟩⟩
  obtain ⟨v, hv, dv⟩ := dd'.get hd
  refine ⟨⟨xs, v, r', hv⟩, fun x H2 hy => ?_⟩
  obtain ⟨rfl, hx⟩ := hy
  refine ⟨Same.refl _, ?_⟩
  have e := (hx xs r').symm.trans hv
  cases e
  exact dv
theorem di_seq (hK : X.K = F.K) (he : DE F W X e fe) : DI F W X tg e (iSeq fe) := .of (pi_seq he) fun σ H R ⟨B, env, k, p⟩ => by
  rw [hK]
  refine ⟨B, env, k, p.split.imp fun d e1 H1 x1 k1 p1 v dv => ?_⟩
  obtain ⟨ds, hds, q⟩ := Post.lift (e := e1) k1 p1
  obtain ⟨a, xs, rfl, so, dd⟩ := seq_of dv hds
  refine ⟨a, rfl, ?_⟩
  cases so with
  | lst r n d1 => cases hds; exact .inl ⟨⟨xs, .inl r⟩, q _ (seqs_l r n d1)⟩
  | tup r n d1 => cases hds; exact .inr ⟨⟨xs, .inl r⟩, q _ (seqs_t (fun O' H' hk => .inl (rd_keep hk n r)) d1)⟩
  | tupK h d1 => cases hds; exact .inr ⟨⟨xs, h H1⟩, q _ (seqs_t (fun O' H' hk => h H') d1)⟩
/-- range -/
def intsFrom (lo : Int) : Nat → List D
  | 0 => []
  | n + 1 => .int lo :: intsFrom (lo + 1) n
theorem intsFrom_length : ∀ (n : Nat) (lo : Int), (intsFrom lo n).length = n
  | 0, _ => rfl
  | n + 1, lo => by rw [intsFrom, List.length_cons, intsFrom_length n]
theorem intsFrom_get : ∀ (n : Nat) (lo : Int) (i : Nat), i < n → (intsFrom lo n)[i]? = some (.int (lo + i))
  | 0, _, _, h => absurd h (Nat.not_lt_zero _)
  | n + 1, lo, 0, h => by simp [intsFrom]
  | n + 1, lo, i + 1, h => by
    rw [intsFrom, List.getElem?_cons_succ, intsFrom_get n (lo + 1) i (by omega)]
    congr 2
    omega
theorem seqs_r {O : Addr → Prop} {H : Hp} (lo : Int) (n : Nat) : Seqs F O H (Itr lo n) (intsFrom lo n) := fun O' H' hk tr i => by
  refine ⟨fun d hd => ?_, fun hi => by rw [intsFrom_length] at hi; exact hi⟩
  have hi : i < n := by
    have h := (List.getElem?_eq_some_iff.mp hd).1
    rw [intsFrom_length] at h
    exact h
  rw [intsFrom_get n lo i hi] at hd
  cases hd
  refine ⟨hi, fun x H2 hy => ?_⟩
  obtain ⟨rfl, rfl⟩ := hy
  exact ⟨Same.refl _, .int _⟩
def rng1 : List D → Option (List D)
  | [.int n] => if n < 2 ^ 62 ∧ -(2 ^ 62) ≤ n then some (intsFrom 0 n.toNat) else none
  | _ => none
def rng2 : List D → Option (List D)
  | [.int a, .int b] => if (-(2 ^ 62) ≤ a ∧ a < 2 ^ 62) ∧ (-(2 ^ 62) ≤ b ∧ b < 2 ^ 62) then some (intsFrom a (b - a).toNat) else none
  | _ => none
def iArg (g : List D → Option (List D)) (fa : ASem) : ISem := fun env => (fa env).bind fun ds e1 => lift (g ds) e1
theorem den_int {O : Addr → Prop} {H : Hp} {v : V} {i : Int} (h : Den F O H v (.int i)) : v = .int i := by
  cases h with
  | int => rfl
  | ob w n => cases w
theorem den_bl {O : Addr → Prop} {H : Hp} {v : V} {i : Bool} (h : Den F O H v (.bl i)) : v = .bl i := by
  cases h with
  | bl => rfl
  | ob w n => cases w
theorem den_str {O : Addr → Prop} {H : Hp} {v : V} {i : Str} (h : Den F O H v (.str i)) : v = .str i := by
  cases h with
  | str => rfl
  | ob w n => cases w
theorem den_non {O : Addr → Prop} {H : Hp} {v : V} (h : Den F O H v .non) : v = .non := by
  cases h with
  | non => rfl
  | ob w n => cases w
theorem di_range1 {a : Expr} {fa : ASem} {p : Pos} (hg : Gl X "range") (hm : X.mg "range" = none) (ha : DA F W X [a] fa) (hs : starEach [a] X.env = [(false, eval a X.env)] := by rfl) : DI F W X tg (.Call (.Name "range" p) [a] [] pos) (iArg rng1 fa) :=
  .of (pi_range1 hg hm ha hs) fun σ H R ⟨B, env, k, p⟩ => by
    refine ⟨B, env, k, p.split.imp fun ds e1 H1 x1 k1 p1 vs dvs => ?_⟩
    obtain ⟨zs, hz, q⟩ := Post.lift (e := e1) k1 p1
    unfold rng1 at hz
    split at hz
    · rename_i n
      split at hz
      · rename_i hb
        cases hz
        cases dvs with
        | cons d r =>
          cases r
          obtain rfl := den_int d
          exact ⟨n, rfl, hb.2, hb.1, q _ (seqs_r 0 _)⟩
      · cases hz
    · cases hz
theorem di_range2 {a b : Expr} {fa : ASem} {p : Pos} (hg : Gl X "range") (hm : X.mg "range" = none) (ha : DA F W X [a, b] fa) (hs : starEach [a, b] X.env = [(false, eval a X.env), (false, eval b X.env)] := by rfl) (hs2 : starEach [b] X.env = [(false, eval b X.env)] := by rfl) :
    DI F W X tg (.Call (.Name "range" p) [a, b] [] pos) (iArg rng2 fa) :=
  .of (pi_range2 hg hm ha hs hs2) fun σ H R ⟨B, env, k, p⟩ => by
    refine ⟨B, env, k, p.split.imp fun ds e1 H1 x1 k1 p1 vs dvs => ?_⟩
    obtain ⟨zs, hz, q⟩ := Post.lift (e := e1) k1 p1
    unfold rng2 at hz
    split at hz
    · rename_i a b
      split at hz
      · rename_i hb
        cases hz
        cases dvs with
        | cons d r =>
          cases r with
          | cons d' r =>
            cases r
            obtain rfl := den_int d
            obtain rfl := den_int d'
            exact ⟨a, b, rfl, ⟨hb.1.1, hb.1.2, hb.2.1, hb.2.2⟩, q _ (seqs_r a _)⟩
      · cases hz
    · cases hz
end
end Dl

/-! D5: list comprehensions. -/
namespace Dl
open PySem L2

def wipeE (env : En) : List Nat → En
  | [] => env
  | v :: vs => (wipeE env vs).set v .un
def clean (env : En) (vs : List Nat) : Bool := vs.all fun v => match env[v]? with
  | some s => s.lent.isNone
  | none => true
/-- the block's names as they stood ahead of it -/
def back (e0 e : En) : List Nat → En
  | [] => e
  | v :: vs => match e0[v]? with
    | some s => (back e0 e vs).set v s
    | none => back e0 e vs
/-- an exception is not awaited here -/
def Out.calm {α : Type} : Out α → Out α
  | .exc _ _ _ _ => .stuck
  | o => o
def compL (tg : GSem) (g : BSem) (fe : ESem) (vs : List Nat) : List D → En → List D → Out (List D)
  | [], e, acc => .ok acc e
  | d :: ds, e, acc => match tg d e with
    | none => .stuck
    | some e1 => (g e1).calm.bind fun b e2 => if b = true then (fe e2).calm.bind fun x e3 => compL tg g fe vs ds (wipeE e3 vs) (acc ++ [x]) else compL tg g fe vs ds (wipeE e2 vs) acc
def nComp (vs : List Nat) (tg : GSem) (fi : ISem) (g : BSem) (fe : ESem) : ISem := fun env => (fi env).bind fun ds e1 => if (small ds && clean e1 vs) = true then (compL tg g fe vs ds (wipeE e1 vs) []).bind fun xs e2 => .ok xs (back e1 e2 vs) else .stuck
def eComp (vs : List Nat) (tg : GSem) (fi : ISem) (g : BSem) (fe : ESem) : ESem := fun env => (nComp vs tg fi g fe env).bind fun xs e => .ok (.lst xs) e
def bYes : BSem := fun env => .ok true env

section
variable {F : Cf} {B : Addr → Prop} {σ σ1 : L2.St} {env e0 e1 : En} {H H1 : Hp}
theorem forget (i : Nat) (k : EnvOk F B env σ H) : EnvOk F B (env.set i .un) (σ.set i none) H ∧ Ext env σ H (env.set i .un) (σ.set i none) H := by
  have own' : ∀ b, OwnAt (env.set i .un) (σ.set i none) b → OwnAt env σ b := fun b ⟨j, dj, h1, h2⟩ => by
    rw [get_set] at h1
    rw [get_setV] at h2
    split at h1
    · cases h1
    · rename_i hn
      rw [k.len] at hn
      rw [if_neg hn] at h2
      exact ⟨j, dj, h1, h2⟩
  have less : ∀ b, Os B (env.set i .un) (σ.set i none) b → Os B env σ b := fun b z => z.elim .inl fun z => .inr (own' b z)
  refine ⟨⟨by rw [List.length_set, List.length_set]; exact k.len, fun j s ov h1 h2 => ?_, fun i1 j1 si sj di dj b hne h1 h2 l1 l2 s1 s2 => ?_, k.trk⟩, ⟨fun b o n1 n2 e => e, fun b z => .inl (own' b z), fun j dj h1 => ?_, fun j dj h1 => ?_, fun b o e => ⟨o, e⟩⟩⟩
  · rw [get_set] at h1
    rw [get_setV, ← k.len] at h2
    split at h1
    · rename_i hp
      cases h1
      trivial
    · rename_i hn
      rw [if_neg hn] at h2
      exact (k.ok j s ov h1 h2).anti less
  · rw [get_set] at h1 h2
    rw [get_setV, ← k.len] at s1 s2
    split at h1
    · cases h1
      cases l1
    · rename_i hn1
      rw [if_neg hn1] at s1
      split at h2
      · cases h2
        cases l2
      · rename_i hn2
        rw [if_neg hn2] at s2
        exact k.apart i1 j1 si sj di dj b hne h1 h2 l1 l2 s1 s2
  · rw [get_set] at h1
    rw [get_setV, ← k.len]
    split at h1
    · cases h1
    · rename_i hn
      rw [if_neg hn]
      exact ⟨⟨dj, h1⟩, rfl⟩
  · rw [get_set] at h1
    rw [get_setV, ← k.len]
    split at h1
    · cases h1
    · rename_i hn
      rw [if_neg hn]
      exact ⟨⟨dj, h1⟩, rfl⟩
theorem wiped : ∀ (vs : List Nat), EnvOk F B env σ H → EnvOk F B (wipeE env vs) (wipe σ vs) H ∧ Ext env σ H (wipeE env vs) (wipe σ vs) H
  | [], k => ⟨k, Ext.refl _ _ _⟩
  | v :: vs, k => by
    obtain ⟨k1, x1⟩ := wiped vs k
    obtain ⟨k2, x2⟩ := forget v k1
    exact ⟨k2, x1.trans x2⟩
theorem back_length (e0 e : En) : ∀ vs : List Nat, (back e0 e vs).length = e.length
  | [] => rfl
  | v :: vs => by
    unfold back
    split
    · rw [List.length_set, back_length e0 e vs]
    · exact back_length e0 e vs
theorem back_get {e0 e : En} (hl : e.length = e0.length) : ∀ (vs : List Nat) (i : Nat), (back e0 e vs)[i]? = if i ∈ vs then e0[i]? else e[i]?
  | [], i => by
    rw [if_neg (by simp)]
    rfl
  | v :: vs, i => by
    have ih := back_get hl vs i
    unfold back
    split
    · rename_i s hs
      rw [get_set, back_length, hl]
      by_cases q : v = i
      · subst q
        rw [if_pos ⟨rfl, (List.getElem?_eq_some_iff.mp hs).1⟩, if_pos (by simp), hs]
      · rw [if_neg (fun z => q z.1), ih]
        by_cases hm : i ∈ vs
        · rw [if_pos hm, if_pos (List.mem_cons_of_mem _ hm)]
        · rw [if_neg hm, if_neg (by simp only [List.mem_cons, not_or]; exact ⟨fun z => q z.symm, hm⟩)]
    · rename_i hs
      rw [ih]
      by_cases q : v = i
      · subst q
        rw [if_pos (show v ∈ v :: vs by simp), hs]
        by_cases hm : v ∈ vs
        · rw [if_pos hm]
        · rw [if_neg hm]
          have h0 := List.getElem?_eq_none_iff.mp hs
          exact List.getElem?_eq_none_iff.mpr (by omega)
      · by_cases hm : i ∈ vs
        · rw [if_pos hm, if_pos (List.mem_cons_of_mem _ hm)]
        · rw [if_neg hm, if_neg (by simp only [List.mem_cons, not_or]; exact ⟨fun z => q z.symm, hm⟩)]
theorem clean_at {vs : List Nat} (hc : clean env vs = true) {i : Nat} {s : Sl} (hi : i ∈ vs) (h : env[i]? = some s) : s.lent = none := by
  have h1 := List.all_eq_true.mp hc i hi
  rw [h] at h1
  exact Option.isNone_iff_eq_none.mp h1
/-- behind the block: D is the block's list -/
theorem backed {D0 : Addr} {vs : List Nat} {e : En} {B1 : Addr → Prop} (hB : ∀ a, B a → B1 a) (hB1 : ∀ a, B1 a → B a ∨ a = D0) (k : EnvOk F B env σ H) (hc : clean env vs = true) (k' : EnvOk F (fun a => B a ∨ a = D0) e (wipe σ vs) H1) (x : Ext env σ H e (wipe σ vs) H1) (hD : H D0 = none) :
    EnvOk F B1 (back env e vs) σ H1 ∧ Ext env σ H (back env e vs) σ H1 ∧ ∀ a, Os B1 (back env e vs) σ a → Os (fun a => B a ∨ a = D0) e (wipe σ vs) a := by
  have hl : e.length = env.length := by rw [k'.len, wipe_length, k.len]
  have inn : ∀ (i : Nat) (s : Sl) (d : D), (back env e vs)[i]? = some s → s.lent = some d → i ∉ vs ∧ e[i]? = some s ∧ (wipe σ vs)[i]? = σ[i]? := fun i s d h1 h2 => by
    rw [back_get hl] at h1
    by_cases hm : i ∈ vs
    · rw [if_pos hm] at h1
      rw [clean_at hc hm h1] at h2
      cases h2
    · rw [if_neg hm] at h1
      exact ⟨hm, h1, wipe_out hm⟩
  have own' : ∀ b, OwnAt (back env e vs) σ b → OwnAt e (wipe σ vs) b := fun b ⟨j, dj, h1, h2⟩ => by
    obtain ⟨_, h3, h4⟩ := inn j _ dj h1 rfl
    exact ⟨j, dj, h3, h4.trans h2⟩
  have less : ∀ b, Os B1 (back env e vs) σ b → Os (fun a => B a ∨ a = D0) e (wipe σ vs) b := fun b z => z.elim (fun z => .inl (hB1 b z)) fun z => .inr (own' b z)
  refine ⟨⟨by rw [back_length, hl]; exact k.len, fun i s ov h1 h2 => ?_, fun i j si sj di dj a hne h1 h2 l1 l2 s1 s2 => ?_, fun a h => k'.trk a (hB1 a h)⟩, ⟨x.keep, fun a z => x.own a (own' a z), fun j d h => ?_, fun j d h => ?_, x.dom⟩, less⟩
  · have hlow : s.lent = none → SlOk F B1 (Os B1 (back env e vs) σ) H1 s ov := fun hs => by
      cases s with
      | un => trivial
      | val d =>
        rw [back_get hl] at h1
        by_cases hm : i ∈ vs
        · rw [if_pos hm] at h1
          obtain ⟨v, e1, dv⟩ := k.ok i _ ov h1 h2
          refine ⟨v, e1, ?_⟩
          exact dv.mono fun a o n hh => by
            obtain ⟨q1, q2⟩ := x.stay k a o n hh
            refine ⟨q1, fun z => ?_⟩
            rcases z with z | z
            · rcases hB1 a z with z | z
              · exact n (.inl z)
              · exact ne_of_none hh hD z
            · exact q2 (.inr (own' a z))
        · rw [if_neg hm] at h1
          obtain ⟨v, e1, dv⟩ := k'.ok i _ ov h1 ((wipe_out hm).trans h2)
          exact ⟨v, e1, dv.anti less⟩
      | ex ns ds =>
        rw [back_get hl] at h1
        by_cases hm : i ∈ vs
        · rw [if_pos hm] at h1
          obtain ⟨a, dd, fs, e1, e2, o, hx, q, dv⟩ := k.ok i _ ov h1 h2
          have hk : ∀ a o, ¬ Os B env σ a → H a = some o → H1 a = some o ∧ ¬ Os B1 (back env e vs) σ a := fun a o n hh => by
            obtain ⟨q1, q2⟩ := x.stay k a o n hh
            refine ⟨q1, fun z => ?_⟩
            rcases z with z | z
            · rcases hB1 a z with z | z
              · exact n (.inl z)
              · exact ne_of_none hh hD z
            · exact q2 (.inr (own' a z))
          exact ⟨a, dd, fs, e1, e2, (hk _ _ o hx).2, (hk _ _ o hx).1, q, dv.mono hk⟩
        · rw [if_neg hm] at h1
          obtain ⟨a, dd, fs, e1, e2, o, hx, q, dv⟩ := k'.ok i _ ov h1 ((wipe_out hm).trans h2)
          exact ⟨a, dd, fs, e1, e2, fun z => o (less _ z), hx, q, dv.anti less⟩
      | _ => cases hs
    cases hs : s.lent with
    | none => exact hlow hs
    | some d =>
      obtain ⟨hm, h3, h4⟩ := inn i s d h1 hs
      have w := k'.ok i s ov h3 (h4.trans h2)
      cases s with
      | un => trivial
      | val d => cases hs
      | own d =>
        obtain ⟨a, e1, n, w⟩ := w
        exact ⟨a, e1, fun z => n (hB1 a z), w.anti less⟩
      | mt d =>
        obtain ⟨a, e1, n, w⟩ := w
        refine ⟨a, e1, ?_, w.anti less⟩
        obtain ⟨⟨d0, g0⟩, g1⟩ := x.mt i d h3
        rw [h4] at g1
        obtain ⟨a', e2, hb, _⟩ := k.ok i _ ov g0 h2
        rw [e1] at e2
        cases e2
        exact hB _ hb
      | br d =>
        obtain ⟨a, e1, n, w⟩ := w
        refine ⟨a, e1, ?_, w.anti less⟩
        obtain ⟨⟨d0, g0⟩, g1⟩ := x.br i d h3
        obtain ⟨a', e2, hb, _⟩ := k.ok i _ ov g0 h2
        rw [e1] at e2
        cases e2
        exact hB _ hb
      | ex ns ds => cases hs
  · obtain ⟨_, h3, h4⟩ := inn i si di h1 l1
    obtain ⟨_, h5, h6⟩ := inn j sj dj h2 l2
    exact k'.apart i j si sj di dj a hne h3 h5 l1 l2 (h4.trans s1) (h6.trans s2)
  · obtain ⟨_, h3, h4⟩ := inn j _ d h rfl
    obtain ⟨g0, g1⟩ := x.mt j d h3
    exact ⟨g0, rfl⟩
  · obtain ⟨_, h3, h4⟩ := inn j _ d h rfl
    obtain ⟨g0, g1⟩ := x.br j d h3
    exact ⟨g0, rfl⟩
/-- one more address is nobody's -/
theorem EnvOk.more {D0 : Addr} {o : HO} (k : EnvOk F B env σ H) (hD : H D0 = none) : EnvOk F (fun a => B a ∨ a = D0) env σ (upd H D0 o) := by
  have sm : Same H (upd H D0 o) := same_new hD
  have ne : ∀ a u, H a = some u → a ≠ D0 := fun a u h => ne_of_none h hD
  refine ⟨k.len, fun i s ov h1 h2 => ?_, k.apart, fun a h => ?_⟩
  · have hk : ∀ a u, ¬ Os B env σ a → H a = some u → (upd H D0 o) a = some u ∧ ¬ Os (fun a => B a ∨ a = D0) env σ a := fun a u n h => ⟨sm _ _ h, fun z => by
      rcases z with (z | z) | z
      · exact n (.inl z)
      · exact ne a u h z
      · exact n (.inr z)⟩
    have w := k.ok i s ov h1 h2
    cases s with
    | un => trivial
    | val d =>
      obtain ⟨v, e1, dv⟩ := w
      exact ⟨v, e1, dv.mono hk⟩
    | own d =>
      obtain ⟨a, e1, n, w⟩ := w
      obtain ⟨u, hu⟩ := w.some
      exact ⟨a, e1, fun z => z.elim n (ne a u hu), w.mono hk (sm _ _ hu) hu⟩
    | mt d =>
      obtain ⟨a, e1, n, w⟩ := w
      obtain ⟨u, hu⟩ := w.some
      exact ⟨a, e1, .inl n, w.mono hk (sm _ _ hu) hu⟩
    | br d =>
      obtain ⟨a, e1, n, w⟩ := w
      obtain ⟨u, hu⟩ := w.some
      exact ⟨a, e1, .inl n, w.mono hk (sm _ _ hu) hu⟩
    | ex ns ds =>
      obtain ⟨a, dd, fs, e1, e2, o, hx, q, dv⟩ := w
      exact ⟨a, dd, fs, e1, e2, (hk _ _ o hx).2, (hk _ _ o hx).1, q, dv.mono hk⟩
  · rcases h with h | rfl
    · obtain ⟨u, hu⟩ := k.trk a h
      exact ⟨u, sm _ _ hu⟩
    · exact ⟨o, upd_same⟩
/-- the block's list changes -/
theorem EnvOk.turn {D0 : Addr} {o : HO} (k : EnvOk F (fun a => B a ∨ a = D0) env σ H) : (∀ (s : Sl) (i : Nat) (d : D), env[i]? = some s → s.lent = some d → σ[i]? ≠ some (some (V.ref D0))) → EnvOk F (fun a => B a ∨ a = D0) env σ (upd H D0 o) := fun hn => by
  have hk : ∀ a u, ¬ Os (fun a => B a ∨ a = D0) env σ a → H a = some u → (upd H D0 o) a = some u ∧ ¬ Os (fun a => B a ∨ a = D0) env σ a := fun a u n h => ⟨by
    rw [upd_ne (fun z => n (.inl (.inr z)))]
    exact h, n⟩
  refine ⟨k.len, fun i s ov h1 h2 => ?_, k.apart, fun a h => ?_⟩
  · have w := k.ok i s ov h1 h2
    cases s with
    | un => trivial
    | val d =>
      obtain ⟨v, e1, dv⟩ := w
      exact ⟨v, e1, dv.mono hk⟩
    | own d =>
      obtain ⟨a, e1, n, w⟩ := w
      obtain ⟨u, hu⟩ := w.some
      have ha : a ≠ D0 := fun z => n (.inr z)
      exact ⟨a, e1, n, w.mono hk (by rw [upd_ne ha]; exact hu) hu⟩
    | mt d =>
      obtain ⟨a, e1, n, w⟩ := w
      obtain ⟨u, hu⟩ := w.some
      have ha : a ≠ D0 := fun z => hn _ i d h1 rfl (by rw [h2, e1, z])
      exact ⟨a, e1, n, w.mono hk (by rw [upd_ne ha]; exact hu) hu⟩
    | br d =>
      obtain ⟨a, e1, n, w⟩ := w
      obtain ⟨u, hu⟩ := w.some
      have ha : a ≠ D0 := fun z => hn _ i d h1 rfl (by rw [h2, e1, z])
      exact ⟨a, e1, n, w.mono hk (by rw [upd_ne ha]; exact hu) hu⟩
    | ex ns ds =>
      obtain ⟨a, dd, fs, e1, e2, o, hx, q, dv⟩ := w
      exact ⟨a, dd, fs, e1, e2, (hk _ _ o hx).2, (hk _ _ o hx).1, q, dv.mono hk⟩
  · by_cases ha : a = D0
    · subst ha
      exact ⟨o, upd_same⟩
    · obtain ⟨u, hu⟩ := k.trk a h
      exact ⟨u, by rw [upd_ne ha]; exact hu⟩
end

/-- at D0 stands an object that nobody else knows -/
structure Fresh (F : Cf) (B : Addr → Prop) (env : En) (σ : L2.St) (H : Hp) (D0 : Addr) (o : D) : Prop where
  ok : EnvOk F (fun a => B a ∨ a = D0) env σ H
  nb : ¬ B D0
  apart : ∀ (s : Sl) (i : Nat) (d : D), env[i]? = some s → s.lent = some d → σ[i]? ≠ some (some (V.ref D0))
  bod : Bod F (Os (fun a => B a ∨ a = D0) env σ) H D0 o
section
variable {F : Cf} {B : Addr → Prop} {σ : L2.St} {env : En} {H : Hp} {D0 : Addr} {d : D}
theorem Fresh.den (f : Fresh F B env σ H D0 d) : Den F (Os B env σ) H (.ref D0) d := by
  refine .ob (f.bod.anti fun a z => z.elim (fun z => .inl (.inl z)) .inr) fun z => ?_
  rcases z with z | ⟨i, d, h1, h2⟩
  · exact f.nb z
  · exact f.apart _ i d h1 rfl h2
/-- a new object -/
theorem fresh_new {o : HO} (k : EnvOk F B env σ H) (hD : H D0 = none) (w : ∀ O, (∀ a u, ¬ Os B env σ a → H a = some u → (upd H D0 o) a = some u ∧ ¬ O a) → Bod F O (upd H D0 o) D0 d) : Fresh F B env σ (upd H D0 o) D0 d := by
  have sm : Same H (upd H D0 o) := same_new hD
  refine ⟨k.more hD, fun z => ?_, fun s i d h1 h2 h3 => ?_, w _ fun a u n h => ⟨sm _ _ h, fun z => ?_⟩⟩
  · obtain ⟨u, hu⟩ := k.trk D0 z
    rw [hD] at hu
    cases hu
  · have w := k.ok i s _ h1 h3
    cases s with
    | un => cases h2
    | val d => cases h2
    | ex ns ds => cases h2
    | _ =>
      obtain ⟨a, e1, _, w⟩ := w
      cases e1
      obtain ⟨u, hu⟩ := w.some
      rw [hD] at hu
      cases hu
  · rcases z with (z | z) | z
    · exact n (.inl z)
    · exact ne_of_none h hD z
    · exact n (.inr z)
end
/-- no exception is wished for -/
abbrev W0 : WX := fun _ _ _ _ => False
/-- an expression that makes a new object; it does not stand ahead of it -/
def TN' (F : Cf) (W : WX) (f : ESem) : TE := fun σ H Q => ∃ B env, EnvOk F B env σ H ∧ Post F W B σ env H (fun d e' H' => ∀ p, H p = none → Fresh F B e' σ H' p d → Q (.ref p) H') (f env)
theorem tn_t' {F : Cf} {W : WX} {f : ESem} {σ : L2.St} {H : Hp} {Q : VK} (h : T F W f σ H Q) : TN' F W f σ H Q := by
  obtain ⟨B, env, k, p⟩ := h
  exact ⟨B, env, k, p.imp fun d e1 H1 x1 k1 p1 a _ fr => p1 _ fr.den⟩
theorem none_back {env e' : En} {σ σ' : L2.St} {H H' : Hp} {p : Addr} (x : Ext env σ H e' σ' H') (h : H' p = none) : H p = none := by
  cases q : H p with
  | none => rfl
  | some u =>
    obtain ⟨u', h'⟩ := x.dom p u q
    rw [h] at h'
    cases h'
section
variable {F : Cf} {W : WX} {X : Cx} {elt tg iter : Expr} {ifs : List Expr} {scope : Scope} {own : List (Str × Nat)} {pos spos py : Pos} {fi : ISem} {gt : TG} {gs : GSem} {g : BSem} {fe : ESem}

/-- what the reading of a comprehension asks -/
theorem t_comp {vs : List Nat} {σ : L2.St} {H : Hp} {Q : VK} (ho : GOk F gt gs) (hw : ∀ (v : V) (σ : L2.St) (H : Hp) (Q : L2.St → Hp → Prop), gt v (wipe σ vs) H (fun σ2 H2 => wipe σ2 vs = wipe σ vs → Q σ2 H2) → gt v (wipe σ vs) H fun σ2 H2 => wipe σ2 vs = wipe σ vs ∧ Q σ2 H2)
    (h : TN' F W (eComp vs gs fi g fe) σ H Q) :
    tLc (TIt F W fi) gt (TB F W0 g) (T F W0 fe) vs σ H Q := by
  obtain ⟨B, env, k, p⟩ := h
  have p : Post F W B σ env H (fun d e' H' => ∀ p, H p = none → Fresh F B e' σ H' p d → Q (.ref p) H') ((nComp vs gs fi g fe env).bind fun xs e => .ok (D.lst xs) e) := p
  have p : Post F W B σ env H _ ((fi env).bind fun ds e1 => if (small ds && clean e1 vs) = true then (compL gs g fe vs ds (wipeE e1 vs) []).bind fun xs e2 => .ok xs (back e1 e2 vs) else .stuck) := p.split
  refine ⟨B, env, k, p.split.imp fun ds e1 H1 x1 k1 p1 J hJ D0 hD => ?_⟩
  by_cases hc : (small ds && clean e1 vs) = true
  case neg =>
    have p1 : Post F W B σ e1 H1 _ (if (small ds && clean e1 vs) = true then (compL gs g fe vs ds (wipeE e1 vs) []).bind fun xs e2 => .ok xs (back e1 e2 vs) else .stuck) := p1
    rw [if_neg hc] at p1
    exact p1.elim
  have p1 : Post F W B σ e1 H1 _ (if (small ds && clean e1 vs) = true then (compL gs g fe vs ds (wipeE e1 vs) []).bind fun xs e2 => .ok xs (back e1 e2 vs) else .stuck) := p1
  rw [if_pos hc] at p1
  obtain ⟨hs, hcl⟩ := Bool.and_eq_true_iff.mp hc
  have hlen : ds.length ≤ 1000000 := of_decide_eq_true hs
  obtain ⟨kw, xw⟩ := wiped vs k1
  have kD := kw.more (o := .lst []) hD
  -- the end, whatever the outcome is
  generalize ho' : compL gs g fe vs ds (wipeE e1 vs) [] = out at p1
  refine ⟨fun i m H' => m = ds.length - i ∧ i ≤ ds.length ∧ ∃ e2 acc ws, EnvOk F (fun a => B a ∨ a = D0) e2 (wipe σ vs) H' ∧ Ext e1 σ H1 e2 (wipe σ vs) H' ∧ H' D0 = some (.lst ws) ∧ Dens F (Os (fun a => B a ∨ a = D0) e2 (wipe σ vs)) H' ws acc ∧ acc.length ≤ i ∧ compL gs g fe vs (ds.drop i) e2 acc = out,
    ⟨ds.length, by simp, Nat.zero_le _, wipeE e1 vs, [], [], kD, xw.trans (Ext.new (same_new hD)), upd_same, .nil, Nat.le_refl _, ho'⟩, ?_⟩
  rintro i m H2 ⟨rfl, hi, e2, acc, ws, k2, x2, hd2, dws, hacc, q2⟩
  have apart : ∀ (e3 : En) (σ3 : L2.St) (H3 : Hp), Ext e1 σ H1 e3 σ3 H3 → ∀ (s : Sl) (i : Nat) (d : D), EnvOk F (fun a => B a ∨ a = D0) e3 σ3 H3 → e3[i]? = some s → s.lent = some d → σ3[i]? ≠ some (some (V.ref D0)) := fun e3 σ3 H3 x3 s i d k3 h1 h2 h3 => by
    cases s with
    | un => cases h2
    | val d => cases h2
    | ex ns ds => cases h2
    | own d =>
      obtain ⟨a, e4, n, _⟩ := k3.ok i _ _ h1 h3
      cases e4
      exact n (.inr rfl)
    | mt d =>
      obtain ⟨⟨d0, g0⟩, g1⟩ := x3.mt i d h1
      rw [h3] at g1
      obtain ⟨a, e4, _, w⟩ := k1.ok i _ _ g0 g1.symm
      cases e4
      obtain ⟨u, hu⟩ := w.some
      rw [hD] at hu
      cases hu
    | br d =>
      obtain ⟨⟨d0, g0⟩, g1⟩ := x3.br i d h1
      rw [h3] at g1
      obtain ⟨a, e4, _, w⟩ := k1.ok i _ _ g0 g1.symm
      cases e4
      obtain ⟨u, hu⟩ := w.some
      rw [hD] at hu
      cases hu
  have stay2 : ∀ a o, ¬ Os B e1 σ a → H1 a = some o → H2 a = some o ∧ ¬ Os (fun a => B a ∨ a = D0) e2 (wipe σ vs) a := fun a o n h => by
    obtain ⟨q1, q2⟩ := x2.stay k1 a o n h
    refine ⟨q1, fun z => ?_⟩
    rcases z with (z | z) | z
    · exact n (.inl z)
    · exact ne_of_none h hD z
    · exact q2 (.inr z)
  have hj := hJ _ H2 stay2 (fun a => k2.trkO) i
  by_cases hlt : i < ds.length
  · have hd : ds[i]? = some ds[i] := List.getElem?_eq_getElem hlt
    obtain ⟨go, yl⟩ := hj.1 _ hd
    refine .inr ⟨go, fun H' => ∃ e3 acc ws, EnvOk F (fun a => B a ∨ a = D0) e3 (wipe σ vs) H' ∧ Ext e1 σ H1 e3 (wipe σ vs) H' ∧ H' D0 = some (.lst ws) ∧ Dens F (Os (fun a => B a ∨ a = D0) e3 (wipe σ vs)) H' ws acc ∧ acc.length ≤ i + 1 ∧ compL gs g fe vs (ds.drop (i + 1)) e3 acc = out,
      fun H' ⟨e3, acc', ws', q⟩ => ⟨ds.length - (i + 1), by omega, rfl, hlt, e3, acc', ws', q⟩, fun x H3 hy => ?_⟩
    obtain ⟨sm, dx⟩ := yl x H3 hy
    have k3 := k2.grow sm
    have x3 : Ext e1 σ H1 e2 (wipe σ vs) H3 := x2.trans (Ext.new sm)
    rw [List.drop_eq_getElem_cons hlt] at q2
    unfold compL at q2
    cases hq : gs ds[i] e2 with
    | none =>
      rw [hq] at q2
      rw [← q2] at p1
      exact p1.elim
    | some e3 =>
      rw [hq] at q2
      have q2 : (g e3).calm.bind (fun b e2 => if b = true then (fe e2).calm.bind (fun x e3 => compL gs g fe vs (ds.drop (i + 1)) (wipeE e3 vs) (acc ++ [x])) else compL gs g fe vs (ds.drop (i + 1)) (wipeE e2 vs) acc) = out := q2
      refine hw _ _ _ _ (ho _ e2 (wipe σ vs) H3 x ds[i] e3 _ k3 dx hq fun σ4 x4 k4 => ?_)
      intro hweq
      have x34 := x3.trans x4
      cases hg : g e3 with
      | stuck =>
        rw [hg] at q2
        rw [← q2] at p1
        exact p1.elim
      | exc c ns es e =>
        rw [hg] at q2
        rw [← q2] at p1
        exact p1.elim
      | ok b e4 =>
        rw [hg] at q2
        refine ⟨_, e3, k4, ?_⟩
        rw [hg]
        intro H5 x5 k5
        have x35 := x34.trans x5
        have hd5 : H5 D0 = some (.lst ws) := x5.keep _ _ (fun ⟨j, d, h1, h2⟩ => apart _ _ _ x34 _ j d k4 h1 rfl h2) (fun ⟨j, d, h1, h2⟩ => apart _ _ _ x34 _ j d k4 h1 rfl h2) (sm _ _ hd2)
        have dws5 := x5.dens k4 (x4.dens k3 (dws.grow sm))
        cases b with
        | false =>
          obtain ⟨k6, x6⟩ := wiped vs k5
          have d6 := x6.dens k5 dws5
          rw [hweq] at k6 x6 d6
          exact ⟨wipeE e4 vs, acc, ws, k6, x35.trans x6, hd5, d6, by omega, q2⟩
        | true =>
          have q2 : (fe e4).calm.bind (fun x e3 => compL gs g fe vs (ds.drop (i + 1)) (wipeE e3 vs) (acc ++ [x])) = out := q2
          refine ⟨_, e4, k5, ?_⟩
          cases hfe : fe e4 with
          | stuck =>
            rw [hfe] at q2
            rw [← q2] at p1
            exact p1.elim
          | exc c ns es e =>
            rw [hfe] at q2
            rw [← q2] at p1
            exact p1.elim
          | ok y e5 =>
            rw [hfe] at q2
            intro H6 x6 k6 v dv
            have x36 := x35.trans x6
            have hd6 : H6 D0 = some (.lst ws) := x6.keep _ _ (fun ⟨j, d, h1, h2⟩ => apart _ _ _ x35 _ j d k5 h1 rfl h2) (fun ⟨j, d, h1, h2⟩ => apart _ _ _ x35 _ j d k5 h1 rfl h2) hd5
            have dws6 := x6.dens k5 dws5
            refine ⟨ws, hd6, Nat.lt_of_le_of_lt (show ws.length ≤ 1000000 by rw [dws.length]; omega) (by decide), ?_⟩
            obtain ⟨k7, x7⟩ := wiped vs k6
            have ap7 := fun s i d h1 h2 => apart _ _ _ (x36.trans x7) s i d k7 h1 h2
            have k8 := k7.turn (o := .lst (ws ++ [v])) ap7
            have d7 : Dens F _ H6 (ws ++ [v]) (acc ++ [y]) := (x7.dens k6 dws6).snoc (x7.den k6 dv)
            have d8 : Dens F _ (upd H6 D0 (.lst (ws ++ [v]))) (ws ++ [v]) (acc ++ [y]) := d7.mono (O' := Os (fun a => B a ∨ a = D0) (wipeE e5 vs) (wipe σ4 vs)) fun a o n h => ⟨by rw [upd_ne (fun z => n (.inl (.inr z)))]; exact h, n⟩
            have x8 : Ext e1 σ H1 (wipeE e5 vs) (wipe σ4 vs) (upd H6 D0 (.lst (ws ++ [v]))) := by
              have xx := x36.trans x7
              refine ⟨fun a o n1 n2 h => ?_, xx.own, xx.mt, xx.br, fun a o h => ?_⟩
              · rw [upd_ne (ne_of_none h hD)]
                exact xx.keep a o n1 n2 h
              · rw [upd_ne (ne_of_none h hD)]
                exact xx.dom a o h
            rw [hweq] at k8 d8 x8
            exact ⟨wipeE e5 vs, acc ++ [y], ws ++ [v], k8, x8, upd_same, d8, by rw [List.length_append, List.length_singleton]; omega, q2⟩
  · refine .inl ⟨hj.2 (by omega), ?_⟩
    have e0 : ds.drop i = [] := List.drop_eq_nil_of_le (by omega)
    rw [e0] at q2
    have q2 : Out.ok acc e2 = out := q2
    subst q2
    obtain ⟨k4, x4, l4⟩ := backed (B1 := B) (fun a h => h) (fun a h => .inl h) k1 hcl k2 x2 hD
    obtain ⟨k5, x5, l5⟩ := backed (B1 := fun a => B a ∨ a = D0) (fun a h => .inl h) (fun a h => h) k1 hcl k2 x2 hD
    refine p1 H2 x4 k4 H2 (Ext.refl _ _ _) k4 D0 (none_back x1 hD) ⟨k5, fun z => ?_, fun s i d h1 h2 => apart _ _ _ x5 s i d k5 h1 h2, .lst hd2 (dws.anti l5)⟩
    obtain ⟨u, hu⟩ := k1.trk D0 z
    rw [hD] at hu
    cases hu
theorem w_name {i : Nat} : ∀ (v : V) (σ : L2.St) (H : Hp) (Q : L2.St → Hp → Prop), gName i v (wipe σ [i]) H (fun σ2 H2 => wipe σ2 [i] = wipe σ [i] → Q σ2 H2) → gName i v (wipe σ [i]) H fun σ2 H2 => wipe σ2 [i] = wipe σ [i] ∧ Q σ2 H2 := fun v σ H Q h => by
  have e : wipe ((wipe σ [i]).set i (some v)) [i] = wipe σ [i] := by
    show (((σ.set i none).set i (some v)).set i none) = σ.set i none
    rw [List.set_set, List.set_set]
  exact ⟨e, h e⟩
end
end Dl

/-! D6: what operators and built-ins do with data. -/
namespace Dl
open PySem L2

/-- a value denotes data, its own object perhaps owned -/
def DenP (F : Cf) (O : Addr → Prop) (H : Hp) (v : V) (d : D) : Prop := Den F O H v d ∨ ∃ a, v = .ref a ∧ Bod F O H a d
def OkRP (F : Cf) (r : R2) (g : D → D → Option D) : Prop := ∀ (O : Addr → Prop) (H : Hp) (x y : V) (dx dy dz : D) (Q : VK), (∀ a, O a → ∃ o, H a = some o) → DenP F O H x dx → DenP F O H y dy → g dx dy = some dz →
  (∀ v H', Same H H' → Den F O H' v dz → Q v H') → r x y H Q
def OkUP (F : Cf) (r : V → Hp → VK → Prop) (g : D → Option D) : Prop := ∀ (O : Addr → Prop) (H : Hp) (x : V) (dx dz : D) (Q : VK), (∀ a, O a → ∃ o, H a = some o) → DenP F O H x dx → g dx = some dz →
  (∀ v H', Same H H' → Den F O H' v dz → Q v H') → r x H Q
theorem OkRP.ok {F : Cf} {r : R2} {g : D → D → Option D} (h : OkRP F r g) : OkR F r g := fun O H x y dx dy dz Q t a b => h O H x y dx dy dz Q t (.inl a) (.inl b)
theorem OkUP.ok {F : Cf} {r : V → Hp → VK → Prop} {g : D → Option D} (h : OkUP F r g) : OkU F r g := fun O H x dx dz Q t a => h O H x dx dz Q t (.inl a)
/-- one of two readings -/
def rOr (r r' : R2) : R2 := fun x y H Q => r x y H Q ∨ r' x y H Q
theorem op_or {X : Cx} {f : Value → Value → Sem Value} {r r' : R2} (a : OpR X f r) (b : OpR X f r') : OpR X f (rOr r r') := fun pins s σ H x y v u Q I rx ry h => h.elim (a pins s σ H x y v u Q I rx ry) (b pins s σ H x y v u Q I rx ry)

section
variable {F : Cf} {O : Addr → Prop} {H : Hp} {v : V} {d : D}
theorem DenP.int {i : Int} (h : DenP F O H v (.int i)) : v = .int i := h.elim den_int fun ⟨_, _, w⟩ => by cases w
theorem DenP.bl {i : Bool} (h : DenP F O H v (.bl i)) : v = .bl i := h.elim den_bl fun ⟨_, _, w⟩ => by cases w
theorem DenP.str {i : Str} (h : DenP F O H v (.str i)) : v = .str i := h.elim den_str fun ⟨_, _, w⟩ => by cases w
theorem DenP.non (h : DenP F O H v .non) : v = .non := h.elim den_non fun ⟨_, _, w⟩ => by cases w
theorem DenP.tup {ds : List D} (h : DenP F O H v (.tup ds)) : ∃ a xs, v = .ref a ∧ SqT F.K H a xs ∧ Dens F O H xs ds := h.elim tup_of fun ⟨a, e, w⟩ => by
  cases w with
  | tup e1 dd => exact ⟨a, _, e, .inl (.inl e1), dd⟩
theorem DenP.lst {ds : List D} (h : DenP F O H v (.lst ds)) : ∃ a xs, v = .ref a ∧ H a = some (.lst xs) ∧ Dens F O H xs ds := by
  rcases h with h | ⟨a, e, w⟩
  · cases h with
    | ob w n =>
      cases w with
      | lst e1 dd => exact ⟨_, _, rfl, e1, dd⟩
  · cases w with
    | lst e1 dd => exact ⟨a, _, e, e1, dd⟩
theorem DenP.frz {ds : List D} (h : DenP F O H v (.frz ds)) : ∃ a xs, v = .ref a ∧ SqL F.K H a xs ∧ Dens F O H xs ds := by
  rcases h with h | ⟨a, e, w⟩
  · cases h with
    | ob w n =>
      cases w with
      | lstz e1 dd => exact ⟨_, _, rfl, .inl (.inr ⟨_, e1⟩), dd⟩
    | lstK h dd => exact ⟨_, _, rfl, h H, dd⟩
  · cases w with
    | lstz e1 dd => exact ⟨a, _, e, .inl (.inr ⟨_, e1⟩), dd⟩
theorem DenP.dct {ks : List Key} {ds : List D} (h : DenP F O H v (.dct ks ds)) : ∃ a kvs, v = .ref a ∧ H a = some (.dK kvs) ∧ kvs.map (·.1) = ks ∧ Dens F O H (kvs.map (·.2)) ds := by
  rcases h with h | ⟨a, e, w⟩
  · cases h with
    | ob w n =>
      cases w with
      | dct e1 k dd => exact ⟨_, _, rfl, e1, k, dd⟩
  · cases w with
    | dct e1 k dd => exact ⟨a, _, e, e1, k, dd⟩
theorem DenP.dcl {ks : List Key} {ds : List D} (h : DenP F O H v (.dcl ks ds)) : ∃ a o kvs, v = .ref a ∧ H a = some (.frz o (.dK kvs)) ∧ kvs.map (·.1) = ks ∧ Dens F O H (kvs.map (·.2)) ds := by
  rcases h with h | ⟨a, e, w⟩
  · cases h with
    | ob w n =>
      cases w with
      | dcl e1 k dd => exact ⟨_, _, _, rfl, e1, k, dd⟩
  · cases w with
    | dcl e1 k dd => exact ⟨a, _, _, e, e1, k, dd⟩
theorem DenP.ins {c : Str} {ns : List Str} {ds : List D} (h : DenP F O H v (.ins c ns ds)) : ∃ a dx fs, v = .ref a ∧ H a = some (.ins (F.CE c) dx fs) ∧ fs.map (·.1) = ns ∧ Dens F O H (fs.map (·.2)) ds := by
  rcases h with h | ⟨a, e, w⟩
  · cases h with
    | ob w n =>
      cases w with
      | ins e1 k dd => exact ⟨_, _, _, rfl, e1, k, dd⟩
  · cases w with
    | ins e1 k dd => exact ⟨a, _, _, e, e1, k, dd⟩
theorem Dens.int1 : ∀ {xs : List V} {ns : List Int}, Dens F O H xs (ns.map D.int) → xs = ns.map V.int
  | _, [], h => by cases h; rfl
  | _, n :: ns, h => by
    cases h with
    | cons a b =>
      rw [den_int a, Dens.int1 b]
      rfl
end

/-! ### numbers -/
def gII (g : Int → Int → Option D) : D → D → Option D
  | .int i, .int j => g i j
  | _, _ => none
theorem gII_some {g : Int → Int → Option D} {x y z : D} (h : gII g x y = some z) : ∃ i j, x = .int i ∧ y = .int j ∧ g i j = some z := by
  unfold gII at h
  split at h
  · exact ⟨_, _, rfl, rfl, h⟩
  · cases h
section
variable {F : Cf}
theorem ok_I0 {f : Int → Int → Int} : OkRP F (rI0 fun i j => .int (f i j)) (gII fun i j => some (.int (f i j))) := fun O H x y dx dy dz Q t a b e q => by
  obtain ⟨i, j, rfl, rfl, e⟩ := gII_some e
  cases e
  exact ⟨i, j, a.int, b.int, q _ H (Same.refl H) (.int _)⟩
theorem ok_B0 {f : Int → Int → Bool} : OkRP F (rI0 fun i j => .bl (f i j)) (gII fun i j => some (.bl (f i j))) := fun O H x y dx dy dz Q t a b e q => by
  obtain ⟨i, j, rfl, rfl, e⟩ := gII_some e
  cases e
  exact ⟨i, j, a.int, b.int, q _ H (Same.refl H) (.bl _)⟩
theorem ok_I {C : Int → Int → Prop} {c : Int → Int → Bool} {f : Int → Int → Int} (hc : ∀ i j, c i j = true → C i j) : OkRP F (rI C fun i j => .int (f i j)) (gII fun i j => if c i j = true then some (.int (f i j)) else none) := fun O H x y dx dy dz Q t a b e q => by
  obtain ⟨i, j, rfl, rfl, e2⟩ := gII_some e
  split at e2
  · rename_i h
    cases e2
    exact ⟨i, j, a.int, b.int, hc i j h, q _ H (Same.refl H) (.int _)⟩
  · cases e2
def gNeg : D → Option D := fun d => match d with | .int i => some (.int (-i)) | _ => none
theorem ok_neg : OkUP F (rU fun i => .int (-i)) gNeg := fun O H x dx dz Q t a e q => by
  unfold gNeg at e
  split at e
  · cases e
    exact ⟨_, a.int, q _ H (Same.refl H) (.int _)⟩
  · cases e
def cMul (i j : Int) : Bool := (decide (-(2 ^ 64) < i) && decide (i < 2 ^ 64)) || (decide (-(2 ^ 64) < j) && decide (j < 2 ^ 64))
theorem cMul_ok (i j : Int) (h : cMul i j = true) : CMul i j := by
  unfold cMul at h
  simp only [Bool.or_eq_true, Bool.and_eq_true, decide_eq_true_eq] at h
  exact h
def gSub : D → D → Option D := gII fun i j => some (.int (i - j))
def cDiv (i j : Int) : Bool := decide (j ≠ 0) && decide (j.natAbs < 1073741824)
theorem cDiv_ok (i j : Int) (h : cDiv i j = true) : CDivN i j := by
  unfold cDiv at h
  simp only [Bool.and_eq_true, decide_eq_true_eq] at h
  exact h
def gDiv : D → D → Option D := gII fun i j => if cDiv i j = true then some (.int (i.fdiv j)) else none
def gMod : D → D → Option D := gII fun i j => if decide (j ≠ 0) = true then some (.int (i.fmod j)) else none
def cPow (i j : Int) : Bool := decide (0 ≤ j) && decide (j ≤ 1000000) && decide (i.natAbs < 2 ^ 64)
theorem cPow_ok (i j : Int) (h : cPow i j = true) : CPow i j := by
  unfold cPow at h
  simp only [Bool.and_eq_true, decide_eq_true_eq] at h
  exact ⟨h.1.1, h.1.2, h.2⟩
def gPow : D → D → Option D := gII fun i j => if cPow i j = true then some (.int (i ^ j.toNat)) else none
def gLt0 : D → D → Option D := gII fun i j => some (.bl (decide (i < j)))
def gLe : D → D → Option D := gII fun i j => some (.bl (decide (i ≤ j)))
def gGt : D → D → Option D := gII fun i j => some (.bl (decide (j < i)))
def gGe : D → D → Option D := gII fun i j => some (.bl (decide (j ≤ i)))

/-! ### sequences: +, * -/
def small2 (xs ys : List D) : Bool := decide (xs.length + ys.length ≤ 1000000)
def gAdd : D → D → Option D
  | .int i, .int j => some (.int (i + j))
  | .tup xs, .tup ys => if small2 xs ys = true then some (.tup (xs ++ ys)) else none
  | .lst xs, .lst ys => if small2 xs ys = true then some (.lst (xs ++ ys)) else none
  | _, _ => none
def rPlus (K : PySem.W.Frag) : R2 := rOr (rI0 fun i j => .int (i + j)) (rOr (rCatA K) rCat)
theorem small2_line {xs ys : List D} {vs ws : List V} {O : Addr → Prop} {H : Hp} (h : small2 xs ys = true) (a : Dens F O H vs xs) (b : Dens F O H ws ys) : vs.length + ws.length ≤ sizeLine := by
  rw [a.length, b.length]
  exact Nat.le_trans (of_decide_eq_true h) (by decide)
theorem lay {O : Addr → Prop} {H : Hp} {p : Addr} {o : HO} {d : D} (t : ∀ a, O a → ∃ o, H a = some o) (hp : H p = none) (w : Bod F O (upd H p o) p d) : Same H (upd H p o) ∧ Den F O (upd H p o) (.ref p) d :=
  ⟨same_new hp, .ob w fun z => by
    obtain ⟨u, hu⟩ := t p z
    rw [hp] at hu
    cases hu⟩
theorem ok_plus : OkR F (rPlus F.K) gAdd := fun O H x y dx dy dz Q t a b e q => by
  unfold gAdd at e
  split at e
  · cases e
    exact .inl ⟨_, _, den_int a, den_int b, q _ H (Same.refl H) (.int _)⟩
  · rename_i xs ys
    split at e
    · rename_i hs
      cases e
      obtain ⟨p, vs, rfl, h1, d1⟩ := tup_of a
      obtain ⟨r, ws, rfl, h2, d2⟩ := tup_of b
      refine .inr (.inl ⟨p, r, vs, ws, rfl, rfl, h1, h2, small2_line hs d1 d2, fun hv => ?_, fun _ hw => ?_, fun _ _ l hl => ?_⟩)
      · subst hv
        cases d1
        exact q _ H (Same.refl H) b
      · subst hw
        cases d2
        rw [List.append_nil] at q
        exact q _ H (Same.refl H) a
      · have sm : Same H (upd H l (.tup (vs ++ ws))) := same_new hl
        obtain ⟨_, w⟩ := lay (F := F) (d := .tup (xs ++ ys)) (o := .tup (vs ++ ws)) t hl (.tup upd_same ((d1.append d2).grow sm))
        exact q _ _ sm w
    · cases e
  · rename_i xs ys
    split at e
    · rename_i hs
      cases e
      obtain ⟨p, vs, rfl, h1, d1⟩ := DenP.lst (.inl a)
      obtain ⟨r, ws, rfl, h2, d2⟩ := DenP.lst (.inl b)
      refine .inr (.inr ⟨p, r, vs, ws, rfl, rfl, h1, h2, small2_line hs d1 d2, fun l hl => ?_⟩)
      have sm : Same H (upd H l (.lst (vs ++ ws))) := same_new hl
      obtain ⟨_, w⟩ := lay (F := F) (d := .lst (xs ++ ys)) (o := .lst (vs ++ ws)) t hl (.lst upd_same ((d1.append d2).grow sm))
      exact q _ _ sm w
    · cases e
  · cases e
theorem op_plus {X : Cx} (hK : X.K = F.K) : OpR X (binaryOp .Add) (rPlus F.K) := by
  rw [← hK]
  exact op_or op_add (op_or op_catA op_cat)
def gMul : D → D → Option D
  | .int i, .int j => if cMul i j = true then some (.int (i * j)) else none
  | .lst xs, .int k => if (decide (0 ≤ k) && decide (k ≤ 1000) && decide (xs.length ≤ 1000)) = true then some (.lst (List.replicate k.toNat xs).flatten) else none
  | _, _ => none
def rMul : R2 := rOr (rI CMul fun i j => .int (i * j)) rRep
theorem dens_rep {O : Addr → Prop} {H : Hp} {vs : List V} {xs : List D} (d : Dens F O H vs xs) : ∀ k : Nat, Dens F O H (List.replicate k vs).flatten (List.replicate k xs).flatten
  | 0 => .nil
  | k + 1 => by
    rw [List.replicate_succ, List.replicate_succ, List.flatten_cons, List.flatten_cons]
    exact d.append (dens_rep d k)
theorem ok_mul : OkR F rMul gMul := fun O H x y dx dy dz Q t a b e q => by
  unfold gMul at e
  split at e
  · rename_i i j
    split at e
    · rename_i h
      cases e
      exact .inl ⟨_, _, den_int a, den_int b, cMul_ok i j h, q _ H (Same.refl H) (.int _)⟩
    · cases e
  · rename_i xs k
    split at e
    · rename_i h
      cases e
      simp only [Bool.and_eq_true, decide_eq_true_eq] at h
      obtain ⟨p, vs, rfl, h1, d1⟩ := DenP.lst (.inl a)
      have hl := d1.length
      have hk : xs.length * k.toNat ≤ 1000 * 1000 := Nat.mul_le_mul h.2 (by omega)
      refine .inr ⟨p, k, vs, rfl, den_int b, h1, by omega, by omega, by rw [hl]; exact Nat.le_trans hk (by decide), fun l hl' => ?_⟩
      have sm : Same H (upd H l (.lst (List.replicate k.toNat vs).flatten)) := same_new hl'
      obtain ⟨_, w⟩ := lay (F := F) (d := .lst (List.replicate k.toNat xs).flatten) (o := .lst (List.replicate k.toNat vs).flatten) t hl' (.lst upd_same ((dens_rep d1 _).grow sm))
      exact q _ _ sm w
    · cases e
  · cases e
theorem op_times {X : Cx} : OpR X (binaryOp .Mult) rMul := op_or op_mul op_rep

/-! ### == -/
mutual
def toPy : D → Option PyData
  | .non => some .none
  | .bl b => some (.bool b)
  | .int i => some (.int i)
  | .str x => some (.str x)
  | .tup ds => (toPys ds).map .tuple
  | .lst ds => (toPys ds).map .list
  | _ => none
def toPys : List D → Option (List PyData)
  | [] => some []
  | d :: ds => (toPy d).bind fun x => (toPys ds).bind fun xs => some (x :: xs)
end
mutual
theorem den_py {O : Addr → Prop} {H : Hp} : ∀ (d : D) (v : V) (p : PyData), Den F O H v d → toPy d = some p → Dp F.K H v p
  | .non, _, _, h, e => by rw [toPy] at e; cases e; rw [den_non h]; exact .non
  | .bl b, _, _, h, e => by rw [toPy] at e; cases e; rw [den_bl h]; exact .bl b
  | .int b, _, _, h, e => by rw [toPy] at e; cases e; rw [den_int h]; exact .int b
  | .str b, _, _, h, e => by rw [toPy] at e; cases e; rw [den_str h]; exact .str b
  | .tup ds, _, _, h, e => by
    rw [toPy] at e
    obtain ⟨ps, e1, e2⟩ := Option.map_eq_some_iff.mp e
    subst e2
    obtain ⟨a, xs, rfl, hs, dd⟩ := tup_of h
    exact .tup hs (dens_py ds xs ps dd e1)
  | .lst ds, _, _, h, e => by
    rw [toPy] at e
    obtain ⟨ps, e1, e2⟩ := Option.map_eq_some_iff.mp e
    subst e2
    obtain ⟨a, xs, rfl, hs, dd⟩ := DenP.lst (.inl h)
    exact .lst (SqL.of hs) (dens_py ds xs ps dd e1)
  | .dct _ _, _, _, _, e => by rw [toPy] at e <;> first | cases e | (intros; contradiction)
  | .dcl _ _, _, _, _, e => by rw [toPy] at e <;> first | cases e | (intros; contradiction)
  | .ins _ _ _, _, _, _, e => by rw [toPy] at e <;> first | cases e | (intros; contradiction)
  | .frz _, _, _, _, e => by rw [toPy] at e <;> first | cases e | (intros; contradiction)
theorem dens_py {O : Addr → Prop} {H : Hp} : ∀ (ds : List D) (vs : List V) (ps : List PyData), Dens F O H vs ds → toPys ds = some ps → DpAll F.K H vs ps
  | [], _, _, h, e => by rw [toPys] at e; cases e; cases h; exact .nil
  | d :: ds, _, _, h, e => by
    rw [toPys] at e
    obtain ⟨x, e1, e⟩ := Option.bind_eq_some_iff.mp e
    obtain ⟨xs, e2, e⟩ := Option.bind_eq_some_iff.mp e
    cases e
    cases h with
    | cons a b => exact .cons (den_py d _ x a e1) (dens_py ds _ xs b e2)
end
theorem denP_py {O : Addr → Prop} {H : Hp} {d : D} {v : V} {p : PyData} (h : DenP F O H v d) (e : toPy d = some p) : Dp F.K H v p := by
  rcases h with h | ⟨a, rfl, w⟩
  · exact den_py d v p h e
  · cases w with
    | tup e1 dd =>
      rw [toPy] at e
      obtain ⟨ps, e3, e2⟩ := Option.map_eq_some_iff.mp e
      subst e2
      exact .tup (.inl (.inl e1)) (dens_py _ _ ps dd e3)
    | lst e1 dd =>
      rw [toPy] at e
      obtain ⟨ps, e3, e2⟩ := Option.map_eq_some_iff.mp e
      subst e2
      exact .lst (SqL.of e1) (dens_py _ _ ps dd e3)
    | lstz e1 dd => rw [toPy] at e <;> first | cases e | (intros; contradiction)
    | dct e1 k dd => rw [toPy] at e <;> first | cases e | (intros; contradiction)
    | dcl e1 k dd => rw [toPy] at e <;> first | cases e | (intros; contradiction)
    | ins e1 k dd => rw [toPy] at e <;> first | cases e | (intros; contradiction)
/-- data as == takes it -/
def pyOf (d : D) : Option PyData := (toPy d).bind fun p => if SeqAt.shaped p = true then some p else none
theorem pyOf_some {d : D} {p : PyData} (h : pyOf d = some p) : toPy d = some p ∧ SeqAt.shaped p = true := by
  obtain ⟨q, e1, e2⟩ := Option.bind_eq_some_iff.mp h
  split at e2
  · rename_i hs
    cases e2
    exact ⟨e1, hs⟩
  · cases e2
def gEq (dx dy : D) : Option D := (pyOf dx).bind fun p => (pyOf dy).bind fun q => some (.bl (PyData.eqv p q))
def gNe (dx dy : D) : Option D := (pyOf dx).bind fun p => (pyOf dy).bind fun q => some (.bl (!PyData.eqv p q))
theorem ok_eq : OkRP F (rEqD F.K) gEq := fun O H x y dx dy dz Q t a b e q => by
  obtain ⟨p, e1, e⟩ := Option.bind_eq_some_iff.mp e
  obtain ⟨r, e2, e⟩ := Option.bind_eq_some_iff.mp e
  cases e
  obtain ⟨p1, p2⟩ := pyOf_some e1
  obtain ⟨r1, r2⟩ := pyOf_some e2
  exact ⟨p, r, denP_py a p1, denP_py b r1, p2, r2, q _ H (Same.refl H) (.bl _)⟩
theorem ok_ne : OkRP F (rNeD F.K) gNe := fun O H x y dx dy dz Q t a b e q => by
  obtain ⟨p, e1, e⟩ := Option.bind_eq_some_iff.mp e
  obtain ⟨r, e2, e⟩ := Option.bind_eq_some_iff.mp e
  cases e
  obtain ⟨p1, p2⟩ := pyOf_some e1
  obtain ⟨r1, r2⟩ := pyOf_some e2
  exact ⟨p, r, denP_py a p1, denP_py b r1, p2, r2, q _ H (Same.refl H) (.bl _)⟩
/-! ### in -/
def flatD : D → Bool
  | .non | .bl _ | .int _ | .str _ => true
  | _ => false
def eqF : D → D → Bool
  | .non, .non => true
  | .bl a, .bl b => a == b
  | .bl a, .int b => (if a then 1 else 0) == b
  | .int a, .bl b => a == (if b then 1 else 0)
  | .int a, .int b => a == b
  | .str a, .str b => a == b
  | _, _ => false
def isInF (x : D) : List D → Bool := fun ds => ds.any fun y => eqF y x
def gIn (neg : Bool) (x y : D) : Option D := match y with
  | .tup ds => if (flatD x && ds.all flatD) = true then some (.bl (if neg then !isInF x ds else isInF x ds)) else none
  | .lst ds => (pyOf x).bind fun p => (pyOf (.lst ds)).bind fun q => match q with
    | .list qs => some (.bl (if neg then !(qs.any fun z => PyData.eqv z p) else (qs.any fun z => PyData.eqv z p)))
    | _ => none
  | _ => none
theorem den_flat {O : Addr → Prop} {H : Hp} {v : V} {d : D} (h : Den F O H v d) (f : flatD d = true) : flatV v = true := by
  cases h with
  | ob w n => cases w <;> cases f
  | tupK h1 h2 => cases f
  | lstK h1 h2 => cases f
  | _ => rfl
theorem dens_flat {O : Addr → Prop} {H : Hp} : ∀ {vs : List V} {ds : List D}, Dens F O H vs ds → ds.all flatD = true → vs.all flatV = true
  | _, _, .nil, _ => rfl
  | _, _, .cons a b, f => by
    rw [List.all_cons, Bool.and_eq_true] at f ⊢
    exact ⟨den_flat a f.1, dens_flat b f.2⟩
theorem eqF_V {O : Addr → Prop} {H : Hp} {v w : V} {d e : D} (h : Den F O H v d) (h2 : Den F O H w e) (f : flatD d = true) (f2 : flatD e = true) : eqV v w = eqF d e := by
  cases h with
  | ob w n => cases w <;> cases f
  | tupK h1 h2 => cases f
  | lstK h1 h2 => cases f
  | _ =>
    cases h2 with
    | ob w n => cases w <;> cases f2
    | tupK h1 h2 => cases f2
    | lstK h1 h2 => cases f2
    | _ => rfl
theorem inV_F {O : Addr → Prop} {H : Hp} {v : V} {x : D} (h : Den F O H v x) (f : flatD x = true) : ∀ {vs : List V} {ds : List D}, Dens F O H vs ds → ds.all flatD = true → inV v vs = isInF x ds
  | _, _, .nil, _ => rfl
  | _, _, .cons a b, g => by
    rw [List.all_cons, Bool.and_eq_true] at g
    have ih := inV_F h f b g.2
    unfold inV isInF at ih ⊢
    rw [List.any_cons, List.any_cons, ih, eqF_V a h g.1 f]
def rInA (K : PySem.W.Frag) (neg : Bool) : R2 := rOr (rIn K neg) (if neg then rNotInD K else rInD K)
theorem ok_in (neg : Bool) : OkRP F (rInA F.K neg) (gIn neg) := fun O H x y dx dy dz Q t a b e q => by
  unfold gIn at e
  split at e
  · rename_i ds
    split at e
    · rename_i h
      cases e
      rw [Bool.and_eq_true] at h
      obtain ⟨p, xs, rfl, hs, dd⟩ := b.tup
      have a' : Den F O H x dx := by
        rcases a with a | ⟨r, rfl, w⟩
        · exact a
        · cases w <;> cases h.1
      refine .inl ⟨p, xs, rfl, .inr hs, den_flat a' h.1, dens_flat dd h.2, ?_⟩
      rw [inV_F a' h.1 dd h.2]
      exact q _ H (Same.refl H) (.bl _)
    · cases e
  · rename_i ds
    obtain ⟨p, e1, e⟩ := Option.bind_eq_some_iff.mp e
    obtain ⟨r, e2, e⟩ := Option.bind_eq_some_iff.mp e
    split at e
    · rename_i qs
      cases e
      obtain ⟨p1, p2⟩ := pyOf_some e1
      obtain ⟨r1, r2⟩ := pyOf_some e2
      refine .inr ?_
      cases neg with
      | true => exact ⟨p, qs, denP_py a p1, denP_py b r1, p2, r2, q _ H (Same.refl H) (.bl _)⟩
      | false => exact ⟨p, qs, denP_py a p1, denP_py b r1, p2, r2, q _ H (Same.refl H) (.bl _)⟩
    · cases e
  · cases e
theorem op_inA {X : Cx} (hK : X.K = F.K) (hu : X.A.units + 65 < cLine) : OpR X (compareOp .In) (rInA F.K false) := by
  rw [← hK]
  exact op_or op_in_seq (op_inD hu)
theorem op_notInA {X : Cx} (hK : X.K = F.K) (hu : X.A.units + 65 < cLine) : OpR X (compareOp .NotIn) (rInA F.K true) := by
  rw [← hK]
  exact op_or op_notIn_seq (op_notInD hu)
theorem op_eqA {X : Cx} (hK : X.K = F.K) (hu : X.A.units + 64 < cLine) : OpR X (compareOp .Eq) (rEqD F.K) := by
  rw [← hK]
  exact op_eqD hu
theorem op_neA {X : Cx} (hK : X.K = F.K) (hu : X.A.units + 64 < cLine) : OpR X (compareOp .NotEq) (rNeD F.K) := by
  rw [← hK]
  exact op_neD hu
/-- is None, is not None -/
def rIsN : R2 := fun x y H Q => y = .non ∧ Q (.bl (decide (x = .non))) H
def rNotN : R2 := fun x y H Q => y = .non ∧ Q (.bl (!decide (x = .non))) H
def isNon : D → Bool
  | .non => true
  | _ => false
theorem dec_non {O : Addr → Prop} {H : Hp} {v : V} {d : D} (h : Den F O H v d) : decide (v = .non) = isNon d := by
  cases h with
  | ob w n => cases w <;> rfl
  | _ => rfl
def gIsN (x y : D) : Option D := match y with | .non => some (.bl (isNon x)) | _ => none
def gNotN (x y : D) : Option D := match y with | .non => some (.bl (!isNon x)) | _ => none
theorem ok_isN : OkR F rIsN gIsN := fun O H x y dx dy dz Q t a b e q => by
  unfold gIsN at e
  split at e
  · cases e
    refine ⟨den_non b, ?_⟩
    rw [dec_non a]
    exact q _ H (Same.refl H) (.bl _)
  · cases e
theorem ok_notN : OkR F rNotN gNotN := fun O H x y dx dy dz Q t a b e q => by
  unfold gNotN at e
  split at e
  · cases e
    refine ⟨den_non b, ?_⟩
    rw [dec_non a]
    exact q _ H (Same.refl H) (.bl _)
  · cases e
end
end Dl

/-! D7: subscripts, slices, len, dicts. -/
namespace Dl
open PySem L2

section
variable {F : Cf} {W : WX} {X : Cx} {a b e o : Expr} {fa fb fe : ESem} {pos p1 p2 p3 : Pos}
/-! ### slots read in place -/
def slotD (env : En) (i : Nat) : Option D := match env[i]? with
  | some (.val d) => some d
  | some s => s.lent
  | none => none
theorem slot_den {B : Addr → Prop} {env : En} {σ : L2.St} {H : Hp} {i : Nat} {d : D} (k : EnvOk F B env σ H) (h : slotD env i = some d) : ∃ v, σ[i]? = some (some v) ∧ DenP F (Os B env σ) H v d := by
  unfold slotD at h
  split at h
  · rename_i d' he
    cases h
    obtain ⟨ov, e1, v, rfl, w⟩ := k.slot he
    exact ⟨v, e1, .inl w⟩
  · rename_i s hn he
    obtain ⟨ov, e1, w⟩ := k.slot he
    cases s with
    | un => cases h
    | ex ns ds => cases h
    | val d' => exact absurd rfl (hn d')
    | _ =>
      cases h
      obtain ⟨r, e2, _, w⟩ := w
      exact ⟨.ref r, by rw [e1, e2], .inr ⟨r, rfl, w⟩⟩
  · cases h
/-- an operator, its left side a slot, read when the right side is known -/
def eBinL (g : D → D → Option D) (i : Nat) (fb : ESem) : ESem := fun env => (lift (slotD env i) env).bind fun _ _ => (fb env).bind fun y e1 => lift ((slotD e1 i).bind fun x => g x y) e1
def eBinR (g : D → D → Option D) (fa : ESem) (i : Nat) : ESem := fun env => (fa env).bind fun x e1 => lift ((slotD e1 i).bind fun y => g x y) e1
def eBinLR (g : D → D → Option D) (i j : Nat) : ESem := fun env => lift ((slotD env i).bind fun x => (slotD env j).bind fun y => g x y) env
def eUnP (g : D → Option D) (i : Nat) : ESem := fun env => lift ((slotD env i).bind g) env
theorem t_opL {r : R2} {g : D → D → Option D} {i : Nat} (hr : OkRP F r g) {σ : L2.St} {H : Hp} {Q : VK} (h : T F W (eBinL g i fb) σ H Q) : tOp r (tVar i) (T F W fb) σ H Q := by
  obtain ⟨B, env, k, p⟩ := h
  obtain ⟨x0, hx0, q0⟩ := Post.lift (e := env) k p.split
  obtain ⟨v, hv, _⟩ := slot_den k hx0
  refine ⟨v, hv, B, env, k, q0.split.imp fun y e1 H1 x1 k1 p1 u du => ?_⟩
  obtain ⟨z, hz, q⟩ := t_lift (P := fun _ => True) k1 p1
  obtain ⟨x, hx, hz⟩ := Option.bind_eq_some_iff.mp hz
  obtain ⟨v', e2, w⟩ := slot_den k1 hx
  rw [hv] at e2
  cases e2
  exact hr _ H1 v u x y z Q (fun a => k1.trkO) w (.inl du) hz q
theorem t_opR {r : R2} {g : D → D → Option D} {i : Nat} (hr : OkRP F r g) {σ : L2.St} {H : Hp} {Q : VK} (h : T F W (eBinR g fa i) σ H Q) : tOp r (T F W fa) (tVar i) σ H Q := by
  obtain ⟨B, env, k, p⟩ := h
  refine ⟨B, env, k, p.split.imp fun x e1 H1 x1 k1 p1 v dv => ?_⟩
  obtain ⟨z, hz, q⟩ := t_lift (P := fun _ => True) k1 p1
  obtain ⟨y, hy, hz⟩ := Option.bind_eq_some_iff.mp hz
  obtain ⟨u, e2, w⟩ := slot_den k1 hy
  exact ⟨u, e2, hr _ H1 v u x y z Q (fun a => k1.trkO) (.inl dv) w hz q⟩
theorem t_opLR {r : R2} {g : D → D → Option D} {i j : Nat} (hr : OkRP F r g) {σ : L2.St} {H : Hp} {Q : VK} (h : T F W (eBinLR g i j) σ H Q) : tOp r (tVar i) (tVar j) σ H Q := by
  obtain ⟨B, env, k, p⟩ := h
  obtain ⟨z, hz, q⟩ := t_lift (P := fun _ => True) k p
  obtain ⟨x, hx, hz⟩ := Option.bind_eq_some_iff.mp hz
  obtain ⟨y, hy, hz⟩ := Option.bind_eq_some_iff.mp hz
  obtain ⟨v, e1, w1⟩ := slot_den k hx
  obtain ⟨u, e2, w2⟩ := slot_den k hy
  exact ⟨v, e1, u, e2, hr _ H v u x y z Q (fun a => k.trkO) w1 w2 hz q⟩
/-- a name, its object not given away -/
theorem pn (i : Nat) {x : Str} (hN : X.N[i]? = some x := by rfl) (hv : Vis X.env.scope x := by first | exact Or.inl rfl | exact Or.inr (Or.inl rfl) | exact Or.inr (Or.inr rfl)) (hd : (x == ("__debug__" : Str)) = false := by decide)
    (hcd : (x == ("__classdict__" : Str)) = false := by decide) : PE X (.Name x pos) (tVar i) := pe_var hN hv hd hcd
theorem d_cmpL {i : Nat} {op : CmpOp} {r : R2} {g : D → D → Option D} (ho : OpR X (compareOp op) r) (hr : OkRP F r g) (ha : PE X a (tVar i)) (hb : DE F W X b fb) (hm : behindInMarks op b = false) : DE F W X (.Compare a [op] [b] pos) (eBinL g i fb) := .of (pe_cmpR ho ha hb hm) fun _ _ _ h => t_opL hr h
theorem d_cmpR {i : Nat} {op : CmpOp} {r : R2} {g : D → D → Option D} (ho : OpR X (compareOp op) r) (hr : OkRP F r g) (ha : DE F W X a fa) (hb : PE X b (tVar i)) (hm : behindInMarks op b = false) : DE F W X (.Compare a [op] [b] pos) (eBinR g fa i) := .of (pe_cmpR ho ha hb hm) fun _ _ _ h => t_opR hr h

/-! ### a[i] of lists and tuples -/
theorem ix_or {r r' : R2} (h : IxR X r) (h' : IxR X r') : IxR X (rOr r r') := fun value slice pins s σ H x y v u Q I rx ry q hs => q.elim (fun z => h value slice pins s σ H x y v u Q I rx ry z hs) fun z => h' value slice pins s σ H x y v u Q I rx ry z hs
def rIx (K : PySem.W.Frag) : R2 := rOr (rIxL K) (rIxT K)
theorem ix_any (hK : X.K = F.K) : IxR X (rIx F.K) := by
  rw [← hK]
  exact ix_or ix_list ix_tup
def gIx : D → D → Option D
  | .tup ds, .int i => atI ds i
  | .lst ds, .int i => atI ds i
  | _, _ => none
theorem dens_at {O : Addr → Prop} {H : Hp} {vs : List V} {ds : List D} {i : Int} {d : D} (h : Dens F O H vs ds) (e : atI ds i = some d) : ∃ v, atI vs i = some v ∧ Den F O H v d := by
  unfold atI at e ⊢
  obtain ⟨j, e1, e2⟩ := Option.bind_eq_some_iff.mp e
  obtain ⟨v, h1, h2⟩ := h.get e2
  exact ⟨v, by rw [h.length, e1]; exact h1, h2⟩
theorem ok_ix : OkRP F (rIx F.K) gIx := fun O H x y dx dy dz Q t a b e q => by
  unfold gIx at e
  split at e
  · obtain ⟨p, xs, rfl, hs, dd⟩ := a.tup
    obtain ⟨v, hv, dv⟩ := dens_at dd e
    exact .inr ⟨p, xs, _, v, rfl, b.int, hs, hv, q v H (Same.refl H) dv⟩
  · obtain ⟨p, xs, rfl, hs, dd⟩ := a.lst
    obtain ⟨v, hv, dv⟩ := dens_at dd e
    exact .inl ⟨p, xs, _, v, rfl, b.int, SqL.of hs, hv, q v H (Same.refl H) dv⟩
  · cases e
theorem d_ix (hK : X.K = F.K) (ha : DE F W X a fa) (hb : DE F W X b fb) (hs : PlainIx b) : DE F W X (.Subscript a b pos) (eBin gIx fa fb) := .of (pe_ix (ix_any hK) ha hb hs) fun _ _ _ h => t_op ok_ix.ok h
theorem d_ixL {i : Nat} (hK : X.K = F.K) (ha : PE X a (tVar i)) (hb : DE F W X b fb) (hs : PlainIx b) : DE F W X (.Subscript a b pos) (eBinL gIx i fb) := .of (pe_ix (ix_any hK) ha hb hs) fun _ _ _ h => t_opL ok_ix h

/-! ### slices -/
abbrev OSem := En → Out (Option Int)
def TO' (F : Cf) (W : WX) (f : OSem) : TO := fun σ H Q => ∃ B env, EnvOk F B env σ H ∧ Post F W B σ env H (fun o _ H' => Q o H') (f env)
def oNo : OSem := fun env => .ok none env
def oYes (fe : ESem) : OSem := fun env => (fe env).bind fun d e1 => match d with | .int i => .ok (some i) e1 | _ => .stuck
abbrev DO (F : Cf) (W : WX) (X : Cx) (e : Option Expr) (f : OSem) : Prop := PO X e (TO' F W f)
theorem do_none : DO F W X none oNo := ⟨fun pins s σ H Q I ⟨B, env, k, p⟩ => po_none.run pins s σ H Q I (p H (Ext.refl _ _ _) k)⟩
theorem do_some (h : DE F W X e fe) : DO F W X (some e) (oYes fe) := ⟨fun pins s σ H Q I ⟨B, env, k, p⟩ => (po_some h).run pins s σ H Q I ⟨B, env, k, p.split.imp fun d e1 H1 x1 k1 p1 v dv => by
  cases d with
  | int i => exact ⟨i, den_int dv, p1 H1 (Ext.refl _ _ _) k1⟩
  | _ => exact p1.elim⟩⟩
def cutD (xs : List D) (lo hi : Option Int) : List D := (xs.drop (HT.sIx xs.length 0 lo)).take (HT.sIx xs.length xs.length hi - HT.sIx xs.length 0 lo)
def gSl (d : D) (lo hi : Option Int) : Option D := match d with
  | .lst ds => some (.lst (cutD ds lo hi))
  | .frz ds => some (.lst (cutD ds lo hi))
  | .tup ds => some (.tup (cutD ds lo hi))
  | _ => none
def rSl (K : PySem.W.Frag) : V → Option Int → Option Int → Hp → VK → Prop := fun x lo hi H Q => rSlL K x lo hi H Q ∨ rSlA K x lo hi H Q
theorem dens_cut {O : Addr → Prop} {H : Hp} {vs : List V} {ds : List D} (h : Dens F O H vs ds) (lo hi : Option Int) : Dens F O H (cutV vs lo hi) (cutD ds lo hi) := by
  unfold cutV cutD
  rw [h.length]
  exact (h.drop _).take _
theorem ok_sl {O : Addr → Prop} {H : Hp} {x : V} {dx dz : D} {lo hi : Option Int} {Q : VK} (t : ∀ a, O a → ∃ o, H a = some o) (a : DenP F O H x dx) (hx : ∀ ds, dx = .tup ds → Den F O H x dx) (e : gSl dx lo hi = some dz) (q : ∀ v H', Same H H' → Den F O H' v dz → Q v H') : rSl F.K x lo hi H Q := by
  unfold gSl at e
  split at e
  · rename_i ds
    cases e
    obtain ⟨p, xs, rfl, hs, dd⟩ := a.lst
    refine .inl ⟨p, xs, rfl, SqL.of hs, fun l hl => ?_⟩
    obtain ⟨sm, w⟩ := lay (F := F) (d := .lst (cutD ds lo hi)) (o := .lst (cutV xs lo hi)) t hl (.lst upd_same ((dens_cut dd lo hi).grow (same_new hl)))
    exact q _ _ sm w
  · rename_i ds
    cases e
    obtain ⟨p, xs, rfl, hs, dd⟩ := a.frz
    refine .inl ⟨p, xs, rfl, hs, fun l hl => ?_⟩
    obtain ⟨sm, w⟩ := lay (F := F) (d := .lst (cutD ds lo hi)) (o := .lst (cutV xs lo hi)) t hl (.lst upd_same ((dens_cut dd lo hi).grow (same_new hl)))
    exact q _ _ sm w
  · rename_i ds
    cases e
    have a' := hx ds rfl
    obtain ⟨p, xs, rfl, hs, dd⟩ := tup_of a'
    refine .inr ⟨p, xs, rfl, hs, fun hw => ?_, fun hw l hl => ?_⟩
    · have ec : cutD ds lo hi = ds := by
        unfold cutD
        rw [← dd.length, hw.1, hw.2, List.drop_zero, Nat.sub_zero, dd.length]
        exact List.take_length
      rw [ec] at q
      exact q _ H (Same.refl H) a'
    · obtain ⟨sm, w⟩ := lay (F := F) (d := .tup (cutD ds lo hi)) (o := .tup (cutV xs lo hi)) t hl (.tup upd_same ((dens_cut dd lo hi).grow (same_new hl)))
      exact q _ _ sm w
  · cases e
def eSl (fe : ESem) (fl fh : OSem) : ESem := fun env => (fe env).bind fun x e1 => (fl e1).bind fun l e2 => (fh e2).bind fun h e3 => lift (gSl x l h) e3
theorem d_sl {lo hi : Option Expr} {fl fh : OSem} (hK : X.K = F.K) (he : DE F W X e fe) (hl : DO F W X lo fl) (hh : DO F W X hi fh) : DE F W X (.Subscript e (.Slice lo hi none p2) pos) (eSl fe fl fh) :=
  .of (pe_slice (r := rSl F.K) (by rw [← hK]; exact SlR.or sl_list sl_tupA) he hl hh) fun σ H Q ⟨B, env, k, p⟩ =>
    ⟨B, env, k, p.split.imp fun x e1 H1 x1 k1 p1 v dv => ⟨B, e1, k1, p1.split.imp fun l e2 H2 x2 k2 p2 => ⟨B, e2, k2, p2.split.imp fun h e3 H3 x3 k3 p3 => by
      obtain ⟨z, hz, q⟩ := t_lift (P := fun _ => True) k3 p3
      have d3 := x3.den k2 (x2.den k1 dv)
      exact ok_sl (fun a => k3.trkO) (.inl d3) (fun _ _ => d3) hz q⟩⟩⟩

/-! ### calls of built-ins by name -/
def eCB (g : List D → Option D) (fa : ASem) : ESem := fun env => (fa env).bind fun ds e1 => lift (g ds) e1
theorem t_cb {r : List V → Hp → VK → Prop} {g : List D → Option D} {ha : ASem} (hr : OkC F r g) {σ : L2.St} {H : Hp} {Q : VK} (h : T F W (eCB g ha) σ H Q) : tCB r (TAs F W ha) σ H Q := by
  obtain ⟨B, env, k, p⟩ := h
  refine ⟨B, env, k, p.split.imp fun ds e1 H1 x1 k1 p1 vs dvs => ?_⟩
  obtain ⟨z, hz, q⟩ := t_lift (P := fun _ => True) k1 p1
  exact hr _ H1 vs ds z Q (fun a => k1.trkO) dvs hz q
theorem d_cb {es : List Expr} {x : Str} {id : String} {r : List V → Hp → VK → Prop} {g : List D → Option D} {ha : ASem} {p : Pos} (hc : CallR X (.builtin id) r) (hr : OkC F r g) (hg : Gl X x) (hm : X.mg x = none) (hv : bootBuiltins x = some (.builtin id)) (h : DA F W X (e :: es) ha) (hn : x ≠ "__name__" := by decide) (hdb : (x == ("__debug__" : Str)) = false := by decide)
    (he : starEach (e :: es) X.env = (false, eval e X.env) :: starEach es X.env := by rfl) (hpl : (backTo pos (starEach es X.env)).any (·.1) = false := by rfl) : DE F W X (.Call (.Name x p) (e :: es) [] pos) (eCB g ha) :=
  .of (pe_callB hc hg hm hv h hn hdb he hpl) fun _ _ _ q => t_cb hr q
theorem d_cty {es : List Expr} {x : Str} {Ty : String} {r : List V → Hp → VK → Prop} {g : List D → Option D} {ha : ASem} {p : Pos} (hc : CallR X (.type Ty) r) (hr : OkC F r g) (hg : Gl X x) (hm : X.mg x = none) (hv : bootBuiltins x = some (.type Ty)) (h : DA F W X (e :: es) ha) (hn : x ≠ "__name__" := by decide) (hdb : (x == ("__debug__" : Str)) = false := by decide)
    (he : starEach (e :: es) X.env = (false, eval e X.env) :: starEach es X.env := by rfl) (hpl : (backTo pos (starEach es X.env)).any (·.1) = false := by rfl) : DE F W X (.Call (.Name x p) (e :: es) [] pos) (eCB g ha) :=
  .of (pe_callTy hc hg hm hv h hn hdb he hpl) fun _ _ _ q => t_cb hr q
/-- one argument, a slot read in place -/
theorem t_cbP {r : List V → Hp → VK → Prop} {g : D → Option D} {i : Nat} (hr : OkUP F (fun x H Q => r [x] H Q) g) {σ : L2.St} {H : Hp} {Q : VK} (h : T F W (eUnP g i) σ H Q) : tCB r (tCons (tVar i) tNil) σ H Q := by
  obtain ⟨B, env, k, p⟩ := h
  obtain ⟨z, hz, q⟩ := t_lift (P := fun _ => True) k p
  obtain ⟨x, hx, hz⟩ := Option.bind_eq_some_iff.mp hz
  obtain ⟨v, e1, w1⟩ := slot_den k hx
  exact ⟨v, e1, hr _ H v x z Q (fun a => k.trkO) w1 hz q⟩
theorem d_cbP {i : Nat} {x : Str} {id : String} {r : List V → Hp → VK → Prop} {g : D → Option D} {p : Pos} (hc : CallR X (.builtin id) r) (hr : OkUP F (fun x H Q => r [x] H Q) g) (hg : Gl X x) (hm : X.mg x = none) (hv : bootBuiltins x = some (.builtin id)) (h : PE X e (tVar i)) (hn : x ≠ "__name__" := by decide) (hdb : (x == ("__debug__" : Str)) = false := by decide)
    (he : starEach [e] X.env = (false, eval e X.env) :: starEach [] X.env := by rfl) (hpl : (backTo pos (starEach [] X.env)).any (·.1) = false := by rfl) : DE F W X (.Call (.Name x p) [e] [] pos) (eUnP g i) :=
  .of (pe_callB hc hg hm hv (pa_cons h pa_nil he) hn hdb he hpl) fun _ _ _ q => t_cbP hr q
def g1 (g : D → Option D) : List D → Option D
  | [d] => g d
  | _ => none
def g2 (g : D → D → Option D) : List D → Option D
  | [d, e] => g d e
  | _ => none
theorem ok_c1 {r : List V → Hp → VK → Prop} {g : D → Option D} (h : OkUP F (fun x H Q => r [x] H Q) g) : OkC F r (g1 g) := fun O H xs ds dz Q t d e q => by
  unfold g1 at e
  split at e
  · cases d with
    | cons a r => cases r; exact h O H _ _ dz Q t (.inl a) e q
  · cases e
theorem ok_c2 {r : List V → Hp → VK → Prop} {g : D → D → Option D} (h : OkR F (fun x y H Q => r [x, y] H Q) g) : OkC F r (g2 g) := fun O H xs ds dz Q t d e q => by
  unfold g2 at e
  split at e
  · cases d with
    | cons a r =>
      cases r with
      | cons b r => cases r; exact h O H _ _ _ _ dz Q t a b e q
  · cases e
theorem call_or {f : Value} {r r' : List V → Hp → VK → Prop} (h : CallR X f r) (h' : CallR X f r') : CallR X f fun xs H Q => r xs H Q ∨ r' xs H Q := fun pins s σ H xs us Q I rv q => q.elim (h pins s σ H xs us Q I rv) (h' pins s σ H xs us Q I rv)
/-- len -/
def gLen : D → Option D
  | .lst ds => some (.int ds.length)
  | .tup ds => some (.int ds.length)
  | .dct ks _ => some (.int ks.length)
  | .dcl ks _ => some (.int ks.length)
  | _ => none
def rLn (K : PySem.W.Frag) : List V → Hp → VK → Prop := fun xs H Q => (∃ p ys, xs = [.ref p] ∧ (SqL K H p ys ∨ SqT K H p ys) ∧ Q (.int ys.length) H) ∨ ∃ a kvs, xs = [V.ref a] ∧ Rd H a (.dK kvs) ∧ Q (.int kvs.length) H
theorem call_lenR : CallR X (.builtin "len") (fun xs H Q => ∃ a kvs, xs = [V.ref a] ∧ Rd H a (.dK kvs) ∧ Q (.int kvs.length) H) := by
  intro pins s σ H xs us Q I r h
  obtain ⟨a, kvs, rfl, ha, q⟩ := h
  obtain ⟨u, rfl, ru⟩ := vals1 r
  cases ru
  exact d_len I ha fun t s' I' => ⟨.int kvs.length, H, I', ⟨t, rfl⟩, q⟩
theorem call_ln (hK : X.K = F.K) : CallR X (.builtin "len") (rLn F.K) := by
  rw [← hK]
  exact call_or call_len_seq call_lenR
theorem ok_len : OkUP F (fun x H Q => rLn F.K [x] H Q) gLen := fun O H x dx dz Q t a e q => by
  unfold gLen at e
  split at e
  · cases e
    obtain ⟨p, xs, rfl, hs, dd⟩ := a.lst
    rw [← dd.length] at q
    exact .inl ⟨p, xs, rfl, .inl (SqL.of hs), q _ H (Same.refl H) (.int _)⟩
  · cases e
    obtain ⟨p, xs, rfl, hs, dd⟩ := a.tup
    rw [← dd.length] at q
    exact .inl ⟨p, xs, rfl, .inr hs, q _ H (Same.refl H) (.int _)⟩
  · cases e
    obtain ⟨p, kvs, rfl, hs, k, dd⟩ := a.dct
    subst k
    rw [List.length_map] at q
    exact .inr ⟨p, kvs, rfl, .inl hs, q _ H (Same.refl H) (.int _)⟩
  · cases e
    obtain ⟨p, o, kvs, rfl, hs, k, dd⟩ := a.dcl
    subst k
    rw [List.length_map] at q
    exact .inr ⟨p, kvs, rfl, .inr ⟨o, hs⟩, q _ H (Same.refl H) (.int _)⟩
  · cases e
/-- abs, int, min, max of two -/
def gAbs : D → Option D
  | .int i => some (.int (if i < 0 then -i else i))
  | _ => none
theorem ok_abs : OkUP F (fun x H Q => ∃ i, [x] = [V.int i] ∧ Q (.int (if i < 0 then -i else i)) H) gAbs := fun O H x dx dz Q t a e q => by
  unfold gAbs at e
  split at e
  · cases e
    exact ⟨_, by rw [a.int], q _ H (Same.refl H) (.int _)⟩
  · cases e
def gInt : D → Option D
  | .int i => some (.int i)
  | .bl k => some (.int (if k then 1 else 0))
  | _ => none
theorem ok_int : OkUP F (fun x H Q => (∃ i, [x] = [V.int i] ∧ Q (.int i) H) ∨ ∃ k, [x] = [V.bl k] ∧ Q (.int (if k then 1 else 0)) H) gInt := fun O H x dx dz Q t a e q => by
  unfold gInt at e
  split at e
  · cases e
    exact .inl ⟨_, by rw [a.int], q _ H (Same.refl H) (.int _)⟩
  · cases e
    exact .inr ⟨_, by rw [a.bl], q _ H (Same.refl H) (.int _)⟩
  · cases e
def gMax2 : D → D → Option D := gII fun i j => some (.int (if j > i then j else i))
def gMin2 : D → D → Option D := gII fun i j => some (.int (if j < i then j else i))
theorem ok_max2 : OkR F (fun x y H Q => ∃ i j, [x, y] = [V.int i, V.int j] ∧ Q (.int (if j > i then j else i)) H) gMax2 := fun O H x y dx dy dz Q t a b e q => by
  obtain ⟨i, j, rfl, rfl, e⟩ := gII_some e
  cases e
  exact ⟨i, j, by rw [den_int a, den_int b], q _ H (Same.refl H) (.int _)⟩
theorem ok_min2 : OkR F (fun x y H Q => ∃ i j, [x, y] = [V.int i, V.int j] ∧ Q (.int (if j < i then j else i)) H) gMin2 := fun O H x y dx dy dz Q t a b e q => by
  obtain ⟨i, j, rfl, rfl, e⟩ := gII_some e
  cases e
  exact ⟨i, j, by rw [den_int a, den_int b], q _ H (Same.refl H) (.int _)⟩
/-- the toInts, the toBools of a list -/
def toInts : List D → Option (List Int)
  | [] => some []
  | .int i :: ds => (toInts ds).map (i :: ·)
  | _ => none
def toBools : List D → Option (List Bool)
  | [] => some []
  | .bl i :: ds => (toBools ds).map (i :: ·)
  | _ => none
theorem intsV {O : Addr → Prop} {H : Hp} : ∀ {ds : List D} {vs : List V} {ns : List Int}, toInts ds = some ns → Dens F O H vs ds → vs = ns.map V.int
  | [], _, _, e, h => by cases e; cases h; rfl
  | .int i :: ds, _, _, e, h => by
    obtain ⟨ns, e1, e2⟩ := Option.map_eq_some_iff.mp e
    subst e2
    cases h with
    | cons a b =>
      rw [den_int a, intsV e1 b]
      rfl
  | .non :: _, _, _, e, _ => by cases e
  | .bl _ :: _, _, _, e, _ => by cases e
  | .str _ :: _, _, _, e, _ => by cases e
  | .tup _ :: _, _, _, e, _ => by cases e
  | .lst _ :: _, _, _, e, _ => by cases e
  | .dct _ _ :: _, _, _, e, _ => by cases e
  | .dcl _ _ :: _, _, _, e, _ => by cases e
  | .ins _ _ _ :: _, _, _, e, _ => by cases e
  | .frz _ :: _, _, _, e, _ => by cases e
theorem bools_V {O : Addr → Prop} {H : Hp} : ∀ {ds : List D} {vs : List V} {ns : List Bool}, toBools ds = some ns → Dens F O H vs ds → vs = ns.map V.bl
  | [], _, _, e, h => by cases e; cases h; rfl
  | .bl i :: ds, _, _, e, h => by
    obtain ⟨ns, e1, e2⟩ := Option.map_eq_some_iff.mp e
    subst e2
    cases h with
    | cons a b =>
      rw [den_bl a, bools_V e1 b]
      rfl
  | .non :: _, _, _, e, _ => by cases e
  | .int _ :: _, _, _, e, _ => by cases e
  | .str _ :: _, _, _, e, _ => by cases e
  | .tup _ :: _, _, _, e, _ => by cases e
  | .lst _ :: _, _, _, e, _ => by cases e
  | .dct _ _ :: _, _, _, e, _ => by cases e
  | .dcl _ _ :: _, _, _, e, _ => by cases e
  | .ins _ _ _ :: _, _, _, e, _ => by cases e
  | .frz _ :: _, _, _, e, _ => by cases e
theorem ints_map (ns : List Int) : toInts (ns.map D.int) = some ns := by
  induction ns with
  | nil => rfl
  | cons n ns ih =>
    rw [List.map_cons, toInts, ih]
    rfl
theorem bools_map (ns : List Bool) : toBools (ns.map D.bl) = some ns := by
  induction ns with
  | nil => rfl
  | cons n ns ih =>
    rw [List.map_cons, toBools, ih]
    rfl
theorem dens_ints {O : Addr → Prop} {H : Hp} : ∀ (ns : List Int), Dens F O H (ns.map V.int) (ns.map D.int)
  | [] => .nil
  | n :: ns => .cons (.int n) (dens_ints ns)
def gSum : D → Option D
  | .lst ds => (toInts ds).map fun ns => .int ns.sum
  | _ => none
def gAll : D → Option D
  | .lst ds => (toBools ds).map fun bs => .bl (bs.all id)
  | _ => none
def gAny : D → Option D
  | .lst ds => (toBools ds).map fun bs => .bl (bs.any id)
  | _ => none
theorem ok_sum : OkUP F (fun x H Q => rSum F.K [x] H Q) gSum := fun O H x dx dz Q t a e q => by
  unfold gSum at e
  split at e
  · obtain ⟨ns, e1, e2⟩ := Option.map_eq_some_iff.mp e
    subst e2
    obtain ⟨p, xs, rfl, hs, dd⟩ := a.lst
    have ev := intsV e1 dd
    subst ev
    exact ⟨p, ns, rfl, SqL.of hs, q _ H (Same.refl H) (.int _)⟩
  · cases e
theorem ok_all : OkUP F (fun x H Q => rAll F.K [x] H Q) gAll := fun O H x dx dz Q t a e q => by
  unfold gAll at e
  split at e
  · obtain ⟨ns, e1, e2⟩ := Option.map_eq_some_iff.mp e
    subst e2
    obtain ⟨p, xs, rfl, hs, dd⟩ := a.lst
    have ev := bools_V e1 dd
    subst ev
    exact ⟨p, ns, rfl, SqL.of hs, q _ H (Same.refl H) (.bl _)⟩
  · cases e
theorem ok_any : OkUP F (fun x H Q => rAny F.K [x] H Q) gAny := fun O H x dx dz Q t a e q => by
  unfold gAny at e
  split at e
  · obtain ⟨ns, e1, e2⟩ := Option.map_eq_some_iff.mp e
    subst e2
    obtain ⟨p, xs, rfl, hs, dd⟩ := a.lst
    have ev := bools_V e1 dd
    subst ev
    exact ⟨p, ns, rfl, SqL.of hs, q _ H (Same.refl H) (.bl _)⟩
  · cases e
end
end Dl

/-! D8: what a def promises; calls. -/
namespace Dl
open PySem L2

/-- how a parameter is taken: as data, lent to be changed, lent to be read -/
inductive Mode where | v | m | b
  deriving DecidableEq
inductive FOut where
  | ret (d : D) (outs : List D)
  | exc (c : Str) (ns : List Str) (ds : List D) (outs : List D)
  | stuck
abbrev FSem := List D → FOut
inductive ArgsOk (F : Cf) (B : Addr → Prop) (H : Hp) : List Mode → List V → List D → Prop
  | nil : ArgsOk F B H [] [] []
  | v {v : V} {d : D} {ms : List Mode} {vs : List V} {ds : List D} : Den F B H v d → ArgsOk F B H ms vs ds → ArgsOk F B H (.v :: ms) (v :: vs) (d :: ds)
  | m {a : Addr} {d : D} {ms : List Mode} {vs : List V} {ds : List D} : B a → Bod F B H a d → ArgsOk F B H ms vs ds → ArgsOk F B H (.m :: ms) (.ref a :: vs) (d :: ds)
  | b {a : Addr} {d : D} {ms : List Mode} {vs : List V} {ds : List D} : B a → Bod F B H a d → ArgsOk F B H ms vs ds → ArgsOk F B H (.b :: ms) (.ref a :: vs) (d :: ds)
/-- the lent objects' addresses; those to be changed -/
def lentA : List Mode → List V → List Addr
  | .v :: ms, _ :: vs => lentA ms vs
  | .m :: ms, .ref a :: vs => a :: lentA ms vs
  | .b :: ms, .ref a :: vs => a :: lentA ms vs
  | _, _ => []
def mutA : List Mode → List V → List Addr
  | .m :: ms, .ref a :: vs => a :: mutA ms vs
  | _ :: ms, _ :: vs => mutA ms vs
  | _, _ => []
inductive OutsOk (F : Cf) (B : Addr → Prop) (H : Hp) : List Mode → List V → List D → Prop
  | nil : OutsOk F B H [] [] []
  | v {v : V} {ms : List Mode} {vs : List V} {ds : List D} : OutsOk F B H ms vs ds → OutsOk F B H (.v :: ms) (v :: vs) ds
  | b {v : V} {ms : List Mode} {vs : List V} {ds : List D} : OutsOk F B H ms vs ds → OutsOk F B H (.b :: ms) (v :: vs) ds
  | m {a : Addr} {d : D} {ms : List Mode} {vs : List V} {ds : List D} : Bod F B H a d → OutsOk F B H ms vs ds → OutsOk F B H (.m :: ms) (.ref a :: vs) (d :: ds)
structure FExt (M : List Addr) (H H' : Hp) : Prop where
  keep : ∀ a o, a ∉ M → H a = some o → H' a = some o
  dom : ∀ a o, H a = some o → ∃ o', H' a = some o'
def spF (F : Cf) (ms : List Mode) (f : FSem) : Sp := fun vs H Q E => ∃ B ds, (∀ a, B a → ∃ o, H a = some o) ∧ ArgsOk F B H ms vs ds ∧ (lentA ms vs).Nodup ∧ match f ds with
  | .ret d outs => ∀ v H', FExt (mutA ms vs) H H' → Den F B H' v d → OutsOk F B H' ms vs outs → Q v H'
  | .exc c ns es outs => ∀ dx H', FExt (mutA ms vs) H H' → ExcAt F B H' dx ns es → OutsOk F B H' ms vs outs → E (.ref (F.CE c)) dx H'
  | .stuck => False
theorem ArgsOk.len {F : Cf} {B : Addr → Prop} {H : Hp} : ∀ {ms : List Mode} {vs : List V} {ds : List D}, ArgsOk F B H ms vs ds → vs.length = ms.length ∧ ds.length = ms.length
  | _, _, _, .nil => ⟨rfl, rfl⟩
  | _, _, _, .v _ r => let ⟨h1, h2⟩ := r.len; ⟨by rw [List.length_cons, h1]; rfl, by rw [List.length_cons, h2]; rfl⟩
  | _, _, _, .m _ _ r => let ⟨h1, h2⟩ := r.len; ⟨by rw [List.length_cons, h1]; rfl, by rw [List.length_cons, h2]; rfl⟩
  | _, _, _, .b _ _ r => let ⟨h1, h2⟩ := r.len; ⟨by rw [List.length_cons, h1]; rfl, by rw [List.length_cons, h2]; rfl⟩

/-! ### a def -/
def mkEnv : List Mode → List D → Nat → En
  | .v :: ms, d :: ds, n + 1 => .val d :: mkEnv ms ds n
  | .m :: ms, d :: ds, n + 1 => .mt d :: mkEnv ms ds n
  | .b :: ms, d :: ds, n + 1 => .br d :: mkEnv ms ds n
  | _, _, n => List.replicate n .un
def outsOf : List Mode → En → Option (List D)
  | [], _ => some []
  | .m :: ms, s :: e => match s with
    | .mt o => (outsOf ms e).map (o :: ·)
    | _ => none
  | _ :: ms, _ :: e => outsOf ms e
  | _ :: _, [] => none
def fnOf (ms : List Mode) (n : Nat) (g : SSem) : FSem := fun ds => if ds.length = ms.length then match g (mkEnv ms ds n) with
    | .nx e => match outsOf ms e with | some o => .ret .non o | none => .stuck
    | .rt d e => match outsOf ms e with | some o => .ret d o | none => .stuck
    | .exc c ns es e => match outsOf ms e with | some o => .exc c ns es o | none => .stuck
    | _ => .stuck
  else .stuck
section
variable {F : Cf} {B : Addr → Prop} {H : Hp}
theorem mem_lent : ∀ {ms : List Mode} {vs : List V} {i : Nat} {a : Addr}, (ms[i]? = some .m ∨ ms[i]? = some .b) → vs[i]? = some (.ref a) → ms.length = vs.length → (∀ j : Nat, (ms[j]? = some Mode.m ∨ ms[j]? = some Mode.b) → ∃ c, vs[j]? = some (V.ref c)) → a ∈ lentA ms vs
  | [], _, i, _, h, _, _, _ => by rcases h with h | h <;> simp at h
  | m :: ms, [], _, _, _, h, _, _ => by simp at h
  | m :: ms, v :: vs, 0, a, h, h2, hl, hr => by
    simp only [List.getElem?_cons_zero, Option.some.injEq] at h h2
    subst h2
    rcases h with h | h <;> subst h <;> exact List.mem_cons_self
  | m :: ms, v :: vs, i + 1, a, h, h2, hl, hr => by
    have ih := mem_lent (ms := ms) (vs := vs) (i := i) (a := a) (by simpa using h) (by simpa using h2) (by simpa using hl) fun j hj => by simpa using hr (j + 1) (by simpa using hj)
    cases m with
    | v => exact ih
    | m =>
      obtain ⟨c, hc⟩ := hr 0 (.inl rfl)
      simp only [List.getElem?_cons_zero, Option.some.injEq] at hc
      subst hc
      exact List.mem_cons_of_mem _ ih
    | b =>
      obtain ⟨c, hc⟩ := hr 0 (.inr rfl)
      simp only [List.getElem?_cons_zero, Option.some.injEq] at hc
      subst hc
      exact List.mem_cons_of_mem _ ih
theorem mkEnv_length : ∀ {ms : List Mode} {ds : List D} {n : Nat}, ds.length ≤ n → (mkEnv ms ds n).length = n
  | [], _, n, _ => by unfold mkEnv; exact List.length_replicate
  | .v :: ms, [], n, _ => by unfold mkEnv; exact List.length_replicate
  | .m :: ms, [], n, _ => by unfold mkEnv; exact List.length_replicate
  | .b :: ms, [], n, _ => by unfold mkEnv; exact List.length_replicate
  | .v :: ms, d :: ds, 0, h => by simp at h
  | .m :: ms, d :: ds, 0, h => by simp at h
  | .b :: ms, d :: ds, 0, h => by simp at h
  | .v :: ms, d :: ds, n + 1, h => by unfold mkEnv; rw [List.length_cons, mkEnv_length (by simpa using h)]
  | .m :: ms, d :: ds, n + 1, h => by unfold mkEnv; rw [List.length_cons, mkEnv_length (by simpa using h)]
  | .b :: ms, d :: ds, n + 1, h => by unfold mkEnv; rw [List.length_cons, mkEnv_length (by simpa using h)]
/-- a slot of the start -/
theorem mkEnv_get : ∀ {ms : List Mode} {vs : List V} {ds : List D} {n i : Nat} {s : Sl}, ArgsOk F B H ms vs ds → (mkEnv ms ds n)[i]? = some s → s = .un ∨ ∃ v d, vs[i]? = some v ∧ ds[i]? = some d ∧
    ((ms[i]? = some .v ∧ s = .val d ∧ Den F B H v d) ∨ (ms[i]? = some .m ∧ s = .mt d ∧ ∃ a, v = .ref a ∧ B a ∧ Bod F B H a d) ∨ (ms[i]? = some .b ∧ s = .br d ∧ ∃ a, v = .ref a ∧ B a ∧ Bod F B H a d))
  | _, _, _, n, i, s, .nil, h => by
    unfold mkEnv at h
    obtain ⟨_, e⟩ := List.getElem?_eq_some_iff.mp h
    rw [List.getElem_replicate] at e
    exact .inl e.symm
  | _, _, _, 0, i, s, .v _ _, h => by
    simp [mkEnv] at h
  | _, _, _, 0, i, s, .m _ _ _, h => by
    simp [mkEnv] at h
  | _, _, _, 0, i, s, .b _ _ _, h => by
    simp [mkEnv] at h
  | _, _, _, n + 1, 0, s, .v (v := v) (d := d) x r, h => by
    simp only [mkEnv, List.getElem?_cons_zero, Option.some.injEq] at h
    exact .inr ⟨v, d, rfl, rfl, .inl ⟨rfl, h.symm, x⟩⟩
  | _, _, _, n + 1, 0, s, .m (a := a) (d := d) x y r, h => by
    simp only [mkEnv, List.getElem?_cons_zero, Option.some.injEq] at h
    exact .inr ⟨_, d, rfl, rfl, .inr (.inl ⟨rfl, h.symm, a, rfl, x, y⟩)⟩
  | _, _, _, n + 1, 0, s, .b (a := a) (d := d) x y r, h => by
    simp only [mkEnv, List.getElem?_cons_zero, Option.some.injEq] at h
    exact .inr ⟨_, d, rfl, rfl, .inr (.inr ⟨rfl, h.symm, a, rfl, x, y⟩)⟩
  | _, _, _, n + 1, i + 1, s, .v x r, h => by
    simp only [mkEnv, List.getElem?_cons_succ] at h ⊢
    exact mkEnv_get r h
  | _, _, _, n + 1, i + 1, s, .m x y r, h => by
    simp only [mkEnv, List.getElem?_cons_succ] at h ⊢
    exact mkEnv_get r h
  | _, _, _, n + 1, i + 1, s, .b x y r, h => by
    simp only [mkEnv, List.getElem?_cons_succ] at h ⊢
    exact mkEnv_get r h
theorem lent_ref : ∀ {ms : List Mode} {vs : List V} {ds : List D}, ArgsOk F B H ms vs ds → ∀ j : Nat, (ms[j]? = some .m ∨ ms[j]? = some .b) → ∃ c, vs[j]? = some (.ref c)
  | _, _, _, .nil, j, h => by rcases h with h | h <;> simp at h
  | _, _, _, .v x r, 0, h => by rcases h with h | h <;> simp at h
  | _, _, _, .m x y r, 0, h => ⟨_, rfl⟩
  | _, _, _, .b x y r, 0, h => ⟨_, rfl⟩
  | _, _, _, .v x r, j + 1, h => by simpa using lent_ref r j (by simpa using h)
  | _, _, _, .m x y r, j + 1, h => by simpa using lent_ref r j (by simpa using h)
  | _, _, _, .b x y r, j + 1, h => by simpa using lent_ref r j (by simpa using h)
/-- two lent arguments are two objects -/
theorem lent_ne : ∀ {ms : List Mode} {vs : List V} {ds : List D} {i j : Nat} {a : Addr}, ArgsOk F B H ms vs ds → (lentA ms vs).Nodup → i < j → (ms[i]? = some .m ∨ ms[i]? = some .b) → (ms[j]? = some .m ∨ ms[j]? = some .b) → vs[i]? = some (.ref a) → vs[j]? = some (.ref a) → False
  | _, _, _, i, j, a, .nil, _, _, h, _, _, _ => by rcases h with h | h <;> simp at h
  | _, _, _, 0, j + 1, a, .v x r, nd, _, h, _, _, _ => by rcases h with h | h <;> simp at h
  | _, _, _, 0, j + 1, a, .m x y r, nd, _, _, h, e1, e2 => by
    simp only [List.getElem?_cons_zero, List.getElem?_cons_succ, Option.some.injEq, V.ref.injEq] at e1 e2 h
    subst e1
    exact (List.nodup_cons.mp nd).1 (mem_lent h e2 r.len.1.symm (lent_ref r))
  | _, _, _, 0, j + 1, a, .b x y r, nd, _, _, h, e1, e2 => by
    simp only [List.getElem?_cons_zero, List.getElem?_cons_succ, Option.some.injEq, V.ref.injEq] at e1 e2 h
    subst e1
    exact (List.nodup_cons.mp nd).1 (mem_lent h e2 r.len.1.symm (lent_ref r))
  | _, _, _, i + 1, j + 1, a, .v x r, nd, hij, h, h', e1, e2 => lent_ne (i := i) (j := j) (a := a) r nd (by omega) (by simpa using h) (by simpa using h') (by simpa using e1) (by simpa using e2)
  | _, _, _, i + 1, j + 1, a, .m x y r, nd, hij, h, h', e1, e2 => lent_ne (i := i) (j := j) (a := a) r (List.nodup_cons.mp nd).2 (by omega) (by simpa using h) (by simpa using h') (by simpa using e1) (by simpa using e2)
  | _, _, _, i + 1, j + 1, a, .b x y r, nd, hij, h, h', e1, e2 => lent_ne (i := i) (j := j) (a := a) r (List.nodup_cons.mp nd).2 (by omega) (by simpa using h) (by simpa using h') (by simpa using e1) (by simpa using e2)
theorem start_get {N : List Str} {vs : List V} {i : Nat} {v : V} (h : vs[i]? = some v) : (start N vs)[i]? = some (some v) := by
  unfold L2.start
  rw [List.getElem?_append_left (by rw [List.length_map]; exact (List.getElem?_eq_some_iff.mp h).1), List.getElem?_map, h]
  rfl
theorem start_ok {N : List Str} {ms : List Mode} {vs : List V} {ds : List D} (t : ∀ a, B a → ∃ o, H a = some o) (r : ArgsOk F B H ms vs ds) (nd : (lentA ms vs).Nodup) (hl : ms.length ≤ N.length) : EnvOk F B (mkEnv ms ds N.length) (start N vs) H := by
  obtain ⟨l1, l2⟩ := r.len
  have noown : ∀ a, ¬ OwnAt (mkEnv ms ds N.length) (start N vs) a := fun a ⟨i, d, h1, h2⟩ => by
    rcases mkEnv_get r h1 with h | ⟨v, d, _, _, ⟨_, h, _⟩ | ⟨_, h, _⟩ | ⟨_, h, _⟩⟩ <;> cases h
  have os : ∀ a, Os B (mkEnv ms ds N.length) (start N vs) a → B a := fun a z => z.elim id fun z => (noown a z).elim
  have key : ∀ (i : Nat) (si : Sl) (di : D), (mkEnv ms ds N.length)[i]? = some si → si.lent = some di → ∃ a, vs[i]? = some (.ref a) ∧ (ms[i]? = some .m ∨ ms[i]? = some .b) := fun i si di h1 h2 => by
    rcases mkEnv_get r h1 with h | ⟨v, d, e1, _, ⟨_, h, _⟩ | ⟨hm, h, a, e2, _⟩ | ⟨hm, h, a, e2, _⟩⟩
    · subst h; cases h2
    · subst h; cases h2
    · exact ⟨a, by rw [e1, e2], .inl hm⟩
    · exact ⟨a, by rw [e1, e2], .inr hm⟩
  refine ⟨?_, fun i s ov h1 h2 => ?_, fun i j si sj di dj a hne h1 h2 h3 h4 h5 h6 => ?_, t⟩
  · rw [mkEnv_length (by omega)]
    unfold L2.start
    rw [List.length_append, List.length_map, List.length_replicate]
    omega
  · rcases mkEnv_get r h1 with h | ⟨v, d, e1, _, ⟨_, h, w⟩ | ⟨hm, h, a, e2, hb, w⟩ | ⟨hm, h, a, e2, hb, w⟩⟩
    · subst h; trivial
    · subst h
      rw [start_get e1] at h2
      cases h2
      exact ⟨v, rfl, w.anti os⟩
    · subst h e2
      rw [start_get e1] at h2
      cases h2
      exact ⟨a, rfl, hb, w.anti os⟩
    · subst h e2
      rw [start_get e1] at h2
      cases h2
      exact ⟨a, rfl, hb, w.anti os⟩
  · obtain ⟨b, e1, q1⟩ := key i si di h1 h3
    obtain ⟨c, e2, q2⟩ := key j sj dj h2 h4
    rw [start_get e1] at h5
    rw [start_get e2] at h6
    cases h5
    cases h6
    rcases Nat.lt_or_gt_of_ne hne with z | z
    · exact lent_ne r nd z q1 q2 e1 e2
    · exact lent_ne r nd z q2 q1 e2 e1
theorem lent_get : ∀ {ms : List Mode} {vs : List V} {a : Addr}, a ∈ mutA ms vs → ∃ i : Nat, ms[i]? = some .m ∧ vs[i]? = some (.ref a)
  | [], _, _, h => by simp [mutA] at h
  | _ :: _, [], _, h => by simp [mutA] at h
  | .v :: ms, v :: vs, a, h => by
    obtain ⟨i, h1, h2⟩ := lent_get (ms := ms) (vs := vs) (a := a) h
    exact ⟨i + 1, by simpa using h1, by simpa using h2⟩
  | .b :: ms, v :: vs, a, h => by
    obtain ⟨i, h1, h2⟩ := lent_get (ms := ms) (vs := vs) (a := a) h
    exact ⟨i + 1, by simpa using h1, by simpa using h2⟩
  | .m :: ms, v :: vs, a, h => by
    cases v with
    | ref c =>
      rcases List.mem_cons.mp h with h | h
      · exact ⟨0, rfl, by rw [h]; rfl⟩
      · obtain ⟨i, h1, h2⟩ := lent_get (ms := ms) (vs := vs) (a := a) h
        exact ⟨i + 1, by simpa using h1, by simpa using h2⟩
    | _ =>
      obtain ⟨i, h1, h2⟩ := lent_get (ms := ms) (vs := vs) (a := a) h
      exact ⟨i + 1, by simpa using h1, by simpa using h2⟩
theorem mem_mut : ∀ {ms : List Mode} {vs : List V} {i : Nat} {a : Addr}, ms[i]? = some .m → vs[i]? = some (.ref a) → (∀ j : Nat, ms[j]? = some Mode.m → ∃ c, vs[j]? = some (V.ref c)) → a ∈ mutA ms vs
  | [], _, i, _, h, _, _ => by simp at h
  | m :: ms, [], _, _, _, h, _ => by simp at h
  | m :: ms, v :: vs, 0, a, h, h2, hr => by
    simp only [List.getElem?_cons_zero, Option.some.injEq] at h h2
    subst h h2
    exact List.mem_cons_self
  | m :: ms, v :: vs, i + 1, a, h, h2, hr => by
    have ih := mem_mut (ms := ms) (vs := vs) (i := i) (a := a) (by simpa using h) (by simpa using h2) fun j hj => by simpa using hr (j + 1) (by simpa using hj)
    cases m with
    | v => exact ih
    | b => exact ih
    | m =>
      obtain ⟨c, hc⟩ := hr 0 rfl
      simp only [List.getElem?_cons_zero, Option.some.injEq] at hc
      subst hc
      exact List.mem_cons_of_mem _ ih
/-- the lent objects behind the body -/
theorem outs_ok {O : Addr → Prop} {H' : Hp} : ∀ {ms : List Mode} {vs : List V} {ds : List D} {e : En} {outs : List D}, ArgsOk F B H ms vs ds → outsOf ms e = some outs → (∀ (i : Nat) (d : D), ms[i]? = some .m → e[i]? = some (.mt d) → ∃ a, vs[i]? = some (.ref a) ∧ Bod F O H' a d) → OutsOk F O H' ms vs outs
  | _, _, _, _, _, .nil, h, k => by
    rw [outsOf] at h
    cases h
    exact .nil
  | _, _, _, [], _, .v x r, h, k => by
    rw [outsOf] at h <;> first | cases h | (intros; contradiction)
  | _, _, _, [], _, .m x y r, h, k => by
    rw [outsOf] at h <;> first | cases h | (intros; contradiction)
  | _, _, _, [], _, .b x y r, h, k => by
    rw [outsOf] at h <;> first | cases h | (intros; contradiction)
  | _, _, _, s :: e, _, .v x r, h, k => .v (outs_ok r h fun i d h1 h2 => by simpa using k (i + 1) d (by simpa using h1) (by simpa using h2))
  | _, _, _, s :: e, _, .b x y r, h, k => .b (outs_ok r h fun i d h1 h2 => by simpa using k (i + 1) d (by simpa using h1) (by simpa using h2))
  | _, _, _, s :: e, _, .m x y r, h, k => by
    cases s with
    | mt o =>
      obtain ⟨os, e1, e2⟩ := Option.map_eq_some_iff.mp h
      subst e2
      obtain ⟨a, e3, w⟩ := k 0 o rfl rfl
      simp only [List.getElem?_cons_zero, Option.some.injEq, V.ref.injEq] at e3
      subst e3
      exact .m w (outs_ok r e1 fun i d h1 h2 => by simpa using k (i + 1) d (by simpa using h1) (by simpa using h2))
    | _ => cases h
end

section
variable {P : Program} {w : World} {K : PySem.W.Frag} {mg : Str → Option Value} {base : Heap}
/-- an exception that leaves the def -/
abbrev WE' (E : XK) : WX := fun cls d _ H => E cls d H
theorem fn_sp {CE : Str → Addr} {N : List Str} {ms : List Mode} {g : SSem} {vs : List V} {H : Hp} {Q : VK} {E : XK} (hn : ms.length ≤ N.length) (h : spF ⟨K, CE, none⟩ ms (fnOf ms N.length g) vs H Q E) : TS' ⟨K, CE, none⟩ (WE' E) g { nx := fun _ H' => Q .non H', rt := Q } (start N vs) H := by
  obtain ⟨B, ds, t, r, nd, q⟩ := h
  refine ⟨B, mkEnv ms ds N.length, start_ok t r nd hn, ?_⟩
  obtain ⟨l1, l2⟩ := r.len
  unfold fnOf at q
  rw [if_pos l2] at q
  have k0 := start_ok (N := N) t r nd hn
  -- what the end of the body tells
  have fin : ∀ (e' : En) (σ' : L2.St) (H' : Hp) (outs : List D), Ext (mkEnv ms ds N.length) (start N vs) H e' σ' H' → EnvOk ⟨K, CE, none⟩ B e' σ' H' → outsOf ms e' = some outs → FExt (mutA ms vs) H H' ∧ OutsOk ⟨K, CE, none⟩ B H' ms vs outs := fun e' σ' H' outs x k1 ho => by
    refine ⟨⟨fun a o na h => x.keep a o (fun ⟨i, d, h1, _⟩ => ?_) (fun ⟨i, d, h1, h2⟩ => na ?_) h, x.dom⟩, outs_ok r ho fun i d h1 h2 => ?_⟩
    · rcases mkEnv_get r h1 with h | ⟨v, d, _, _, ⟨_, h, _⟩ | ⟨_, h, _⟩ | ⟨_, h, _⟩⟩ <;> cases h
    · rcases mkEnv_get r h1 with h | ⟨v, d, e1, _, ⟨_, h, _⟩ | ⟨hm, h, a', e2, _⟩ | ⟨_, h, _⟩⟩
      · cases h
      · cases h
      · rw [start_get e1, e2] at h2
        cases h2
        exact mem_mut hm (by rw [e1, e2]) fun j hj => lent_ref r j (.inl hj)
      · cases h
    · obtain ⟨⟨d0, g0⟩, g1⟩ := x.mt i d h2
      obtain ⟨a, ha⟩ := lent_ref r i (.inl h1)
      rw [start_get ha] at g1
      obtain ⟨b, e3, _, w⟩ := k1.ok i _ _ h2 g1
      cases e3
      exact ⟨a, ha, w.anti fun a z => .inl z⟩
  cases hg : g (mkEnv ms ds N.length) with
  | nx e =>
    rw [hg] at q
    intro σ' H' x k1
    cases ho : outsOf ms e with
    | none => simp only [ho] at q
    | some outs =>
      simp only [ho] at q
      obtain ⟨q1, q2⟩ := fin e σ' H' outs x k1 ho
      exact q _ H' q1 .non q2
  | rt d e =>
    rw [hg] at q
    intro σ' H' v x k1 dv
    cases ho : outsOf ms e with
    | none => simp only [ho] at q
    | some outs =>
      simp only [ho] at q
      obtain ⟨q1, q2⟩ := fin e σ' H' outs x k1 ho
      exact q v H' q1 (dv.anti fun a z => .inl z) q2
  | exc c ns es e =>
    rw [hg] at q
    intro dx σ' H' x k1 ex
    cases ho : outsOf ms e with
    | none => simp only [ho] at q
    | some outs =>
      simp only [ho] at q
      obtain ⟨q1, q2⟩ := fin e σ' H' outs x k1 ho
      refine q dx H' q1 ?_ q2
      rcases ex with ex | ⟨a, fs, h1, h0, h2, h3, h4⟩
      · exact .inl ex
      · exact .inr ⟨a, fs, h1, fun z => h0 (.inl z), h2, h3, h4.anti fun a z => .inl z⟩
  | bk e =>
    rw [hg] at q
    exact q.elim
  | ct e =>
    rw [hg] at q
    exact q.elim
  | stuck =>
    rw [hg] at q
    exact q.elim
/-- THE RULE for a def: its body's judgement -/
theorem fn_ok {CE : Str → Addr} {x qual : Str} {st : Stmt} {f : Addr} {fd : FuncData} {N ps : List Str} {k : Nat} {ms : List Mode} {g : SSem} (Fu : Fun K x qual st f fd) (S : FnScope N ps (defScope st)) (hm : ms.length = ps.length) (hn : ms.length ≤ N.length)
    (hbody : ∀ (cdv : Value) (A : Around) (outer : List Env) (s : Shared) (H : Hp) (E : XK), Room k (A.deeper (PyProof.Rows.envOfC qual (defScope st) s.heap.objs.size f cdv)) →
      DSs ⟨K, CE, none⟩ (WE' E) (cxOf (L2.CX P w) P w K mg base N qual (defScope st) f cdv A outer s H E) (defBody st) g) : FnOk P w K mg base (L2.CX P w) (k + 1) f fd ps (spF ⟨K, CE, none⟩ ms (fnOf ms N.length g)) := by
  exact Fu.okX S (fun vs H Q E ⟨B, ds, t, r, _⟩ => by rw [r.len.1, hm]) fun cdv A outer s H vs Q E hr h => ⟨_, hbody cdv A outer s H E hr, fn_sp hn h⟩
end
end Dl

/-! D9: calls of defs, methods, classes. -/
namespace Dl
open PySem L2

/-- an argument: an expression, or a slot whose object is lent -/
inductive Arg where
  | e (f : ESem) | l (i : Nat)
inductive ArgV where
  | d (d : D) | l (i : Nat)
abbrev GSemA := En → Out (List ArgV)
def gNil' : GSemA := fun env => .ok [] env
def gE (f : ESem) (h : GSemA) : GSemA := fun env => (f env).bind fun x e1 => (h e1).bind fun xs e2 => .ok (.d x :: xs) e2
def gL (i : Nat) (h : GSemA) : GSemA := fun env => (lift ((env[i]?).bind Sl.lent) env).bind fun _ e1 => (h e1).bind fun xs e2 => .ok (.l i :: xs) e2
inductive ArgDen (F : Cf) (O : Addr → Prop) (σ : L2.St) (H : Hp) : List V → List ArgV → Prop
  | nil : ArgDen F O σ H [] []
  | d {v : V} {d : D} {vs : List V} {ds : List ArgV} : Den F O H v d → ArgDen F O σ H vs ds → ArgDen F O σ H (v :: vs) (.d d :: ds)
  | l {v : V} {i : Nat} {vs : List V} {ds : List ArgV} : σ[i]? = some (some v) → ArgDen F O σ H vs ds → ArgDen F O σ H (v :: vs) (.l i :: ds)
def TGA (F : Cf) (W : WX) (f : GSemA) : TA := fun σ H Q => ∃ B env, EnvOk F B env σ H ∧ Post F W B σ env H (fun ds e' H' => ∀ vs, ArgDen F (Os B e' σ) σ H' vs ds → Q vs H') (f env)
section
variable {F : Cf} {W : WX} {X : Cx} {e : Expr} {es : List Expr} {f : ESem} {h : GSemA}
abbrev DG (F : Cf) (W : WX) (X : Cx) (es : List Expr) (f : GSemA) : Prop := PA X es (TGA F W f)
theorem dg_nil : DG F W X [] gNil' := ⟨fun pos pins s σ H Q I ⟨B, env, k, p⟩ => pa_nil.run pos pins s σ H Q I (p H (Ext.refl _ _ _) k [] .nil)⟩
theorem dg_e (ha : DE F W X e f) (hr : DG F W X es h) (hs : starEach (e :: es) X.env = (false, eval e X.env) :: starEach es X.env := by rfl) : DG F W X (e :: es) (gE f h) := ⟨fun pos pins s σ H Q I ⟨B, env, k, p⟩ => (pa_cons ha hr hs).run pos pins s σ H Q I
  ⟨B, env, k, p.split.imp fun x e1 H1 x1 k1 p1 v dv => ⟨B, e1, k1, p1.split.imp fun xs e2 H2 x2 k2 p2 vs dvs => p2 H2 (Ext.refl _ _ _) k2 (v :: vs) (.d (x2.den k1 dv) dvs)⟩⟩⟩
theorem dg_l (i : Nat) (ha : PE X e (tVar i)) (hr : DG F W X es h) (hs : starEach (e :: es) X.env = (false, eval e X.env) :: starEach es X.env := by rfl) : DG F W X (e :: es) (gL i h) := ⟨fun pos pins s σ H Q I ⟨B, env, k, p⟩ => (pa_cons ha hr hs).run pos pins s σ H Q I (by
  obtain ⟨d, hd, q⟩ := Post.lift (e := env) k p.split
  obtain ⟨s, hs, hl⟩ := Option.bind_eq_some_iff.mp hd
  have sd : slotD env i = some d := by
    unfold slotD
    rw [hs]
    cases s <;> first | (cases hl; rfl) | cases hl
  obtain ⟨v, hv, _⟩ := slot_den k sd
  exact ⟨v, hv, B, env, k, q.split.imp fun xs e2 H2 x2 k2 p2 vs dvs => p2 H2 (Ext.refl _ _ _) k2 (v :: vs) (.l hv dvs)⟩)⟩
end

/-! ### what a call does to the slots -/
def Sl.put : Sl → D → Sl
  | .own _, d => .own d
  | .mt _, d => .mt d
  | s, _ => s
def putS (e : En) (i : Nat) (o : D) : En := match e[i]? with
  | some s => e.set i (s.put o)
  | none => e
def putsS (e : En) : List (Nat × D) → En
  | [] => e
  | (i, o) :: r => putsS (putS e i o) r
/-- the data that a parameter gets -/
def argD (e : En) : Mode → ArgV → Option D
  | .v, .d d => some d
  | .m, .l i => match e[i]? with
    | some (.own d) => some d
    | some (.mt d) => some d
    | _ => none
  | .b, .l i => (e[i]?).bind Sl.lent
  | _, _ => none
def argsD (e : En) : List Mode → List ArgV → Option (List D)
  | [], [] => some []
  | m :: ms, a :: as => (argD e m a).bind fun d => (argsD e ms as).map (d :: ·)
  | _, _ => none
def slotsOf : List ArgV → List Nat
  | [] => []
  | .l i :: as => i :: slotsOf as
  | .d _ :: as => slotsOf as
/-- where the outs go -/
def outTo : List Mode → List ArgV → List D → Option (List (Nat × D))
  | [], [], [] => some []
  | .m :: ms, .l i :: as, o :: os => (outTo ms as os).map ((i, o) :: ·)
  | .v :: ms, _ :: as, os => outTo ms as os
  | .b :: ms, _ :: as, os => outTo ms as os
  | _, _, _ => none
def apply (ms : List Mode) (f : FSem) (as : List ArgV) (e : En) : Out D := match argsD e ms as with
  | none => .stuck
  | some ds => if (slotsOf as).Nodup then match f ds with
      | .ret d outs => match outTo ms as outs with
        | some l => .ok d (putsS e l)
        | none => .stuck
      | .exc c ns es outs => match outTo ms as outs with
        | some l => .exc c ns es (putsS e l)
        | none => .stuck
      | .stuck => .stuck
    else .stuck
def eCall (ms : List Mode) (f : FSem) (g : GSemA) : ESem := fun env => (g env).bind fun as e1 => apply ms f as e1

section
variable {F : Cf} {B : Addr → Prop} {σ : L2.St} {env e1 : En} {H H1 : Hp}
theorem putS_length (e : En) (i : Nat) (o : D) : (putS e i o).length = e.length := by
  unfold putS
  split
  · rw [List.length_set]
  · rfl
theorem putsS_length : ∀ (l : List (Nat × D)) (e : En), (putsS e l).length = e.length
  | [], e => rfl
  | (i, o) :: r, e => by rw [putsS, putsS_length r, putS_length]
theorem putS_get (e : En) (i j : Nat) (o : D) : (putS e i o)[j]? = if i = j then (e[j]?).map (·.put o) else e[j]? := by
  unfold putS
  by_cases q : i = j
  · subst q
    rw [if_pos rfl]
    split
    · rename_i s hs
      rw [get_set, if_pos ⟨rfl, (List.getElem?_eq_some_iff.mp hs).1⟩, hs]
      rfl
    · rename_i hs
      rw [hs]
      rfl
  · rw [if_neg q]
    split
    · rename_i s hs
      rw [get_set, if_neg (fun z => q z.1)]
    · rfl
/-- a slot behind the puts: of the same kind; changed only where told -/
theorem putsS_get : ∀ (l : List (Nat × D)) (e : En) (j : Nat), (l.map (·.1)).Nodup → (putsS e l)[j]? = match l.lookup j with | some o => (e[j]?).map (·.put o) | none => e[j]?
  | [], e, j, _ => rfl
  | (i, o) :: r, e, j, nd => by
    have nd' : i ∉ r.map (·.1) ∧ (r.map (·.1)).Nodup := List.nodup_cons.mp nd
    rw [putsS, putsS_get r (putS e i o) j nd'.2, putS_get]
    by_cases q : i = j
    · subst q
      have hr : r.lookup i = none := by
        cases h : r.lookup i with
        | none => rfl
        | some o' =>
          obtain ⟨l1, l2, e1, _⟩ := List.lookup_eq_some_iff.mp h
          exact absurd (by rw [e1]; simp) nd'.1
      rw [hr]
      simp [List.lookup]
    · have hb : (j == i) = false := by simpa using fun z => q z.symm
      rw [List.lookup, hb]
      simp [q]
theorem lent_put {s : Sl} {o d : D} (h : (s.put o).lent = some d) : ∃ d', s.lent = some d' := by
  cases s <;> first | exact ⟨_, rfl⟩ | cases h
/-- behind a call: the lent slots hold what came out -/
theorem put_ok {M : List Addr} {l : List (Nat × D)} (k : EnvOk F B e1 σ H) (x : FExt M H H1) (nd : (l.map (·.1)).Nodup)
    (hM : ∀ a ∈ M, ∃ i s o, e1[i]? = some s ∧ (∃ d, s = .own d ∨ s = .mt d) ∧ σ[i]? = some (some (V.ref a)) ∧ l.lookup i = some o)
    (hl : ∀ i o, l.lookup i = some o → ∃ a, σ[i]? = some (some (V.ref a)) ∧ Bod F (Os B e1 σ) H1 a o) :
    EnvOk F B (putsS e1 l) σ H1 ∧ Ext e1 σ H (putsS e1 l) σ H1 ∧ ∀ a, Os B (putsS e1 l) σ a ↔ Os B e1 σ a := by
  have kind : ∀ (j : Nat) (s : Sl), (putsS e1 l)[j]? = some s → ∃ s0, e1[j]? = some s0 ∧ (s = s0 ∧ l.lookup j = none ∨ ∃ o, l.lookup j = some o ∧ s = s0.put o) := fun j s h => by
    rw [putsS_get l e1 j nd] at h
    cases hlk : l.lookup j with
    | none =>
      rw [hlk] at h
      exact ⟨s, h, .inl ⟨rfl, rfl⟩⟩
    | some o =>
      rw [hlk] at h
      obtain ⟨s0, h0, h1⟩ := Option.map_eq_some_iff.mp h
      exact ⟨s0, h0, .inr ⟨o, rfl, h1.symm⟩⟩
  have own1 : ∀ a, OwnAt (putsS e1 l) σ a → OwnAt e1 σ a := fun a ⟨j, d, h1, h2⟩ => by
    obtain ⟨s0, h0, ⟨e, _⟩ | ⟨o, _, e⟩⟩ := kind j _ h1
    · subst e; exact ⟨j, d, h0, h2⟩
    · cases s0 <;> first | exact ⟨j, _, h0, h2⟩ | cases e
  have own2 : ∀ a, OwnAt e1 σ a → OwnAt (putsS e1 l) σ a := fun a ⟨j, d, h1, h2⟩ => by
    have h := putsS_get l e1 j nd
    rw [h1] at h
    cases hlk : l.lookup j with
    | none =>
      rw [hlk] at h
      exact ⟨j, d, h, h2⟩
    | some o =>
      rw [hlk] at h
      exact ⟨j, o, h, h2⟩
  have os : ∀ a, Os B (putsS e1 l) σ a ↔ Os B e1 σ a := fun a => ⟨fun z => z.elim .inl fun z => .inr (own1 a z), fun z => z.elim .inl fun z => .inr (own2 a z)⟩
  have notM : ∀ a, ¬ Os B e1 σ a → a ∉ M := fun a n hm => by
    obtain ⟨i, s, o, h1, ⟨d, h2 | h2⟩, h3, _⟩ := hM a hm
    · subst h2; exact n (.inr ⟨i, d, h1, h3⟩)
    · subst h2
      obtain ⟨b, e4, hb, _⟩ := k.ok i _ _ h1 h3
      cases e4
      exact n (.inl hb)
  have hk : ∀ a o, ¬ Os B e1 σ a → H a = some o → H1 a = some o ∧ ¬ Os B (putsS e1 l) σ a := fun a o n h => ⟨x.keep a o (notM a n) h, fun z => n ((os a).mp z)⟩
  refine ⟨⟨by rw [putsS_length]; exact k.len, fun i s ov h1 h2 => ?_, fun i j si sj di dj a hne h1 h2 l1 l2 s1 s2 => ?_, fun a h => ?_⟩, ⟨fun a o n1 n2 h => ?_, fun a z => .inl (own1 a z), fun j d h => ?_, fun j d h => ?_, x.dom⟩, os⟩
  · obtain ⟨s0, h0, ⟨e, hno⟩ | ⟨o, ho, e⟩⟩ := kind i s h1
    · subst e
      have w := k.ok i s ov h0 h2
      have root : ∀ a d, s.lent = some d → ov = some (.ref a) → a ∉ M := fun a d q1 q2 hm => by
        obtain ⟨j, s', o, g1, g2, g3, g4⟩ := hM a hm
        have hij : i ≠ j := fun z => by
          subst z
          rw [hno] at g4
          cases g4
        have : ∃ d', s'.lent = some d' := by
          obtain ⟨d', g2 | g2⟩ := g2 <;> subst g2 <;> exact ⟨_, rfl⟩
        obtain ⟨d', g5⟩ := this
        exact k.apart i j s s' d d' a hij h0 g1 q1 g5 (by rw [h2, q2]) g3
      cases s with
      | un => trivial
      | val d =>
        obtain ⟨v, e1', dv⟩ := w
        exact ⟨v, e1', dv.mono hk⟩
      | own d =>
        obtain ⟨a, e1', n, w⟩ := w
        obtain ⟨u, hu⟩ := w.some
        exact ⟨a, e1', n, w.mono hk (x.keep a u (root a d rfl e1') hu) hu⟩
      | mt d =>
        obtain ⟨a, e1', n, w⟩ := w
        obtain ⟨u, hu⟩ := w.some
        exact ⟨a, e1', n, w.mono hk (x.keep a u (root a d rfl e1') hu) hu⟩
      | ex ns ds =>
        obtain ⟨a, dd, fs, e1, e2, o, hx, q, dv⟩ := w
        exact ⟨a, dd, fs, e1, e2, (hk _ _ o hx).2, (hk _ _ o hx).1, q, dv.mono hk⟩
      | br d =>
        obtain ⟨a, e1', n, w⟩ := w
        obtain ⟨u, hu⟩ := w.some
        exact ⟨a, e1', n, w.mono hk (x.keep a u (root a d rfl e1') hu) hu⟩
    · have w := k.ok i s0 ov h0 h2
      obtain ⟨a, ha, bo⟩ := hl i o ho
      rw [h2] at ha
      cases ha
      have bo' := bo.anti (O' := Os B (putsS e1 l) σ) fun a z => (os a).mp z
      subst e
      cases s0 with
      | ex ns ds =>
        obtain ⟨a, dd, fs, e1, e2, o, hx, q, dv⟩ := w
        exact ⟨a, dd, fs, e1, e2, (hk _ _ o hx).2, (hk _ _ o hx).1, q, dv.mono hk⟩
      | un => trivial
      | val d =>
        obtain ⟨v, e1', dv⟩ := w
        exact ⟨v, e1', dv.mono hk⟩
      | own d =>
        obtain ⟨a', e1', n, w⟩ := w
        cases e1'
        exact ⟨_, rfl, n, bo'⟩
      | mt d =>
        obtain ⟨a', e1', n, w⟩ := w
        cases e1'
        exact ⟨_, rfl, n, bo'⟩
      | br d =>
        obtain ⟨a', e1', n, w⟩ := w
        cases e1'
        obtain ⟨u, hu⟩ := w.some
        refine ⟨_, rfl, n, w.mono hk (x.keep _ u (fun hm => ?_) hu) hu⟩
        obtain ⟨j, s', o', g1, ⟨d', g2⟩, g3, g4⟩ := hM _ hm
        by_cases hij : i = j
        · subst hij
          rw [h0] at g1
          cases g1
          rcases g2 with g2 | g2 <;> cases g2
        · refine k.apart i j _ s' _ d' _ hij h0 g1 rfl ?_ h2 g3
          rcases g2 with g2 | g2 <;> subst g2 <;> rfl
  · obtain ⟨t1, g1, r1⟩ := kind i si h1
    obtain ⟨t2, g2, r2⟩ := kind j sj h2
    obtain ⟨u1, m1⟩ : ∃ d, t1.lent = some d := by
      rcases r1 with ⟨e, _⟩ | ⟨o, _, e⟩
      · subst e; exact ⟨_, l1⟩
      · subst e; exact lent_put l1
    obtain ⟨u2, m2⟩ : ∃ d, t2.lent = some d := by
      rcases r2 with ⟨e, _⟩ | ⟨o, _, e⟩
      · subst e; exact ⟨_, l2⟩
      · subst e; exact lent_put l2
    exact k.apart i j t1 t2 u1 u2 a hne g1 g2 m1 m2 s1 s2
  · obtain ⟨u, hu⟩ := k.trk a h
    exact x.dom a u hu
  · refine x.keep a o (fun hm => ?_) h
    obtain ⟨i, s, o', h1, ⟨d, h2 | h2⟩, h3, _⟩ := hM a hm
    · subst h2; exact n1 ⟨i, d, h1, h3⟩
    · subst h2; exact n2 ⟨i, d, h1, h3⟩
  · obtain ⟨s0, h0, ⟨e, _⟩ | ⟨o, _, e⟩⟩ := kind j _ h
    · subst e; exact ⟨⟨d, h0⟩, rfl⟩
    · cases s0 <;> first | exact ⟨⟨_, h0⟩, rfl⟩ | cases e
  · obtain ⟨s0, h0, ⟨e, _⟩ | ⟨o, _, e⟩⟩ := kind j _ h
    · subst e; exact ⟨⟨d, h0⟩, rfl⟩
    · cases s0 <;> first | exact ⟨⟨_, h0⟩, rfl⟩ | cases e
end

section
variable {F : Cf} {B : Addr → Prop} {σ : L2.St} {e1 : En} {H H1 : Hp}
/-- the arguments as the promise takes them -/
theorem args_ok (k : EnvOk F B e1 σ H) : ∀ {ms : List Mode} {as : List ArgV} {vs : List V} {ds : List D}, ArgDen F (Os B e1 σ) σ H vs as → argsD e1 ms as = some ds → ArgsOk F (Os B e1 σ) H ms vs ds
  | [], _, _, _, .nil, h => by
    rw [argsD] at h
    cases h
    exact .nil
  | _ :: _, _, _, _, .nil, h => by
    rw [argsD] at h <;> first | cases h | (intros; contradiction)
  | [], _, _, _, .d _ _, h => by
    rw [argsD] at h <;> first | cases h | (intros; contradiction)
  | [], _, _, _, .l _ _, h => by
    rw [argsD] at h <;> first | cases h | (intros; contradiction)
  | m :: ms, _, _, _, .d (d := d) x r, h => by
    rw [argsD] at h
    obtain ⟨y, e2, h⟩ := Option.bind_eq_some_iff.mp h
    obtain ⟨ys, e3, e4⟩ := Option.map_eq_some_iff.mp h
    subst e4
    cases m with
    | v =>
      cases e2
      exact .v x (args_ok k r e3)
    | m => cases e2
    | b => cases e2
  | m :: ms, _, _, _, .l (i := i) (v := v) x r, h => by
    rw [argsD] at h
    obtain ⟨y, e2, h⟩ := Option.bind_eq_some_iff.mp h
    obtain ⟨ys, e3, e4⟩ := Option.map_eq_some_iff.mp h
    subst e4
    cases m with
    | v => cases e2
    | m =>
      have e2 : (match e1[i]? with | some (.own d) => some d | some (.mt d) => some d | _ => none) = some y := e2
      split at e2
      · rename_i d hs
        cases e2
        obtain ⟨a, e5, n, w⟩ := k.ok i _ _ hs x
        cases e5
        exact .m (.inr ⟨i, _, hs, x⟩) w (args_ok k r e3)
      · rename_i d hs
        cases e2
        obtain ⟨a, e5, n, w⟩ := k.ok i _ _ hs x
        cases e5
        exact .m (.inl n) w (args_ok k r e3)
      · cases e2
    | b =>
      obtain ⟨s, hs, hl⟩ := Option.bind_eq_some_iff.mp e2
      have w := k.ok i _ _ hs x
      cases s with
      | un => cases hl
      | val d => cases hl
      | ex ns ds => cases hl
      | own d =>
        cases hl
        obtain ⟨a, e5, n, w⟩ := w
        cases e5
        exact .b (.inr ⟨i, _, hs, x⟩) w (args_ok k r e3)
      | mt d =>
        cases hl
        obtain ⟨a, e5, n, w⟩ := w
        cases e5
        exact .b (.inl n) w (args_ok k r e3)
      | br d =>
        cases hl
        obtain ⟨a, e5, n, w⟩ := w
        cases e5
        exact .b (.inl n) w (args_ok k r e3)
/-- the slot of a lent argument -/
theorem slot_lent (k : EnvOk F B e1 σ H) {ms : List Mode} {as : List ArgV} {vs : List V} {ds : List D} {a : Addr} : ∀ (_ : ArgDen F (Os B e1 σ) σ H vs as), argsD e1 ms as = some ds → a ∈ lentA ms vs → ∃ i s d, i ∈ slotsOf as ∧ e1[i]? = some s ∧ s.lent = some d ∧ σ[i]? = some (some (V.ref a)) := by
  intro r
  induction r generalizing ms ds with
  | nil =>
    intro h hm
    cases ms <;> simp [lentA] at hm
  | @d v d vs as x r ih =>
    intro h hm
    cases ms with
    | nil => simp [lentA] at hm
    | cons m ms =>
      rw [argsD] at h
      obtain ⟨y, e2, h⟩ := Option.bind_eq_some_iff.mp h
      obtain ⟨ys, e3, e4⟩ := Option.map_eq_some_iff.mp h
      cases m with
      | v => exact ih e3 hm
      | m => cases e2
      | b => cases e2
  | @l v i vs as x r ih =>
    intro h hm
    cases ms with
    | nil => simp [lentA] at hm
    | cons m ms =>
      rw [argsD] at h
      obtain ⟨y, e2, h⟩ := Option.bind_eq_some_iff.mp h
      obtain ⟨ys, e3, e4⟩ := Option.map_eq_some_iff.mp h
      have more : a ∈ lentA ms vs → ∃ i' s d, i' ∈ slotsOf (.l i :: as) ∧ e1[i']? = some s ∧ s.lent = some d ∧ σ[i']? = some (some (V.ref a)) := fun hm => by
        obtain ⟨i', s, d, q1, q2⟩ := ih e3 hm
        exact ⟨i', s, d, List.mem_cons_of_mem _ q1, q2⟩
      obtain ⟨s, d, hs, hl⟩ : ∃ s d, e1[i]? = some s ∧ s.lent = some d := by
        cases m with
        | v => cases e2
        | m =>
          have e2 : (match e1[i]? with | some (.own d) => some d | some (.mt d) => some d | _ => none) = some y := e2
          split at e2
          · exact ⟨_, _, ‹_›, rfl⟩
          · exact ⟨_, _, ‹_›, rfl⟩
          · cases e2
        | b =>
          obtain ⟨s, hs, hl⟩ := Option.bind_eq_some_iff.mp e2
          exact ⟨s, _, hs, hl⟩
      cases v with
      | ref c =>
        cases m with
        | v => cases e2
        | m =>
          rcases List.mem_cons.mp hm with e | hm
          · subst e
            exact ⟨i, s, d, List.mem_cons_self, hs, hl, x⟩
          · exact more hm
        | b =>
          rcases List.mem_cons.mp hm with e | hm
          · subst e
            exact ⟨i, s, d, List.mem_cons_self, hs, hl, x⟩
          · exact more hm
      | _ =>
        cases m with
        | v => cases e2
        | m => simp [lentA] at hm
        | b => simp [lentA] at hm
theorem args_nodup (k : EnvOk F B e1 σ H) {ms : List Mode} {as : List ArgV} {vs : List V} {ds : List D} : ∀ (_ : ArgDen F (Os B e1 σ) σ H vs as), argsD e1 ms as = some ds → (slotsOf as).Nodup → (lentA ms vs).Nodup := by
  intro r
  induction r generalizing ms ds with
  | nil =>
    intro h _
    cases ms with
    | nil => exact List.nodup_nil
    | cons m ms => cases m <;> exact List.nodup_nil
  | @d v d vs as x r ih =>
    intro h nd
    cases ms with
    | nil => exact List.nodup_nil
    | cons m ms =>
      rw [argsD] at h
      obtain ⟨y, e2, h⟩ := Option.bind_eq_some_iff.mp h
      obtain ⟨ys, e3, e4⟩ := Option.map_eq_some_iff.mp h
      cases m with
      | v => exact ih e3 nd
      | m => cases e2
      | b => cases e2
  | @l v i vs as x r ih =>
    intro h nd
    cases ms with
    | nil => exact List.nodup_nil
    | cons m ms =>
      rw [argsD] at h
      obtain ⟨y, e2, h⟩ := Option.bind_eq_some_iff.mp h
      obtain ⟨ys, e3, e4⟩ := Option.map_eq_some_iff.mp h
      have nd' : i ∉ slotsOf as ∧ (slotsOf as).Nodup := List.nodup_cons.mp nd
      have ih' := ih e3 nd'.2
      obtain ⟨s, d, hs, hl⟩ : ∃ s d, e1[i]? = some s ∧ s.lent = some d := by
        cases m with
        | v => cases e2
        | m =>
          have e2 : (match e1[i]? with | some (.own d) => some d | some (.mt d) => some d | _ => none) = some y := e2
          split at e2
          · exact ⟨_, _, ‹_›, rfl⟩
          · exact ⟨_, _, ‹_›, rfl⟩
          · cases e2
        | b =>
          obtain ⟨s, hs, hl⟩ := Option.bind_eq_some_iff.mp e2
          exact ⟨s, _, hs, hl⟩
      have new : ∀ c, v = .ref c → c ∉ lentA ms vs := fun c e hm => by
        obtain ⟨j, s', d', q1, q2, q3, q4⟩ := slot_lent k r e3 hm
        have hij : i ≠ j := fun z => nd'.1 (z ▸ q1)
        exact k.apart i j s s' d d' c hij hs q2 hl q3 (by rw [x, e]) q4
      cases v with
      | ref c =>
        cases m with
        | v => cases e2
        | m => exact List.nodup_cons.mpr ⟨new c rfl, ih'⟩
        | b => exact List.nodup_cons.mpr ⟨new c rfl, ih'⟩
      | _ =>
        cases m with
        | v => cases e2
        | m => exact List.nodup_nil
        | b => exact List.nodup_nil
theorem outTo_slots : ∀ {ms : List Mode} {as : List ArgV} {outs : List D} {l : List (Nat × D)}, outTo ms as outs = some l → (l.map (·.1)).Sublist (slotsOf as)
  | [], [], [], l, h => by
    rw [outTo] at h
    cases h
    exact .slnil
  | .m :: ms, .l i :: as, o :: os, l, h => by
    rw [outTo] at h
    obtain ⟨l', e1, e2⟩ := Option.map_eq_some_iff.mp h
    subst e2
    exact (outTo_slots e1).cons_cons _
  | .v :: ms, .d _ :: as, os, l, h => by
    rw [outTo] at h
    exact outTo_slots (as := as) h
  | .v :: ms, .l i :: as, os, l, h => by
    rw [outTo] at h
    exact (outTo_slots h).cons _
  | .b :: ms, .d _ :: as, os, l, h => by
    rw [outTo] at h
    exact outTo_slots (as := as) h
  | .b :: ms, .l i :: as, os, l, h => by
    rw [outTo] at h
    exact (outTo_slots h).cons _
  | [], [], _ :: _, _, h => by rw [outTo] at h <;> first | cases h | (intros; contradiction)
  | [], _ :: _, _, _, h => by rw [outTo] at h <;> first | cases h | (intros; contradiction)
  | .m :: _, [], _, _, h => by rw [outTo] at h <;> first | cases h | (intros; contradiction)
  | .v :: _, [], _, _, h => by rw [outTo] at h <;> first | cases h | (intros; contradiction)
  | .b :: _, [], _, _, h => by rw [outTo] at h <;> first | cases h | (intros; contradiction)
  | .m :: _, .d _ :: _, _, _, h => by rw [outTo] at h <;> first | cases h | (intros; contradiction)
  | .m :: _, .l _ :: _, [], _, h => by rw [outTo] at h <;> first | cases h | (intros; contradiction)
end
end Dl

/-! D10: the rules of calls, of fields. -/
namespace Dl
open PySem L2

section
variable {F : Cf} {B : Addr → Prop} {σ : L2.St} {e1 : En} {H H1 : Hp}
theorem lookup_of_mem : ∀ {l : List (Nat × D)} {i : Nat} {o : D}, (l.map (·.1)).Nodup → (i, o) ∈ l → l.lookup i = some o
  | [], _, _, _, h => by simp at h
  | (j, p) :: r, i, o, nd, h => by
    have nd' : j ∉ r.map (·.1) ∧ (r.map (·.1)).Nodup := List.nodup_cons.mp nd
    rcases List.mem_cons.mp h with e | h
    · cases e
      simp [List.lookup]
    · have hne : i ≠ j := fun z => nd'.1 (z ▸ List.mem_map.mpr ⟨(i, o), h, rfl⟩)
      have hb : (i == j) = false := by simpa using hne
      rw [List.lookup, hb]
      exact lookup_of_mem nd'.2 h
theorem mem_of_lookup {l : List (Nat × D)} {i : Nat} {o : D} (h : l.lookup i = some o) : (i, o) ∈ l := by
  obtain ⟨l1, l2, e1, _⟩ := List.lookup_eq_some_iff.mp h
  rw [e1]
  simp
theorem outs_link {O : Addr → Prop} : ∀ {ms : List Mode} {as : List ArgV} {vs : List V} {ds outs : List D} {l : List (Nat × D)}, ArgDen F (Os B e1 σ) σ H vs as → argsD e1 ms as = some ds → outTo ms as outs = some l → OutsOk F O H1 ms vs outs →
    (∀ a ∈ mutA ms vs, ∃ i s o, e1[i]? = some s ∧ (∃ d, s = .own d ∨ s = .mt d) ∧ σ[i]? = some (some (V.ref a)) ∧ (i, o) ∈ l) ∧ ∀ i o, (i, o) ∈ l → ∃ a, σ[i]? = some (some (V.ref a)) ∧ Bod F O H1 a o := by
  intro ms as vs ds outs l r
  induction r generalizing ms ds outs l with
  | nil =>
    intro h1 h2 h3
    cases ms with
    | nil =>
      cases h3
      rw [outTo] at h2
      cases h2
      exact ⟨fun a h => by simp [mutA] at h, fun i o h => by simp at h⟩
    | cons m ms => rw [argsD] at h1 <;> first | cases h1 | (intros; contradiction)
  | @d v d vs as x r ih =>
    intro h1 h2 h3
    cases ms with
    | nil => rw [argsD] at h1 <;> first | cases h1 | (intros; contradiction)
    | cons m ms =>
      rw [argsD] at h1
      obtain ⟨y, e2, h⟩ := Option.bind_eq_some_iff.mp h1
      obtain ⟨ys, e3, e4⟩ := Option.map_eq_some_iff.mp h
      cases m with
      | v =>
        rw [outTo] at h2
        cases h3 with
        | v h3 => exact ih e3 h2 h3
      | m => cases e2
      | b => cases e2
  | @l v i vs as x r ih =>
    intro h1 h2 h3
    cases ms with
    | nil => rw [argsD] at h1 <;> first | cases h1 | (intros; contradiction)
    | cons m ms =>
      rw [argsD] at h1
      obtain ⟨y, e2, h⟩ := Option.bind_eq_some_iff.mp h1
      obtain ⟨ys, e3, e4⟩ := Option.map_eq_some_iff.mp h
      cases m with
      | v => cases e2
      | b =>
        rw [outTo] at h2
        cases h3 with
        | b h3 => exact ih e3 h2 h3
      | m =>
        cases h3 with
        | m w h3 =>
          rw [outTo] at h2
          obtain ⟨l', e5, e6⟩ := Option.map_eq_some_iff.mp h2
          subst e6
          obtain ⟨q1, q2⟩ := ih e3 e5 h3
          refine ⟨fun a ha => ?_, fun j o hj => ?_⟩
          · rcases List.mem_cons.mp ha with e | ha
            · subst e
              have e2 : (match e1[i]? with | some (.own d) => some d | some (.mt d) => some d | _ => none) = some y := e2
              split at e2
              · exact ⟨i, _, _, ‹_›, ⟨_, .inl rfl⟩, x, List.mem_cons_self⟩
              · exact ⟨i, _, _, ‹_›, ⟨_, .inr rfl⟩, x, List.mem_cons_self⟩
              · cases e2
            · obtain ⟨i', s, o, g1, g2, g3, g4⟩ := q1 a ha
              exact ⟨i', s, o, g1, g2, g3, List.mem_cons_of_mem _ g4⟩
          · rcases List.mem_cons.mp hj with e | hj
            · cases e
              exact ⟨_, x, w⟩
            · exact q2 j o hj
variable {W : WX} {ms : List Mode} {f : FSem} {as : List ArgV} {vs : List V} {Q : VK}
theorem apply_ok (k : EnvOk F B e1 σ H) (r : ArgDen F (Os B e1 σ) σ H vs as) (p : Post F W B σ e1 H (fun d e' H' => ∀ v, Den F (Os B e' σ) H' v d → Q v H') (apply ms f as e1)) : spF F ms f vs H Q (WE W σ) := by
  unfold apply at p
  cases ha : argsD e1 ms as with
  | none =>
    rw [ha] at p
    exact p.elim
  | some ds =>
    simp only [ha] at p
    by_cases nd : (slotsOf as).Nodup
    case neg =>
      rw [if_neg nd] at p
      exact p.elim
    rw [if_pos nd] at p
    refine ⟨Os B e1 σ, ds, fun a => k.trkO, args_ok k r ha, args_nodup k r ha nd, ?_⟩
    -- what came out
    have fin : ∀ (outs : List D) (l : List (Nat × D)) (H' : Hp), outTo ms as outs = some l → FExt (mutA ms vs) H H' → OutsOk F (Os B e1 σ) H' ms vs outs → EnvOk F B (putsS e1 l) σ H' ∧ Ext e1 σ H (putsS e1 l) σ H' ∧ ∀ a, Os B (putsS e1 l) σ a ↔ Os B e1 σ a := fun outs l H' ho x oo => by
      have ndl : (l.map (·.1)).Nodup := nd.sublist (outTo_slots ho)
      obtain ⟨q1, q2⟩ := outs_link r ha ho oo
      exact put_ok k x ndl (fun a hm => by
        obtain ⟨i, s, o, g1, g2, g3, g4⟩ := q1 a hm
        exact ⟨i, s, o, g1, g2, g3, lookup_of_mem ndl g4⟩) fun i o h => q2 i o (mem_of_lookup h)
    cases hf : f ds with
    | stuck =>
      rw [hf] at p
      exact p.elim
    | ret d outs =>
      simp only [hf] at p
      intro v H' x dv oo
      cases ho : outTo ms as outs with
      | none =>
        rw [ho] at p
        exact p.elim
      | some l =>
        rw [ho] at p
        obtain ⟨k2, x2, os⟩ := fin outs l H' ho x oo
        exact p H' x2 k2 v (dv.anti fun a z => (os a).mp z)
    | exc c ns es outs =>
      simp only [hf] at p
      intro dx H' x ex oo
      cases ho : outTo ms as outs with
      | none =>
        rw [ho] at p
        exact p.elim
      | some l =>
        rw [ho] at p
        obtain ⟨k2, x2, os⟩ := fin outs l H' ho x oo
        refine p dx H' x2 k2 ?_
        rcases ex with ex | ⟨a, fs, h1, h0, h2, h3, h4⟩
        · exact .inl ex
        · exact .inr ⟨a, fs, h1, fun z => h0 ((os a).mp z), h2, h3, h4.anti fun a z => (os a).mp z⟩
end

section
variable {F : Cf} {W : WX} {X : Cx} {e o : Expr} {es : List Expr} {fe : ESem} {g : GSemA} {ms : List Mode} {f : FSem} {pos p apos : Pos} {k : Nat} {fA : Addr} {fd : FuncData} {ps : List Str} {x : Str}
theorem t_call {σ : L2.St} {H : Hp} {Q : VK} (h : T F W (eCall ms f g) σ H Q) : tCallS (spF F ms f) (WE W) (TGA F W g) σ H Q := by
  obtain ⟨B, env, k, p⟩ := h
  exact ⟨B, env, k, p.split.imp fun as e1 H1 x1 k1 p1 vs r => apply_ok k1 r p1⟩
/-- f(e, ..) -/
theorem d_call (tk : Takes X W) (G : FnOk X.prog X.w X.K X.mg X.base (L2.CX X.prog X.w) k fA fd ps (spF F ms f)) (hr : Room k X.A) (hg : Gl X x) (hm : X.mg x = some (.ref fA)) (hk : PySem.W.keepIn X.K (.ref fA) = true) (hb : Binds X.K fd ps [])
    (ha : DG F W X (e :: es) g) (hdb : (x == ("__debug__" : Str)) = false := by decide) (he : starEach (e :: es) X.env = (false, eval e X.env) :: starEach es X.env := by rfl) (hpl : (backTo pos (starEach es X.env)).any (·.1) = false := by rfl) :
    DE F W X (.Call (.Name x p) (e :: es) [] pos) (eCall ms f g) := .of (pe_callS G hr hg hm hk hb (fun σ => passAt tk σ) ha hdb he hpl) fun _ _ _ h => t_call h

/-! ### methods: which def it is, the object's class tells -/
/-- the def that the method m of the class c is -/
structure MethOk (F : Cf) (X : Cx) (c m : Str) (ms : List Mode) (f : FSem) : Prop where
  cl : Cls X.K (F.CE c)
  ok : ∃ (k : Nat) (fA : Addr) (fd : FuncData) (ps : List Str), Meth X.K (F.CE c) m fA ∧ FnOk X.prog X.w X.K X.mg X.base (L2.CX X.prog X.w) k fA fd ps (spF F ms f) ∧ Room k X.A ∧ Binds X.K fd ps []
/-- what a class's method does -/
abbrev Disp := Str → Option FSem
def methOf (m : Str) (dp : Disp) (d : D) : Option FSem := match d with
  | .ins c ns _ => if ns.contains m = true then none else dp c
  | _ => none
def eMeth (m : Str) (ms : List Mode) (dp : Disp) (fe : ESem) (g : GSemA) : ESem := fun env => (fe env).bind fun d e1 => (lift (methOf m dp d) e1).bind fun f e2 => (g e2).bind fun as e3 => apply (.v :: ms) f (.d d :: as) e3
theorem lookup_none {fs : List (Str × V)} {m : Str} (h : ¬ (fs.map (·.1)).contains m = true) : fs.lookup m = none := by
  cases q : fs.lookup m with
  | none => rfl
  | some v =>
    obtain ⟨l1, l2, e1, _⟩ := List.lookup_eq_some_iff.mp q
    rw [e1] at h
    simp at h
theorem methOf_some {m : Str} {dp : Disp} {d : D} {f : FSem} (h : methOf m dp d = some f) : ∃ c ns ds, d = .ins c ns ds ∧ ¬ ns.contains m = true ∧ dp c = some f := by
  unfold methOf at h
  split at h
  · split at h
    · cases h
    · exact ⟨_, _, _, rfl, ‹_›, h⟩
  · cases h
theorem t_meth {m : Str} {dp : Disp} {σ : L2.St} {H : Hp} {Q : VK} (h : T F W (eMeth m ms dp fe g) σ H Q) :
    T F W fe σ H fun v H1 => ∃ a c dx fs f, v = .ref a ∧ H1 a = some (.ins (F.CE c) dx fs) ∧ fs.lookup m = none ∧ dp c = some f ∧ TGA F W g σ H1 fun vs H2 => spF F (.v :: ms) f (v :: vs) H2 Q (WE W σ) := by
  obtain ⟨B, env, k, p⟩ := h
  refine ⟨B, env, k, p.split.imp fun d e1 H1 x1 k1 p1 v dv => ?_⟩
  obtain ⟨f, hf, q⟩ := Post.lift (e := e1) k1 p1.split
  obtain ⟨c, ns, ds, rfl, hns, hdp⟩ := methOf_some hf
  obtain ⟨a, dx, fs, rfl, ha, hfs, _⟩ := DenP.ins (.inl dv)
  subst hfs
  exact ⟨a, c, dx, fs, f, rfl, ha, lookup_none hns, hdp, B, e1, k1, q.split.imp fun as e2 H2 x2 k2 p2 vs r => apply_ok k2 (.d (x2.den k1 dv) r) p2⟩
/-- o.m(e, ..), the class of o open -/
theorem d_meth {pl : Sem Bool} {m : Str} {dp : Disp} (tk : Takes X W) (he : DE F W X o fe) (hT : ∀ c f, dp c = some f → MethOk F X c m (.v :: ms) f) (ha : DG F W X (e :: es) g)
    (hst : starEach (e :: es) X.env = (false, eval e X.env) :: starEach es X.env := by rfl) (hpl : (backTo pos (starEach es X.env)).any (·.1) = false := by rfl)
    (ht : eval (.Call (.Attribute o m apos) (e :: es) [] pos) X.env = (do
      let ov ← eval o X.env
      standAt apos.atName
      let (f, first) ← holding [ov] (getMethod ov m pl)
      callWith pos f first (backTo pos (starEach (e :: es) X.env)) (backToKw pos (keywordEach [] X.env))) := by rfl) :
    DE F W X (.Call (.Attribute o m apos) (e :: es) [] pos) (eMeth m ms dp fe g) := by
  refine ⟨fun pins s σ H Q I h => ?_⟩
  refine PySem.W.methodCall_KW (pl := pl) (thn (he.run pins s σ H _ I (t_meth h)) fun u s1 ⟨v, H1, I1, rx, a, c, dx, fs, f, ex, ea, l, hdp, q⟩ => ?_) ht
  subst ex
  obtain rfl : u = Value.ref a := rx
  obtain ⟨cl, k, fA, fd, ps, hm, G, hr, hb⟩ := hT c f hdp
  refine getmeth_ok I1 ea cl hm l ?_
  refine PySem.W.callWith_K (first := [.ref a]) (h₀ := X.base) I.ok.mod.kin hm.kp (thn (ha.run pos pins s1 σ H1 _ I1 q) fun us s2 ⟨vs, H2, I2, r, q2⟩ => ⟨I2.kIn, ?_⟩) hst hpl
  exact run_fnS (us := .ref a :: us) (vs := .ref a :: vs) (E := WE W) G hr hb (passAt tk σ) I2 (.cons rfl r) q2
theorem d_meth0 {pl : Sem Bool} {m : Str} {dp : Disp} (tk : Takes X W) (he : DE F W X o fe) (hT : ∀ c f, dp c = some f → MethOk F X c m [.v] f)
    (ht : eval (.Call (.Attribute o m apos) [] [] pos) X.env = (do
      let ov ← eval o X.env
      standAt apos.atName
      let (f, first) ← holding [ov] (getMethod ov m pl)
      callWith pos f first (backTo pos (starEach [] X.env)) (backToKw pos (keywordEach [] X.env))) := by rfl) :
    DE F W X (.Call (.Attribute o m apos) [] [] pos) (eMeth m [] dp fe gNil') := by
  refine ⟨fun pins s σ H Q I h => ?_⟩
  refine PySem.W.methodCall_KW (pl := pl) (thn (he.run pins s σ H _ I (t_meth h)) fun u s1 ⟨v, H1, I1, rx, a, c, dx, fs, f, ex, ea, l, hdp, q⟩ => ?_) ht
  subst ex
  obtain rfl : u = Value.ref a := rx
  obtain ⟨cl, k, fA, fd, ps, hm, G, hr, hb⟩ := hT c f hdp
  refine getmeth_ok I1 ea cl hm l ?_
  obtain ⟨B, env, k', p⟩ := q
  have q2 := p H1 (Ext.refl _ _ _) k' [] .nil
  exact PySem.W.callWith_K0 (first := [.ref a]) I1.kIn hm.kp (run_fnS (us := [.ref a]) (vs := [.ref a]) (E := WE W) G hr hb (passAt tk σ) I1 (.cons rfl .nil) q2)

/-! ### fields -/
def fieldD : List Str → List D → Str → Option D
  | n :: ns, d :: ds, f => if f = n then some d else fieldD ns ds f
  | _, _, _ => none
theorem field_den {O : Addr → Prop} {H : Hp} {f : Str} {d : D} : ∀ {fs : List (Str × V)} {ds : List D}, Dens F O H (fs.map (·.2)) ds → fieldD (fs.map (·.1)) ds f = some d → ∃ v, fs.lookup f = some v ∧ Den F O H v d
  | [], _, h, e => by cases h; cases e
  | (n, v) :: fs, _, h, e => by
    cases h with
    | cons a r =>
      by_cases q : f = n
      · subst q
        rw [List.map_cons, fieldD, if_pos rfl] at e
        cases e
        exact ⟨v, by simp [List.lookup], a⟩
      · rw [List.map_cons, fieldD, if_neg q] at e
        obtain ⟨w, h1, h2⟩ := field_den r e
        refine ⟨w, ?_, h2⟩
        have hb : (f == n) = false := by simpa using q
        rw [List.lookup, hb]
        exact h1
/-- o.f of an instance of one of the classes cs -/
def gFld (cs : List Str) (f : Str) (d : D) : Option D := match d with
  | .ins c ns ds => if cs.contains c = true then fieldD ns ds f else none
  | _ => none
def rFld (K : PySem.W.Frag) (f : Str) : V → Hp → VK → Prop := fun x H Q => ∃ a C dx fs v, x = .ref a ∧ H a = some (.ins C dx fs) ∧ Cls K C ∧ NoAttr K C f ∧ fs.lookup f = some v ∧ Q v H
theorem ok_fld {cs : List Str} {f : Str} (hT : ∀ c ∈ cs, Cls F.K (F.CE c) ∧ NoAttr F.K (F.CE c) f) : OkUP F (rFld F.K f) (gFld cs f) := fun O H x dx dz Q t a e q => by
  unfold gFld at e
  split at e
  · split at e
    · rename_i c ns ds hc
      obtain ⟨p, dx', fs, rfl, hp, hn, dd⟩ := a.ins
      subst hn
      obtain ⟨v, hv, dv⟩ := field_den dd e
      obtain ⟨h1, h2⟩ := hT c (by simpa using hc)
      exact ⟨p, _, dx', fs, v, rfl, hp, h1, h2, hv, q v H (Same.refl H) dv⟩
    · cases e
  · cases e
theorem d_fld {cs : List Str} {f : Str} (hK : X.K = F.K) (hT : ∀ c ∈ cs, Cls F.K (F.CE c) ∧ NoAttr F.K (F.CE c) f) (he : DE F W X e fe) (hb : attributeBase e f X.env (eval e X.env) = eval e X.env := by rfl) : DE F W X (.Attribute e f pos) (eUn (gFld cs f) fe) :=
  .of (pe_fld he hb) fun σ H Q h => by
    rw [hK]
    exact t_un (r := rFld F.K f) (ok_fld hT).ok h
theorem d_fldP {cs : List Str} {f : Str} {i : Nat} (hK : X.K = F.K) (hT : ∀ c ∈ cs, Cls F.K (F.CE c) ∧ NoAttr F.K (F.CE c) f) (he : PE X e (tVar i)) (hb : attributeBase e f X.env (eval e X.env) = eval e X.env := by rfl) : DE F W X (.Attribute e f pos) (eUnP (gFld cs f) i) :=
  .of (pe_fld he hb) fun σ H Q ⟨B, env, k, p⟩ => by
    rw [hK]
    obtain ⟨z, hz, q⟩ := t_lift (P := fun _ => True) k p
    obtain ⟨x, hx, hz⟩ := Option.bind_eq_some_iff.mp hz
    obtain ⟨v, e1, w1⟩ := slot_den k hx
    exact ⟨v, e1, ok_fld hT _ H v x z Q (fun a => k.trkO) w1 hz q⟩
/-- self.f = e, self lent -/
def putFld : List Str → List D → Str → D → List Str × List D
  | n :: ns, d :: ds, f, v => if n = f then (n :: ns, v :: ds) else let (a, b) := putFld ns ds f v; (n :: a, d :: b)
  | _, _, f, v => ([f], [v])
theorem putF_den {O : Addr → Prop} {H : Hp} {f : Str} {d : D} {v : V} (hv : Den F O H v d) : ∀ {fs : List (Str × V)} {ds : List D}, Dens F O H (fs.map (·.2)) ds → (putF f v fs).map (·.1) = (putFld (fs.map (·.1)) ds f d).1 ∧ Dens F O H ((putF f v fs).map (·.2)) (putFld (fs.map (·.1)) ds f d).2
  | [], _, h => by
    cases h
    exact ⟨rfl, .cons hv .nil⟩
  | (n, w) :: fs, _, .cons (d := d0) (ds := ds0) a r => by
    obtain ⟨h1, h2⟩ := putF_den (f := f) hv r
    have e0 : putFld (((n, w) :: fs).map (·.1)) (d0 :: ds0) f d = if n = f then (n :: fs.map (·.1), d :: ds0) else (n :: (putFld (fs.map (·.1)) ds0 f d).1, d0 :: (putFld (fs.map (·.1)) ds0 f d).2) := rfl
    by_cases q : n = f
    · have e : putF f v ((n, w) :: fs) = (f, v) :: fs := by
        rw [putF, if_pos q, q]
      rw [e, e0, if_pos q]
      subst q
      exact ⟨rfl, .cons hv r⟩
    · have e : putF f v ((n, w) :: fs) = (n, w) :: putF f v fs := by
        rw [putF, if_neg q]
      rw [e, e0, if_neg q]
      exact ⟨by rw [List.map_cons, h1], .cons a h2⟩
/-- an object that is ours changes -/
theorem change {B : Addr → Prop} {env : En} {σ : L2.St} {H : Hp} {i : Nat} {s : Sl} {d d' : D} {a : Addr} {o : HO} (k : EnvOk F B env σ H) (hs : env[i]? = some s) (hd : s = .own d ∨ s = .mt d) (ha : σ[i]? = some (some (V.ref a))) (w : ∀ O, (∀ b u, ¬ Os B env σ b → H b = some u → (upd H a o) b = some u ∧ ¬ O b) → Bod F O (upd H a o) a d') :
    EnvOk F B (env.set i (s.put d')) σ (upd H a o) ∧ Ext env σ H (env.set i (s.put d')) σ (upd H a o) := by
  have ao : Os B env σ a := by
    rcases hd with hd | hd <;> subst hd
    · exact .inr ⟨i, d, hs, ha⟩
    · obtain ⟨b, e, hb, _⟩ := k.ok i _ _ hs ha
      cases e
      exact .inl hb
  have x : FExt [a] H (upd H a o) := ⟨fun b u n h => by rw [upd_ne (fun z => n (by rw [z]; exact List.mem_singleton.mpr rfl))]; exact h, fun b u h => by
    by_cases q : b = a
    · subst q; exact ⟨o, upd_same⟩
    · exact ⟨u, by rw [upd_ne q]; exact h⟩⟩
  have := put_ok (l := [(i, d')]) k x (by simp) (fun b hb => by
    have e : b = a := List.mem_singleton.mp hb
    subst e
    exact ⟨i, s, d', hs, ⟨d, hd⟩, ha, by simp [List.lookup]⟩) (fun j p h => by
    by_cases q : j = i
    · subst q
      have e : p = d' := by simpa [List.lookup] using h.symm
      subst e
      exact ⟨a, ha, w _ fun b u n h => ⟨x.keep b u (fun z => n (by rw [List.mem_singleton.mp z]; exact ao)) h, n⟩⟩
    · have hb : (j == i) = false := by simpa using q
      rw [List.lookup, hb] at h
      cases h)
  have e : putsS env [(i, d')] = env.set i (s.put d') := by
    show putS env i d' = _
    unfold putS
    rw [hs]
  rw [e] at this
  exact ⟨this.1, this.2.1⟩
end
end Dl

/-! D11: objects that change; new objects kept by their maker; comprehensions as rules; properties; classes made. -/
namespace Dl
open PySem L2

/-- the data of an object that is ours to change -/
def ourD (e : En) (i : Nat) : Option D := match e[i]? with
  | some (.own d) => some d
  | some (.mt d) => some d
  | _ => none
section
variable {F : Cf} {B : Addr → Prop} {σ : L2.St} {env e1 : En} {H H1 : Hp}
theorem our_at {i : Nat} {d : D} (k : EnvOk F B env σ H) (h : ourD env i = some d) : ∃ s a, env[i]? = some s ∧ (s = .own d ∨ s = .mt d) ∧ σ[i]? = some (some (V.ref a)) ∧ Bod F (Os B env σ) H a d := by
  unfold ourD at h
  split at h
  · rename_i d' hs
    cases h
    obtain ⟨ov, e, a, rfl, _, w⟩ := k.slot hs
    exact ⟨_, a, hs, .inl rfl, e, w⟩
  · rename_i d' hs
    cases h
    obtain ⟨ov, e, a, rfl, _, w⟩ := k.slot hs
    exact ⟨_, a, hs, .inr rfl, e, w⟩
  · cases h
/-- .. changed -/
theorem our_put {i : Nat} {d d' : D} {s : Sl} {a : Addr} {o : HO} (k : EnvOk F B env σ H) (hs : env[i]? = some s) (hd : s = .own d ∨ s = .mt d) (ha : σ[i]? = some (some (V.ref a))) (w : ∀ O H', (∀ b u, ¬ Os B env σ b → H b = some u → H' b = some u ∧ ¬ O b) → H' a = some o → Bod F O H' a d') :
    EnvOk F B (putS env i d') σ (upd H a o) ∧ Ext env σ H (putS env i d') σ (upd H a o) := by
  have q := change (d' := d') (o := o) k hs hd ha fun O hk => w O _ hk upd_same
  have e : putS env i d' = env.set i (s.put d') := by
    unfold putS
    rw [hs]
  rw [e]
  exact q
/-- a slot takes a new object -/
theorem store_own {i : Nat} {p : Addr} {d : D} (x : Ext env σ H e1 σ H1) (hp : H p = none) (f : Fresh F B e1 σ H1 p d) : EnvOk F B (e1.set i (.own d)) (σ.set i (some (.ref p))) H1 ∧ Ext env σ H (e1.set i (.own d)) (σ.set i (some (.ref p))) H1 := by
  have own' : ∀ b, OwnAt (e1.set i (.own d)) (σ.set i (some (.ref p))) b → OwnAt e1 σ b ∨ b = p := fun b ⟨j, dj, h1, h2⟩ => by
    rw [get_set] at h1
    rw [get_setV, ← f.ok.len] at h2
    split at h1
    · rename_i hp
      rw [if_pos hp] at h2
      cases h2
      exact .inr rfl
    · rename_i hn
      rw [if_neg hn] at h2
      exact .inl ⟨j, dj, h1, h2⟩
  have less : ∀ b, Os B (e1.set i (.own d)) (σ.set i (some (.ref p))) b → Os (fun a => B a ∨ a = p) e1 σ b := fun b z => z.elim (fun z => .inl (.inl z)) fun z => (own' b z).elim .inr fun z => .inl (.inr z)
  refine ⟨⟨by rw [List.length_set, List.length_set]; exact f.ok.len, fun j s ov h1 h2 => ?_, fun i1 j1 si sj di dj b hne h1 h2 l1 l2 s1 s2 => ?_, fun a h => f.ok.trk a (.inl h)⟩, ⟨x.keep, fun b z => ?_, fun j dj h1 => ?_, fun j dj h1 => ?_, x.dom⟩⟩
  · rw [get_set] at h1
    rw [get_setV, ← f.ok.len] at h2
    split at h1
    · rename_i hp
      rw [if_pos hp] at h2
      cases h1
      cases h2
      exact ⟨p, rfl, f.nb, f.bod.anti less⟩
    · rename_i hn
      rw [if_neg hn] at h2
      have w := f.ok.ok j s ov h1 h2
      cases s with
      | ex ns ds =>
        obtain ⟨a, dd, fs, e1, e2, o, hx, q, dv⟩ := w
        exact ⟨a, dd, fs, e1, e2, fun z => o (less _ z), hx, q, dv.anti less⟩
      | un => trivial
      | val d =>
        obtain ⟨v, q, dv⟩ := w
        exact ⟨v, q, dv.anti less⟩
      | own d =>
        obtain ⟨a, q, n, w⟩ := w
        exact ⟨a, q, fun z => n (.inl z), w.anti less⟩
      | mt d =>
        obtain ⟨a, q, n, w⟩ := w
        refine ⟨a, q, n.elim id fun z => ?_, w.anti less⟩
        exact absurd (by rw [h2, q, z]) (f.apart _ j d h1 rfl)
      | br d =>
        obtain ⟨a, q, n, w⟩ := w
        refine ⟨a, q, n.elim id fun z => ?_, w.anti less⟩
        exact absurd (by rw [h2, q, z]) (f.apart _ j d h1 rfl)
  · rw [get_set] at h1 h2
    rw [get_setV, ← f.ok.len] at s1 s2
    split at h1
    · rename_i hp1
      rw [if_pos hp1] at s1
      cases s1
      split at h2
      · rename_i hp2
        exact hne (hp1.1.symm.trans hp2.1)
      · rename_i hn2
        rw [if_neg hn2] at s2
        exact f.apart sj j1 dj h2 l2 s2
    · rename_i hn1
      rw [if_neg hn1] at s1
      split at h2
      · rename_i hp2
        rw [if_pos hp2] at s2
        cases s2
        exact f.apart si i1 di h1 l1 s1
      · rename_i hn2
        rw [if_neg hn2] at s2
        exact f.ok.apart i1 j1 si sj di dj b hne h1 h2 l1 l2 s1 s2
  · rcases own' b z with z | z
    · exact x.own b z
    · subst z
      exact .inr hp
  · rw [get_set] at h1
    rw [get_setV, ← f.ok.len]
    split at h1
    · cases h1
    · rename_i hn
      rw [if_neg hn]
      exact x.mt j dj h1
  · rw [get_set] at h1
    rw [get_setV, ← f.ok.len]
    split at h1
    · cases h1
    · rename_i hn
      rw [if_neg hn]
      exact x.br j dj h1
end

section
variable {F : Cf} {W : WX} {X : Cx} {a b e o value : Expr} {es : List Expr} {fa fb fe : ESem} {pos pos' cpos apos : Pos}
abbrev DN (F : Cf) (W : WX) (X : Cx) (e : Expr) (f : ESem) : Prop := PE X e (TN' F W f)
theorem DN.of {te : TE} {f : ESem} (p : PE X e te) (m : ∀ σ H Q, TN' F W f σ H Q → te σ H Q) : DN F W X e f := ⟨fun pins s σ H Q I q => p.run pins s σ H Q I (m _ _ _ q)⟩
theorem DN.de {f : ESem} (p : DN F W X e f) : DE F W X e f := ⟨fun pins s σ H Q I q => p.run pins s σ H Q I (tn_t' q)⟩
theorem dn_lst {h : ASem} (ha : DA F W X es h) : DN F W X (.List es pos) (eLst h) := .of (pe_lst ha) fun σ H Q ⟨B, env, k, p⟩ =>
  ⟨B, env, k, p.split.imp fun ds e1 H1 x1 k1 p1 vs dvs => by
    by_cases hs : small ds = true
    · simp only [hs, if_true] at p1
      refine ⟨small_line hs dvs, fun q hq => ?_⟩
      have sm : Same H1 (upd H1 q (.lst vs)) := same_new hq
      exact p1 _ (Ext.new sm) (k1.grow sm) q (none_back x1 hq) (fresh_new k1 hq fun O hk => .lst upd_same (dvs.mono hk))
    · simp only [if_neg hs] at p1
      exact p1.elim⟩
def eDct0 : ESem := fun env => .ok (.dct [] []) env
theorem dn_dct0 : DN F W X (.Dict [] [] pos) eDct0 := .of pe_dnewK fun σ H Q ⟨B, env, k, p⟩ => fun q hq => by
  have sm : Same H (upd H q (.dK [])) := same_new hq
  exact p _ (Ext.new sm) (k.grow sm) q hq (fresh_new k hq fun O hk => .dct upd_same rfl .nil)
/-- x = a new object, kept as ours -/
def sOwn (i : Nat) (fe : ESem) : SSem := fun env => (fe env).then fun d e1 => .nx (e1.set i (.own d))
theorem t_own {i : Nat} {Dn : Ends} {σ : L2.St} {H : Hp} (h : TS' F W (sOwn i fe) Dn σ H) : tAsg (TN' F W fe) (gName i) Dn σ H := by
  obtain ⟨B, env, k, p⟩ := h
  refine ⟨B, env, k, ?_⟩
  have p' : PostS F W B env σ H Dn ((fe env).then fun d e1 => .nx (e1.set i (.own d))) := p
  cases ho : fe env with
  | stuck =>
    rw [ho] at p'
    exact p'.elim
  | exc c ns ds e1 =>
    rw [ho] at p'
    exact fun dx H' x k1 => p' dx σ H' x k1
  | ok d e1 =>
    rw [ho] at p'
    intro H1 x1 k1 q hq fr
    obtain ⟨k2, x2⟩ := store_own (i := i) x1 hq fr
    exact p' _ _ x2 k2
theorem ds_own {i : Nat} {x : Str} (hN : X.N.Nodup) (hi : X.N[i]? = some x) (hx : Loc X.env.scope x) (he : DN F W X e fe) (hs : swapsWith e (some (.Name x pos')) pos.line X.env = pure false := by rfl) (hf : X.fn x = true ∨ X.env.scope.names.lookup x = some .local := by first | exact .inl rfl | exact .inr rfl | assumption) :
    DS F W X (.Assign [.Name x pos'] e pos) (sOwn i fe) := .of (ps_set hN hi hx he hs hf) fun Dn σ H h => t_own h

/-! ### list comprehensions -/
section
variable {elt tg iter : Expr} {ifs : List Expr} {scope : Scope} {own : List (Str × Nat)} {spos py : Pos} {fi : ISem} {gt : TG} {gs : GSem} {g : BSem} {f : ESem}
/-- the target's slots are the block's own -/
def Inside (gt : TG) (vs : List Nat) : Prop := ∀ (v : V) (σ : L2.St) (H : Hp) (Q : L2.St → Hp → Prop), gt v (wipe σ vs) H (fun σ2 H2 => wipe σ2 vs = wipe σ vs → Q σ2 H2) → gt v (wipe σ vs) H fun σ2 H2 => wipe σ2 vs = wipe σ vs ∧ Q σ2 H2
theorem inside1 {i : Nat} : Inside (gName i) [i] := w_name
theorem wipe_len (σ : L2.St) (vs : List Nat) (i : Nat) (s : Option V) : (wipe (σ.set i s) vs).length = σ.length := by rw [wipe_length, List.length_set]
theorem wipe_get (σ : L2.St) : ∀ (vs : List Nat) (j : Nat), (wipe σ vs)[j]? = if j ∈ vs ∧ j < σ.length then some none else σ[j]?
  | [], j => by
    rw [if_neg (by simp)]
    rfl
  | v :: vs, j => by
    show ((wipe σ vs).set v none)[j]? = _
    rw [get_setV, wipe_length, wipe_get σ vs j]
    by_cases q : v = j ∧ v < σ.length
    · rw [if_pos q, if_pos ⟨by rw [q.1]; exact List.mem_cons_self, by rw [← q.1]; exact q.2⟩]
    · rw [if_neg q]
      by_cases q2 : j ∈ vs ∧ j < σ.length
      · rw [if_pos q2, if_pos ⟨List.mem_cons_of_mem _ q2.1, q2.2⟩]
      · rw [if_neg q2, if_neg (fun z : j ∈ v :: vs ∧ j < σ.length => (List.mem_cons.mp z.1).elim (fun e => q ⟨e.symm, by rw [← e]; exact z.2⟩) fun m => q2 ⟨m, z.2⟩)]
theorem wipe_set (σ : L2.St) {vs : List Nat} {i : Nat} (s : Option V) (h : i ∈ vs) : wipe (σ.set i s) vs = wipe σ vs := by
  apply List.ext_getElem?
  intro j
  rw [wipe_get, wipe_get, List.length_set, get_setV]
  by_cases q : j ∈ vs ∧ j < σ.length
  · rw [if_pos q, if_pos q]
  · rw [if_neg q, if_neg q, if_neg (fun z : i = j ∧ i < σ.length => q ⟨z.1 ▸ h, by rw [← z.1]; exact z.2⟩)]
theorem wipe_wipe (σ : L2.St) (vs : List Nat) : wipe (wipe σ vs) vs = wipe σ vs := by
  apply List.ext_getElem?
  intro j
  rw [wipe_get, wipe_length, wipe_get]
  by_cases q : j ∈ vs ∧ j < σ.length
  · rw [if_pos q, if_pos q]
  · rw [if_neg q, if_neg q]
theorem insideN {i : Nat} {vs : List Nat} (h : i ∈ vs) : Inside (gName i) vs := fun v σ H Q q => by
  have e : wipe ((wipe σ vs).set i (some v)) vs = wipe σ vs := by rw [wipe_set _ _ h, wipe_wipe]
  exact ⟨e, q e⟩
theorem inside2 {K : PySem.W.Frag} {n i j : Nat} {vs : List Nat} (h : i ∈ vs) (h2 : j ∈ vs) : Inside (gTup K n (gCons (gName i) (gCons (gName j) gNil))) vs := fun v σ H Q q => by
  obtain ⟨a, xs, e1, e2, e3, v1, r1, e4, v2, r2, e5, e6, q⟩ := q
  have e : wipe (((wipe σ vs).set i (some v1)).set j (some v2)) vs = wipe σ vs := by rw [wipe_set _ _ h2, wipe_set _ _ h, wipe_wipe]
  exact ⟨a, xs, e1, e2, e3, v1, r1, e4, v2, r2, e5, e6, e, q e⟩
/-- tests of a comprehension -/
abbrev DTs (F : Cf) (X : Cx) (ifs : List Expr) (g : BSem) : Prop := PTs X ifs (TB F W0 g)
theorem dts_nil : DTs F X [] bYes := ⟨fun pins s σ H Q I ⟨B, env, k, p⟩ => pts_nil.run pins s σ H Q I (p H (Ext.refl _ _ _) k)⟩
theorem dts_one {c : Expr} (h : DT F W0 X c g) : DTs F X [c] g := pts_one h
theorem dn_comp (hc : X.calm = true) (hN : X.N.Nodup) (hi : DI F W X tg iter fi) (ok : BlkOk X.N X.env.scope scope own) (ho : GOk F gt gs) (hw : Inside gt (own.map (·.2)))
    (hg : ∀ (s : Shared) (H : Hp) (C : Addr) (cl : List (Str × Addr)) (fp : List Addr), PG (X.blk s H scope (compEnvC scope cl C X.env) fp) tg gt) (ht : ∀ (s : Shared) (H : Hp) (C : Addr) (cl : List (Str × Addr)) (fp : List Addr), DTs F (X.blk s H scope (compEnvC scope cl C X.env) fp) ifs g)
    (he : ∀ (s : Shared) (H : Hp) (C : Addr) (cl : List (Str × Addr)) (fp : List Addr), DE F W0 (X.blk s H scope (compEnvC scope cl C X.env) fp) elt f) (hs : ∀ x, foldedSetIterable iter X.env x = pure x := by intro _; rfl) :
    DN F W X (.ListComp elt [⟨tg, iter, ifs, 0⟩] scope pos) (eComp (own.map (·.2)) gs fi g f) := .of (pe_lc hc hN hi ok hg ht he hs) fun σ H Q h => t_comp ho hw h
/-- y = [..] -/
theorem ds_setComp {i : Nat} {y : Str} (hc : X.calm = true) (hN : X.N.Nodup) (hy : X.N[i]? = some y) (hyl : X.env.scope.names.lookup y = some .local)
    (hsw : swapsWith (.ListComp elt [⟨tg, iter, ifs, 0⟩] scope pos) (some (.Name y py)) spos.line X.env = pure true) (hi : DI F W X tg iter fi) (ok : BlkOk X.N X.env.scope scope own) (ho : GOk F gt gs) (hw : Inside gt (own.map (·.2)))
    (hg : ∀ (s : Shared) (H : Hp) (C : Addr) (cl : List (Str × Addr)) (fp : List Addr), PG (X.blk s H scope (compEnvC scope cl C X.env) fp) tg gt) (ht : ∀ (s : Shared) (H : Hp) (C : Addr) (cl : List (Str × Addr)) (fp : List Addr), DTs F (X.blk s H scope (compEnvC scope cl C X.env) fp) ifs g)
    (he : ∀ (s : Shared) (H : Hp) (C : Addr) (cl : List (Str × Addr)) (fp : List Addr), DE F W0 (X.blk s H scope (compEnvC scope cl C X.env) fp) elt f) (hs : ∀ x, foldedSetIterable iter X.env x = pure x := by intro _; rfl) :
    DS F W X (.Assign [.Name y py] (.ListComp elt [⟨tg, iter, ifs, 0⟩] scope pos) spos) (sSet i (eComp (own.map (·.2)) gs fi g f)) := .of (ps_setLc hc hN hy hyl hsw hi ok hg ht he hs) fun Dn σ H ⟨B, env, k, p⟩ => by
  refine t_comp ho hw ⟨B, env, k, ?_⟩
  exact p.split.imp fun d e1 H1 x1 k1 p1 q _ fr => by
    obtain ⟨k2, x2⟩ := store_val i k1 fr.den
    exact p1 _ _ x2 k2
theorem ds_ownComp {i : Nat} {y : Str} (hc : X.calm = true) (hN : X.N.Nodup) (hy : X.N[i]? = some y) (hyl : X.env.scope.names.lookup y = some .local)
    (hsw : swapsWith (.ListComp elt [⟨tg, iter, ifs, 0⟩] scope pos) (some (.Name y py)) spos.line X.env = pure true) (hi : DI F W X tg iter fi) (ok : BlkOk X.N X.env.scope scope own) (ho : GOk F gt gs) (hw : Inside gt (own.map (·.2)))
    (hg : ∀ (s : Shared) (H : Hp) (C : Addr) (cl : List (Str × Addr)) (fp : List Addr), PG (X.blk s H scope (compEnvC scope cl C X.env) fp) tg gt) (ht : ∀ (s : Shared) (H : Hp) (C : Addr) (cl : List (Str × Addr)) (fp : List Addr), DTs F (X.blk s H scope (compEnvC scope cl C X.env) fp) ifs g)
    (he : ∀ (s : Shared) (H : Hp) (C : Addr) (cl : List (Str × Addr)) (fp : List Addr), DE F W0 (X.blk s H scope (compEnvC scope cl C X.env) fp) elt f) (hs : ∀ x, foldedSetIterable iter X.env x = pure x := by intro _; rfl) :
    DS F W X (.Assign [.Name y py] (.ListComp elt [⟨tg, iter, ifs, 0⟩] scope pos) spos) (sOwn i (eComp (own.map (·.2)) gs fi g f)) := .of (ps_setLc hc hN hy hyl hsw hi ok hg ht he hs) fun Dn σ H h => t_comp ho hw (t_own h)
end
end
end Dl

/-! D12: lists and dicts that change; dicts that are read. -/
namespace Dl
open PySem L2

section
variable {F : Cf} {W : WX} {X : Cx} {a b e o value : Expr} {es : List Expr} {fa fb fe fk : ESem} {pos pos' cpos apos : Pos}
/-- x.append(e), x ours -/
def sAppend (i : Nat) (fe : ESem) : SSem := fun env => (lift (ourD env i) env).then fun _ e0 => (fe e0).then fun d e1 => match ourD e1 i with
  | some (.lst ds) => if small ds = true then .nx (putS e1 i (.lst (ds ++ [d]))) else .stuck
  | _ => .stuck
theorem our_slot {B : Addr → Prop} {env : En} {σ : L2.St} {H : Hp} {i : Nat} {d : D} (k : EnvOk F B env σ H) (h : ourD env i = some d) : ∃ a, σ[i]? = some (some (V.ref a)) ∧ Bod F (Os B env σ) H a d := by
  obtain ⟨s, a, h1, h2, h3, h4⟩ := our_at k h
  exact ⟨a, h3, h4⟩
theorem bod_lst {O : Addr → Prop} {H : Hp} {a : Addr} {ds : List D} (h : Bod F O H a (.lst ds)) : ∃ xs, H a = some (.lst xs) ∧ Dens F O H xs ds := by
  cases h with
  | lst e d => exact ⟨_, e, d⟩
theorem bod_dct {O : Addr → Prop} {H : Hp} {a : Addr} {ks : List Key} {ds : List D} (h : Bod F O H a (.dct ks ds)) : ∃ kvs, H a = some (.dK kvs) ∧ kvs.map (·.1) = ks ∧ Dens F O H (kvs.map (·.2)) ds := by
  cases h with
  | dct e k d => exact ⟨_, e, k, d⟩
theorem bod_ins {O : Addr → Prop} {H : Hp} {a : Addr} {c : Str} {ns : List Str} {ds : List D} (h : Bod F O H a (.ins c ns ds)) : ∃ dx fs, H a = some (.ins (F.CE c) dx fs) ∧ fs.map (·.1) = ns ∧ Dens F O H (fs.map (·.2)) ds := by
  cases h with
  | ins e k d => exact ⟨_, _, e, k, d⟩
/-- a lent slot that is ours has a list or whatever the reading of a method asks of its kind; the slot's kind ahead of the argument -/
def tyD (T : String) : D → Bool
  | .lst _ => T == "list"
  | .dct _ _ => T == "dict"
  | _ => false
theorem tyD_V {O : Addr → Prop} {H : Hp} {a : Addr} {d : D} {T : String} (w : Bod F O H a d) (h : tyD T d = true) : tyV F.K T (.ref a) H := by
  cases w with
  | lst e _ => exact .inl ⟨by simpa [tyD] using h, _, SqL.of e⟩
  | dct e _ _ => exact .inr (.inr (.inl ⟨by simpa [tyD] using h, .inl ⟨_, e⟩⟩))
  | _ => cases h
def sAppend' (i : Nat) (fe : ESem) : SSem := fun env => (lift ((ourD env i).bind fun d => if tyD "list" d = true then some d else none) env).then fun _ e0 => (fe e0).then fun d e1 => match ourD e1 i with
  | some (.lst ds) => if small ds = true then .nx (putS e1 i (.lst (ds ++ [d]))) else .stuck
  | _ => .stuck
theorem ds_append {i : Nat} (hK : X.K = F.K) (ho : PE X o (tVar i)) (he : DE F W X e fe) (hbase : attributeBase o "append" X.env (eval o X.env) = eval o X.env := by rfl)
    (hfew : ((backTo cpos (starEach [e] X.env)).all (fun x => !x.1) && (backToKw cpos (keywordEach [] X.env)).all (fun x => x.1.isSome)
      && decide (([e] : List Expr).length + ([] : List Keyword).length + (if ([] : List Keyword).isEmpty then 0 else 1) < 30)) = true := by rfl)
    (hline : (apos.endLine == cpos.line) = true := by rfl) (hs : starEach [e] X.env = (false, eval e X.env) :: starEach [] X.env := by rfl) (hplain : (backTo cpos (starEach [] X.env)).any (·.1) = false := by rfl)
    (hsw : swapsWith (.Call (.Attribute o "append" apos) [e] [] cpos) none pos.line X.env = pure false := by rfl) :
    DS F W X (.Expr (.Call (.Attribute o "append" apos) [e] [] cpos) pos) (sAppend' i fe) :=
  .of (ps_expr (pe_bm PySem.F.plainAttrs_list PySem.F.slot_list_append PySem.F.type_list_append mt_append ho (pa_cons he pa_nil hs) hbase hfew hline hs hplain) hsw) fun Dn σ H ⟨B, env, k, p⟩ => by
    rw [hK]
    obtain ⟨d0, h0, q0⟩ := Post.lift (e := env) k (PostS.split p)
    obtain ⟨d1, h1, h2⟩ := Option.bind_eq_some_iff.mp h0
    split at h2
    · rename_i hty
      cases h2
      obtain ⟨r, hr, w⟩ := our_slot k h1
      refine ⟨.ref r, hr, tyD_V w hty, B, env, k, (PostS.split q0).imp fun d e1 H1 x1 k1 p1 v dv => ?_⟩
      cases hq : ourD e1 i with
      | none =>
        rw [hq] at p1
        exact p1.elim
      | some dd =>
        rw [hq] at p1
        cases dd with
        | lst ds =>
          obtain ⟨s, a, g1, g2, g3, g4⟩ := our_at k1 hq
          rw [hr] at g3
          cases g3
          obtain ⟨xs, e2, dd⟩ := bod_lst g4
          by_cases hz : small ds = true
          · simp only [hz, if_true] at p1
            obtain ⟨k2, x2⟩ := our_put (d' := .lst (ds ++ [d])) (o := .lst (xs ++ [v])) k1 g1 g2 hr fun O H' hk e3 => .lst e3 ((dd.snoc dv).mono hk)
            exact ⟨_, xs, v, rfl, rfl, e2, Nat.lt_of_le_of_lt (show xs.length ≤ 1000000 by rw [dd.length]; exact of_decide_eq_true hz) (by decide), p1 _ _ x2 k2⟩
          · simp only [if_neg hz] at p1
            exact p1.elim
        | _ => exact p1.elim
    · cases h2
/-- x[k] = e, x a list of ours -/
def sSetItem (i : Nat) (fk fe : ESem) : SSem := fun env => (fe env).then fun d e1 => (lift (ourD e1 i) e1).then fun _ e1 => (fk e1).then fun kd e2 => match ourD e2 i, kd with
  | some (.lst ds), .int n => match ixN ds.length n with
    | some j => .nx (putS e2 i (.lst (ds.set j d)))
    | none => .stuck
  | _, _ => .stuck
theorem ds_setItem {i : Nat} {ps : Pos} (ho : PE X o (tVar i)) (hk : DE F W X a fk) (he : DE F W X e fe)
    (ha : ∀ v, assign (.Subscript o a ps) X.env v = (do
      let ov ← holding [v] (eval o X.env)
      let iv ← holding [v, ov] (eval a X.env)
      standAt ps
      holding [v, ov, iv] (setItem ov iv v)
      release [v, ov, iv] []) := by intro _; rfl)
    (hs : swapsWithSole [.Subscript o a ps] e pos.line X.env = pure false := by rfl) (hw : swappedStores [.Subscript o a ps] e X.env = pure none := by rfl)
    (h1 : (assignEach [.Subscript o a ps] X.env).map (·.2) = [assign (.Subscript o a ps) X.env] := by rfl) : DS F W X (.Assign [.Subscript o a ps] e pos) (sSetItem i fk fe) :=
  .of (ps_asg he (pg_sub ho hk set_list ha) hs hw h1) fun Dn σ H ⟨B, env, k, p⟩ =>
    ⟨B, env, k, (PostS.split p).imp fun d e1 H1 x1 k1 p1 v dv => by
      obtain ⟨d0, h0, q0⟩ := Post.lift (e := e1) k1 (PostS.split p1)
      obtain ⟨r, hr, w⟩ := our_slot k1 h0
      refine ⟨.ref r, hr, B, e1, k1, (PostS.split q0).imp fun kd e2 H2 x2 k2 p2 kv dk => ?_⟩
      cases hq : ourD e2 i with
      | none =>
        rw [hq] at p2
        exact p2.elim
      | some dd =>
        rw [hq] at p2
        cases dd with
        | lst ds =>
          cases kd with
          | int n =>
            obtain rfl := den_int dk
            obtain ⟨s, a, g1, g2, g3, g4⟩ := our_at k2 hq
            rw [hr] at g3
            cases g3
            obtain ⟨xs, e3, dd⟩ := bod_lst g4
            have p2 : PostS F W B e2 σ H2 Dn (match ixN ds.length n with
              | some j => .nx (putS e2 i (.lst (ds.set j d)))
              | none => .stuck) := p2
            cases hj : ixN ds.length n with
            | none =>
              rw [hj] at p2
              exact p2.elim
            | some j =>
              rw [hj] at p2
              obtain ⟨k3, x3⟩ := our_put (d' := .lst (ds.set j d)) (o := .lst (xs.set j v)) k2 g1 g2 hr fun O H' hk e4 => .lst e4 ((dd.set j (x2.den k1 dv)).mono hk)
              exact ⟨_, xs, n, j, rfl, rfl, e3, by rw [dd.length]; exact hj, p2 _ _ x3 k3⟩
          | _ => exact p2.elim
        | _ => exact p2.elim⟩
/-- self.f = e -/
def sFldI (cs : List Str) (i : Nat) (f : Str) (fe : ESem) : SSem := fun env => (fe env).then fun d e1 => match ourD e1 i with
  | some (.ins c ns ds) => if (cs.contains c && decide (ns.length ≤ 100)) = true then .nx (putS e1 i (.ins c (putFld ns ds f d).1 (putFld ns ds f d).2)) else .stuck
  | _ => .stuck
theorem ds_fldI {cs : List Str} {i : Nat} {f : Str} (hK : X.K = F.K) (hT : ∀ c ∈ cs, Cls F.K (F.CE c) ∧ NoAttr F.K (F.CE c) f) (ho : PE X o (tVar i)) (he : DE F W X e fe) (hs : swapsWith e (some (.Attribute o f pos')) pos.line X.env = pure false := by rfl) :
    DS F W X (.Assign [.Attribute o f pos'] e pos) (sFldI cs i f fe) := .of (ps_fld ho he hs) fun Dn σ H ⟨B, env, k, p⟩ => by
  rw [hK]
  refine ⟨B, env, k, (PostS.split p).imp fun d e1 H1 x1 k1 p1 v dv => ?_⟩
  cases hq : ourD e1 i with
  | none =>
    rw [hq] at p1
    exact p1.elim
  | some dd =>
    rw [hq] at p1
    cases dd with
    | ins c ns ds =>
      obtain ⟨s, a, g1, g2, g3, g4⟩ := our_at k1 hq
      obtain ⟨dx, fs, e2, e3, dd⟩ := bod_ins g4
      subst e3
      by_cases hz : (cs.contains c && decide ((fs.map (·.1)).length ≤ 100)) = true
      · simp only [hz, if_true] at p1
        simp only [Bool.and_eq_true, decide_eq_true_eq] at hz
        obtain ⟨h1, h2⟩ := hT c (by simpa using hz.1)
        obtain ⟨q1, q2⟩ := putF_den (f := f) dv dd
        obtain ⟨k2, x2⟩ := our_put (d' := .ins c (putFld (fs.map (·.1)) ds f d).1 (putFld (fs.map (·.1)) ds f d).2) (o := .ins (F.CE c) dx (putF f v fs)) k1 g1 g2 g3 fun O H' hk e4 => .ins e4 q1 (q2.mono hk)
        exact ⟨.ref a, g3, a, _, dx, fs, rfl, e2, h1, h2, by have := hz.2; rw [List.length_map] at this; omega, p1 _ _ x2 k2⟩
      · simp only [if_neg hz] at p1
        exact p1.elim
    | _ => exact p1.elim

/-! ### dicts -/
def keyD : D → Option Key
  | .int i => some (.inl i)
  | .str x => some (.inr x)
  | _ => none
theorem keyD_V {O : Addr → Prop} {H : Hp} {v : V} {d : D} {k : Key} (h : Den F O H v d) (e : keyD d = some k) : v = kV k := by
  unfold keyD at e
  split at e
  · cases e; exact den_int h
  · cases e; exact den_str h
  · cases e
def lookK : List Key → List D → Key → Option D
  | k :: ks, d :: ds, q => if k = q then some d else lookK ks ds q
  | _, _, _ => none
theorem look_V {O : Addr → Prop} {H : Hp} (q : Key) : ∀ {kvs : List (Key × V)} {ds : List D}, Dens F O H (kvs.map (·.2)) ds → (∀ d, lookK (kvs.map (·.1)) ds q = some d → ∃ v, valV kvs q = some v ∧ Den F O H v d) ∧ (lookK (kvs.map (·.1)) ds q = none → valV kvs q = none)
  | [], _, .nil => ⟨fun d h => (by cases h), fun _ => rfl⟩
  | (k, v) :: kvs, _, .cons (d := d0) (ds := ds0) a r => by
    obtain ⟨h1, h2⟩ := look_V q r
    have e0 : lookK (((k, v) :: kvs).map (·.1)) (d0 :: ds0) q = if k = q then some d0 else lookK (kvs.map (·.1)) ds0 q := rfl
    by_cases z : k = q
    · rw [e0, if_pos z, valV_pos z]
      exact ⟨fun d h => ⟨v, rfl, by cases h; exact a⟩, fun h => by cases h⟩
    · rw [e0, if_neg z, valV_neg z]
      exact ⟨h1, h2⟩
def gDGet (x y : D) : Option D := match x with
  | .dct ks ds => (keyD y).bind fun k => lookK ks ds k
  | .dcl ks ds => (keyD y).bind fun k => lookK ks ds k
  | _ => none
def rDGet : R2 := fun x y H Q => ∃ a v, x = .ref a ∧ DGet H a y (some v) ∧ Q v H
theorem ok_dget : OkRP F rDGet gDGet := fun O H x y dx dy dz Q t a b e q => by
  unfold gDGet at e
  split at e
  · obtain ⟨k, hk, e⟩ := Option.bind_eq_some_iff.mp e
    obtain ⟨r, kvs, rfl, hr, h1, dd⟩ := a.dct
    subst h1
    obtain ⟨v, hv, dv⟩ := (look_V k dd).1 _ e
    have hb : Den F O H y dy := by
      rcases b with b | ⟨c, rfl, w⟩
      · exact b
      · cases w <;> cases hk
    refine ⟨r, v, rfl, ?_, q v H (Same.refl H) dv⟩
    rw [keyD_V hb hk, ← hv]
    exact DGet.k hr
  · obtain ⟨k, hk, e⟩ := Option.bind_eq_some_iff.mp e
    obtain ⟨r, o, kvs, rfl, hr, h1, dd⟩ := a.dcl
    subst h1
    obtain ⟨v, hv, dv⟩ := (look_V k dd).1 _ e
    have hb : Den F O H y dy := by
      rcases b with b | ⟨c, rfl, w⟩
      · exact b
      · cases w <;> cases hk
    refine ⟨r, v, rfl, ?_, q v H (Same.refl H) dv⟩
    rw [keyD_V hb hk, ← hv]
    exact .inl ⟨kvs, k, .inr ⟨o, hr⟩, rfl, rfl⟩
  · cases e
theorem d_dget (hu : X.A.units + 1 < cLine) (ha : DE F W X a fa) (hb : DE F W X b fb) (hs : NoSl b) : DE F W X (.Subscript a b pos) (eBin gDGet fa fb) := .of (pe_dget hu ha hb hs) fun σ H Q h => t_op (r := rDGet) ok_dget.ok h
theorem d_dgetL {i : Nat} (hu : X.A.units + 1 < cLine) (ha : PE X a (tVar i)) (hb : DE F W X b fb) (hs : NoSl b) : DE F W X (.Subscript a b pos) (eBinL gDGet i fb) := .of (pe_dget hu ha hb hs) fun σ H Q h => t_opL (r := rDGet) ok_dget h
/-- k in d -/
def gDIn (neg : Bool) (y x : D) : Option D := match x with
  | .dct ks ds => (keyD y).bind fun k => some (.bl (if neg then !(lookK ks ds k).isSome else (lookK ks ds k).isSome))
  | .dcl ks ds => (keyD y).bind fun k => some (.bl (if neg then !(lookK ks ds k).isSome else (lookK ks ds k).isSome))
  | _ => none
def rDIn (neg : Bool) : R2 := fun y x H Q => ∃ a o, x = .ref a ∧ DGet H a y o ∧ Q (.bl (if neg then !o.isSome else o.isSome)) H
theorem ok_din (neg : Bool) : OkRP F (rDIn neg) (gDIn neg) := fun O H y x dy dx dz Q t b a e q => by
  have key : ∀ {ks : List Key} {ds : List D} {kvs : List (Key × V)} {k : Key} {r : Addr}, keyD dy = some k → Rd H r (.dK kvs) → kvs.map (·.1) = ks → Dens F O H (kvs.map (·.2)) ds → dz = .bl (if neg then !(lookK ks ds k).isSome else (lookK ks ds k).isSome) → rDIn neg y (.ref r) H Q := fun {ks ds kvs k r} hk hr h1 dd ez => by
    subst h1 ez
    have hb : Den F O H y dy := by
      rcases b with b | ⟨c, rfl, w⟩
      · exact b
      · cases w <;> cases hk
    have he : (valV kvs k).isSome = (lookK (kvs.map (·.1)) ds k).isSome := by
      cases hl : lookK (kvs.map (·.1)) ds k with
      | none =>
        rw [(look_V k dd).2 hl]
        rfl
      | some d =>
        obtain ⟨v, hv, _⟩ := (look_V k dd).1 _ hl
        rw [hv]
        rfl
    refine ⟨r, valV kvs k, rfl, ?_, ?_⟩
    · rw [keyD_V hb hk]
      exact .inl ⟨kvs, k, hr, rfl, rfl⟩
    · rw [he]
      exact q _ H (Same.refl H) (.bl _)
  unfold gDIn at e
  split at e
  · rename_i ks ds
    obtain ⟨k, hk, e⟩ := Option.bind_eq_some_iff.mp e
    obtain ⟨r, kvs, rfl, hr, h1, dd⟩ := a.dct
    exact key hk (.inl hr) h1 dd (Option.some.inj e).symm
  · rename_i ks ds
    obtain ⟨k, hk, e⟩ := Option.bind_eq_some_iff.mp e
    obtain ⟨r, o, kvs, rfl, hr, h1, dd⟩ := a.dcl
    exact key hk (.inr ⟨o, hr⟩) h1 dd (Option.some.inj e).symm
  · cases e
theorem d_din (hu : X.A.units + 1 < cLine) (ha : DE F W X a fa) (hb : DE F W X b fb) (h1 : behindInMarks .In b = false := by rfl) : DE F W X (.Compare a [.In] [b] pos) (eBin (gDIn false) fa fb) := .of (pe_cmp (pc_din hu ha hb) h1) fun σ H Q h => t_op (r := rDIn false) (ok_din false).ok h
theorem d_dnotin (hu : X.A.units + 1 < cLine) (ha : DE F W X a fa) (hb : DE F W X b fb) (h1 : behindInMarks .NotIn b = false := by rfl) : DE F W X (.Compare a [.NotIn] [b] pos) (eBin (gDIn true) fa fb) := .of (pe_cmp (pc_dnotin hu ha hb) h1) fun σ H Q h => t_op (r := rDIn true) (ok_din true).ok h
theorem d_dinP {i : Nat} (hu : X.A.units + 1 < cLine) (ha : DE F W X a fa) (hb : PE X b (tVar i)) (h1 : behindInMarks .In b = false := by rfl) : DE F W X (.Compare a [.In] [b] pos) (eBinR (gDIn false) fa i) := .of (pe_cmp (pc_din hu ha hb) h1) fun σ H Q h => t_opR (r := rDIn false) (ok_din false) h
theorem d_dnotinP {i : Nat} (hu : X.A.units + 1 < cLine) (ha : DE F W X a fa) (hb : PE X b (tVar i)) (h1 : behindInMarks .NotIn b = false := by rfl) : DE F W X (.Compare a [.NotIn] [b] pos) (eBinR (gDIn true) fa i) := .of (pe_cmp (pc_dnotin hu ha hb) h1) fun σ H Q h => t_opR (r := rDIn true) (ok_din true) h
/-- d[k] = v -/
def replD : List Key → List D → Key → D → List D
  | k :: ks, d :: ds, q, v => (if k = q then v else d) :: replD ks ds q v
  | _, _, _, _ => []
def hasK (ks : List Key) (q : Key) : Bool := ks.any fun k => decide (k = q)
def putDct (ks : List Key) (ds : List D) (q : Key) (v : D) : D := if hasK ks q = true then .dct ks (replD ks ds q v) else .dct (ks ++ [q]) (ds ++ [v])
theorem repl_den {O : Addr → Prop} {H : Hp} {v : V} {d : D} (q : Key) (h : Den F O H v d) : ∀ {kvs : List (Key × V)} {ds : List D}, Dens F O H (kvs.map (·.2)) ds → Dens F O H ((kvs.map fun kv => if kv.1 = q then (kv.1, v) else kv).map (·.2)) (replD (kvs.map (·.1)) ds q d)
  | [], _, .nil => .nil
  | (k, w) :: kvs, _, .cons (d := d0) (ds := ds0) a r => by
    have ih := repl_den q h r
    rw [List.map_cons, List.map_cons, List.map_cons, replD]
    refine .cons ?_ ih
    by_cases z : k = q
    · rw [if_pos z, if_pos z]; exact h
    · rw [if_neg z, if_neg z]; exact a
theorem put_dct {O : Addr → Prop} {v : V} {d : D} {a : Addr} {H' : Hp} (q : Key) {kvs : List (Key × V)} {ds : List D} (h : Den F O H' v d) (dd : Dens F O H' (kvs.map (·.2)) ds) (e : H' a = some (.dK (putK kvs q v))) : Bod F O H' a (putDct (kvs.map (·.1)) ds q d) := by
  have hiff : (kvs.any fun kv => decide (kv.1 = q)) = hasK (kvs.map (·.1)) q := by
    unfold hasK
    rw [List.any_map]
    rfl
  unfold putDct
  unfold putK at e
  rw [hiff] at e
  by_cases z : hasK (kvs.map (·.1)) q = true
  · rw [if_pos z]
    rw [if_pos z] at e
    refine .dct e ?_ (repl_den q h dd)
    rw [List.map_map]
    apply List.map_congr_left
    intro kv _
    show (if kv.1 = q then (kv.1, v) else kv).1 = kv.1
    split <;> rfl
  · rw [if_neg z]
    rw [if_neg z] at e
    refine .dct e (by rw [List.map_append]; rfl) ?_
    rw [List.map_append]
    exact dd.snoc h
def sDPut (i : Nat) (fk fe : ESem) : SSem := fun env => (fe env).then fun d e1 => (lift (ourD e1 i) e1).then fun _ e1 => (fk e1).then fun kd e2 => match ourD e2 i, keyD kd with
  | some (.dct ks ds), some q => if decide (ks.length ≤ 1000000) = true then .nx (putS e2 i (putDct ks ds q d)) else .stuck
  | _, _ => .stuck
theorem ds_dput {i : Nat} (hu : X.A.units + 1 < cLine) (ho : PE X o (tVar i)) (hk : DE F W X a fk) (he : DE F W X value fe) (hs : swapsWith value (some (.Subscript o a pos')) pos.line X.env = pure false := by rfl) : DS F W X (.Assign [.Subscript o a pos'] value pos) (sDPut i fk fe) :=
  .of (ps_dput hu ho hk he hs) fun Dn σ H ⟨B, env, k, p⟩ =>
    ⟨B, env, k, (PostS.split p).imp fun d e1 H1 x1 k1 p1 v dv => by
      obtain ⟨d0, h0, q0⟩ := Post.lift (e := e1) k1 (PostS.split p1)
      obtain ⟨r, hr, w⟩ := our_slot k1 h0
      refine ⟨.ref r, hr, B, e1, k1, (PostS.split q0).imp fun kd e2 H2 x2 k2 p2 kv dk => ?_⟩
      cases hq : ourD e2 i with
      | none =>
        rw [hq] at p2
        exact p2.elim
      | some dd =>
        rw [hq] at p2
        cases dd with
        | dct ks ds =>
          cases hkd : keyD kd with
          | none =>
            rw [hkd] at p2
            exact p2.elim
          | some q =>
            rw [hkd] at p2
            obtain rfl := keyD_V dk hkd
            obtain ⟨s, a, g1, g2, g3, g4⟩ := our_at k2 hq
            rw [hr] at g3
            cases g3
            obtain ⟨kvs, e3, e4, dd⟩ := bod_dct g4
            subst e4
            have p2 : PostS F W B e2 σ H2 Dn (if decide ((kvs.map (·.1)).length ≤ 1000000) = true then .nx (putS e2 i (putDct (kvs.map (·.1)) ds q d)) else .stuck) := p2
            by_cases hz : decide ((kvs.map (·.1)).length ≤ 1000000) = true
            · rw [if_pos hz] at p2
              obtain ⟨k3, x3⟩ := our_put (d' := putDct (kvs.map (·.1)) ds q d) (o := .dK (putK kvs q v)) k2 g1 g2 hr fun O H' hk e5 => put_dct (H' := H') q ((x2.den k1 dv).mono hk) (dd.mono hk) e5
              refine ⟨r, _, rfl, DPut.k e3 ?_, p2 _ _ x3 k3⟩
              have := of_decide_eq_true hz
              rw [List.length_map] at this
              exact Nat.lt_of_le_of_lt this (by decide)
            · rw [if_neg hz] at p2
              exact p2.elim
        | _ => exact p2.elim⟩
end
end Dl

/-! D13: more built-ins: tuple, list, sorted, min, max, isinstance, count; is of bools. -/
namespace Dl
open PySem L2

section
variable {F : Cf} {W : WX} {X : Cx} {a b e o : Expr} {es : List Expr} {fa fb fe : ESem} {pos p1 p2 p3 cpos apos : Pos}
/-! ### tuple(..), list(..) -/
def gTupleOf : D → Option D
  | .lst ds => some (.tup ds)
  | .tup ds => some (.tup ds)
  | _ => none
def rTupleOf (K : PySem.W.Frag) : List V → Hp → VK → Prop := fun xs H Q => ∃ p ys, xs = [V.ref p] ∧ ((SqL K H p ys ∧ ∀ l, H l = none → Q (.ref l) (upd H l (.tup ys))) ∨ (SqT K H p ys ∧ Q (.ref p) H))
theorem ok_tupleOf : OkC F (rTupleOf F.K) (g1 gTupleOf) := fun O H xs ds dz Q t d e q => by
  unfold g1 at e
  split at e
  · cases d with
    | cons h r =>
      cases r
      unfold gTupleOf at e
      split at e
      · cases e
        obtain ⟨p, ys, rfl, hs, dd⟩ := DenP.lst (.inl h)
        refine ⟨p, ys, rfl, .inl ⟨SqL.of hs, fun l hl => ?_⟩⟩
        obtain ⟨sm, w⟩ := lay (F := F) (d := .tup _) (o := .tup ys) t hl (.tup upd_same (dd.grow (same_new hl)))
        exact q _ _ sm w
      · cases e
        obtain ⟨p, ys, rfl, hs, dd⟩ := tup_of h
        exact ⟨p, ys, rfl, .inr ⟨hs, q _ H (Same.refl H) h⟩⟩
      · cases e
  · cases e
/-- .. read in place: the tuple is new -/
def gTupleOfP : D → Option D
  | .lst ds => some (.tup ds)
  | _ => none
theorem ok_tupleOfP : OkUP F (fun x H Q => rTupleOf F.K [x] H Q) gTupleOfP := fun O H x dx dz Q t h e q => by
  unfold gTupleOfP at e
  split at e
  · cases e
    obtain ⟨p, ys, rfl, hs, dd⟩ := h.lst
    refine ⟨p, ys, rfl, .inl ⟨SqL.of hs, fun l hl => ?_⟩⟩
    obtain ⟨sm, w⟩ := lay (F := F) (d := .tup _) (o := .tup ys) t hl (.tup upd_same (dd.grow (same_new hl)))
    exact q _ _ sm w
  · cases e
def gListOf : D → Option D
  | .lst ds => some (.lst ds)
  | .tup ds => some (.lst ds)
  | .dct ks _ => some (.lst (ks.map fun k => match k with | .inl i => .int i | .inr x => .str x))
  | _ => none
def rListOf (K : PySem.W.Frag) : List V → Hp → VK → Prop := fun xs H Q => (∃ p ys, xs = [V.ref p] ∧ (SqL K H p ys ∨ SqT K H p ys) ∧ ∀ l, H l = none → Q (.ref l) (upd H l (.lst ys))) ∨ rListD xs H Q
theorem call_listOf (hK : X.K = F.K) (hc : X.calm = true) : CallR X (.type "list") (rListOf F.K) := by
  rw [← hK]
  exact call_or call_list_of (call_list_dK hc)
theorem dens_keys {O : Addr → Prop} {H : Hp} : ∀ kvs : List (Key × V), Dens F O H (kvs.map fun kv => kV kv.1) ((kvs.map (·.1)).map fun k => match k with | .inl i => .int i | .inr x => .str x)
  | [] => .nil
  | (.inl i, _) :: r => .cons (.int i) (dens_keys r)
  | (.inr x, _) :: r => .cons (.str x) (dens_keys r)
theorem list_road {O : Addr → Prop} {H : Hp} {v : V} {dx dz : D} {Q : VK} (h : DenP F O H v dx) (e : gListOf dx = some dz) (q : ∀ p vs ds, dz = .lst ds → H p = none → Dens F O H vs ds → Q (.ref p) (upd H p (.lst vs))) : rListOf F.K [v] H Q := by
  unfold gListOf at e
  split at e
  · cases e
    obtain ⟨p, ys, rfl, hs, dd⟩ := h.lst
    exact .inl ⟨p, ys, rfl, .inl (SqL.of hs), fun l hl => q l ys _ rfl hl dd⟩
  · cases e
    obtain ⟨p, ys, rfl, hs, dd⟩ := h.tup
    exact .inl ⟨p, ys, rfl, .inr hs, fun l hl => q l ys _ rfl hl dd⟩
  · cases e
    obtain ⟨p, kvs, rfl, hs, k, dd⟩ := h.dct
    subst k
    exact .inr ⟨p, kvs, rfl, hs, fun l hl => q l _ _ rfl hl (dens_keys kvs)⟩
  · cases e
theorem ok_listOf : OkC F (rListOf F.K) (g1 gListOf) := fun O H xs ds dz Q t d e q => by
  unfold g1 at e
  split at e
  · cases d with
    | cons h r =>
      cases r
      refine list_road (.inl h) e fun l vs ds hz hl dd => ?_
      subst hz
      obtain ⟨sm, w⟩ := lay (F := F) (d := .lst ds) (o := .lst vs) t hl (.lst upd_same (dd.grow (same_new hl)))
      exact q _ _ sm w
  · cases e
/-- list(x), kept as ours -/
theorem dn_listOf {x : Str} {p : Pos} (hK : X.K = F.K) (hc : X.calm = true) (hg : Gl X x) (hm : X.mg x = none) (hv : bootBuiltins x = some (.type "list")) (h : DE F W X e fe) (hn : x ≠ "__name__" := by decide) (hdb : (x == ("__debug__" : Str)) = false := by decide)
    (he : starEach [e] X.env = (false, eval e X.env) :: starEach [] X.env := by rfl) (hpl : (backTo pos (starEach [] X.env)).any (·.1) = false := by rfl) : DN F W X (.Call (.Name x p) [e] [] pos) (eUn gListOf fe) :=
  .of (pe_callTy (call_listOf hK hc) hg hm hv (pa_cons h pa_nil he) hn hdb he hpl) fun σ H Q ⟨B, env, k, p⟩ => ⟨B, env, k, p.split.imp fun d e1 H1 x1 k1 p1 v dv => by
    obtain ⟨z, hz, q⟩ := Post.lift (e := e1) k1 p1
    refine list_road (.inl dv) hz fun l vs ds ez hl dd => ?_
    subst ez
    have sm : Same H1 (upd H1 l (.lst vs)) := same_new hl
    have p2 : Post F W B σ e1 H1 _ (lift (gListOf d) e1) := p1
    rw [hz] at p2
    exact p2 _ (Ext.new sm) (k1.grow sm) l (none_back x1 hl) (fresh_new k1 hl fun O hk => .lst upd_same (dd.mono hk))⟩
theorem de_listOfP {i : Nat} {x : Str} {p : Pos} (hK : X.K = F.K) (hc : X.calm = true) (hg : Gl X x) (hm : X.mg x = none) (hv : bootBuiltins x = some (.type "list")) (h : PE X e (tVar i)) (hn : x ≠ "__name__" := by decide) (hdb : (x == ("__debug__" : Str)) = false := by decide)
    (he : starEach [e] X.env = (false, eval e X.env) :: starEach [] X.env := by rfl) (hpl : (backTo pos (starEach [] X.env)).any (·.1) = false := by rfl) : DN F W X (.Call (.Name x p) [e] [] pos) (eUnP gListOf i) :=
  .of (pe_callTy (call_listOf hK hc) hg hm hv (pa_cons h pa_nil he) hn hdb he hpl) fun σ H Q ⟨B, env, k, p⟩ => by
    obtain ⟨z, hz, q⟩ := Post.lift (e := env) k p
    obtain ⟨d, hd, hz'⟩ := Option.bind_eq_some_iff.mp hz
    obtain ⟨v, e1, w1⟩ := slot_den k hd
    refine ⟨v, e1, list_road w1 hz' fun l vs ds ez hl dd => ?_⟩
    subst ez
    have sm : Same H (upd H l (.lst vs)) := same_new hl
    have p2 : Post F W B σ env H _ (lift ((slotD env i).bind gListOf) env) := p
    rw [hz] at p2
    exact p2 _ (Ext.new sm) (k.grow sm) l hl (fresh_new k hl fun O hk => .lst upd_same (dd.mono hk))
/-- tuple(range(..)), list(range(..)) -/
theorem dens_rg {O : Addr → Prop} {H : Hp} (n : Nat) (lo : Int) : Dens F O H ((List.range n).map fun i => V.int (lo + (i : Nat))) (intsFrom lo n) := by
  induction n generalizing lo with
  | zero => exact .nil
  | succ n ih =>
    rw [List.range_succ_eq_map, List.map_cons, List.map_map, intsFrom]
    refine .cons (by
      have e0 : lo + ((0 : Nat) : Int) = lo := by omega
      rw [e0]
      exact .int lo) ?_
    have e : ((fun i => V.int (lo + (i : Nat))) ∘ Nat.succ) = fun i => V.int (lo + 1 + (i : Nat)) := by
      funext i
      show V.int (lo + ((i + 1 : Nat) : Int)) = _
      congr 1
      omega
    rw [e]
    exact ih (lo + 1)
def rngOk (n : Int) : Bool := decide (0 ≤ n) && decide (n ≤ 1000000)
def gRng1 (mk : List D → D) : D → Option D
  | .int n => if rngOk n = true then some (mk (intsFrom 0 n.toNat)) else none
  | _ => none
theorem de_tupRange1 {p : Pos} (hc : X.calm = true) (hg : Gl X "tuple") (hm : X.mg "tuple" = none) (hg2 : Gl X "range") (hm2 : X.mg "range" = none) (ha : DE F W X a fa) (na2 : starEach [a] X.env = (false, eval a X.env) :: starEach [] X.env := by rfl)
    (na : starEach [.Call (.Name "range" p1) [a] [] p2] X.env = (false, eval (.Call (.Name "range" p1) [a] [] p2) X.env) :: starEach [] X.env := by rfl) : DE F W X (.Call (.Name "tuple" p) [.Call (.Name "range" p1) [a] [] p2] [] pos) (eUn (gRng1 .tup) fa) :=
  .of (pe_tupRg hc hg hm (prg_1 hg2 hm2 ha na2) na) fun σ H Q ⟨B, env, k, p⟩ => ⟨B, env, k, p.split.imp fun d e1 H1 x1 k1 p1 v dv => by
    obtain ⟨z, hz, q⟩ := t_lift (P := fun _ => True) k1 p1
    unfold gRng1 at hz
    split at hz
    · rename_i n
      split at hz
      · rename_i hb
        cases hz
        unfold rngOk at hb
        simp only [Bool.and_eq_true, decide_eq_true_eq] at hb
        refine ⟨n, den_int dv, ⟨by omega, by omega, by omega, by omega, by omega⟩, fun l hl => ?_⟩
        have dd : Dens F (Os B e1 σ) (upd H1 l (.tup (rgV 0 n))) (rgV 0 n) (intsFrom 0 n.toNat) := by
          unfold rgV
          rw [Int.sub_zero]
          exact dens_rg _ 0
        obtain ⟨sm, w⟩ := lay (F := F) (H := H1) (p := l) (d := .tup (intsFrom 0 n.toNat)) (o := .tup (rgV 0 n)) (fun a => k1.trkO) hl (.tup upd_same dd)
        exact q _ _ sm w
      · cases hz
    · cases hz⟩
theorem dn_listRange1 {p : Pos} (hc : X.calm = true) (hg : Gl X "list") (hm : X.mg "list" = none) (hg2 : Gl X "range") (hm2 : X.mg "range" = none) (ha : DE F W X a fa) (na2 : starEach [a] X.env = (false, eval a X.env) :: starEach [] X.env := by rfl)
    (na : starEach [.Call (.Name "range" p1) [a] [] p2] X.env = (false, eval (.Call (.Name "range" p1) [a] [] p2) X.env) :: starEach [] X.env := by rfl) : DN F W X (.Call (.Name "list" p) [.Call (.Name "range" p1) [a] [] p2] [] pos) (eUn (gRng1 .lst) fa) :=
  .of (pe_listRg hc hg hm (prg_1 hg2 hm2 ha na2) na) fun σ H Q ⟨B, env, k, p⟩ => ⟨B, env, k, p.split.imp fun d e1 H1 x1 k1 p1 v dv => by
    obtain ⟨z, hz, q⟩ := Post.lift (e := e1) k1 p1
    have p2 : Post F W B σ e1 H1 _ (lift (gRng1 .lst d) e1) := p1
    rw [hz] at p2
    unfold gRng1 at hz
    split at hz
    · rename_i n
      split at hz
      · rename_i hb
        cases hz
        unfold rngOk at hb
        simp only [Bool.and_eq_true, decide_eq_true_eq] at hb
        refine ⟨n, den_int dv, ⟨by omega, by omega, by omega, by omega, by omega⟩, fun l hl => ?_⟩
        have sm : Same H1 (upd H1 l (.lst (rgV 0 n))) := same_new hl
        refine p2 _ (Ext.new sm) (k1.grow sm) l (none_back x1 hl) (fresh_new k1 hl fun O hk => .lst upd_same ?_)
        unfold rgV
        rw [Int.sub_zero]
        exact dens_rg _ 0
      · cases hz
    · cases hz⟩
/-! ### sorted of ints, min, max of a list -/
def insI (x : Int) : List Int → List Int
  | [] => [x]
  | y :: ys => if x ≤ y then x :: y :: ys else y :: insI x ys
def isort : List Int → List Int
  | [] => []
  | x :: xs => insI x (isort xs)
theorem insI_perm (x : Int) : ∀ ys : List Int, (insI x ys).Perm (x :: ys)
  | [] => List.Perm.refl _
  | y :: ys => by
    unfold insI
    split
    · exact List.Perm.refl _
    · exact ((insI_perm x ys).cons y).trans (List.Perm.swap x y ys)
theorem isort_perm : ∀ xs : List Int, (isort xs).Perm xs
  | [] => List.Perm.refl _
  | x :: xs => (insI_perm x (isort xs)).trans ((isort_perm xs).cons x)
theorem insI_sorted (x : Int) : ∀ {ys : List Int}, ys.Pairwise (· ≤ ·) → (insI x ys).Pairwise (· ≤ ·)
  | [], _ => by simp [insI]
  | y :: ys, h => by
    obtain ⟨h1, h2⟩ := List.pairwise_cons.mp h
    unfold insI
    split
    · rename_i hxy
      refine List.pairwise_cons.mpr ⟨fun z hz => ?_, h⟩
      rcases List.mem_cons.mp hz with e | hz
      · rw [e]; exact hxy
      · exact Int.le_trans hxy (h1 z hz)
    · rename_i hxy
      refine List.pairwise_cons.mpr ⟨fun z hz => ?_, insI_sorted x h2⟩
      rcases List.mem_cons.mp ((insI_perm x ys).mem_iff.mp hz) with e | hz
      · rw [e]; omega
      · exact h1 z hz
theorem isort_sorted : ∀ xs : List Int, (isort xs).Pairwise (· ≤ ·)
  | [] => List.Pairwise.nil
  | x :: xs => insI_sorted x (isort_sorted xs)
theorem sorted_unique : ∀ {xs ys : List Int}, xs.Perm ys → xs.Pairwise (· ≤ ·) → ys.Pairwise (· ≤ ·) → xs = ys
  | [], ys, p, _, _ => by rw [List.nil_perm.mp p]
  | x :: xs, [], p, _, _ => absurd p.length_eq (by simp)
  | x :: xs, y :: ys, p, hx, hy => by
    obtain ⟨x1, x2⟩ := List.pairwise_cons.mp hx
    obtain ⟨y1, y2⟩ := List.pairwise_cons.mp hy
    have e : x = y := by
      have m1 : x ∈ y :: ys := p.mem_iff.mp List.mem_cons_self
      have m2 : y ∈ x :: xs := p.mem_iff.mpr List.mem_cons_self
      rcases List.mem_cons.mp m1 with e | m1
      · exact e
      · rcases List.mem_cons.mp m2 with e | m2
        · exact e.symm
        · have a1 := x1 y m2
          have a2 := y1 x m1
          omega
    subst e
    rw [sorted_unique (List.perm_cons x |>.mp p) x2 y2]
def gSorted : D → Option D
  | .lst ds => (toInts ds).map fun ns => .lst ((isort ns).map D.int)
  | _ => none
theorem ok_sorted : OkUP F (fun x H Q => rSortedI F.K [x] H Q) gSorted := fun O H x dx dz Q t h e q => by
  unfold gSorted at e
  split at e
  · obtain ⟨ns, e1, e2⟩ := Option.map_eq_some_iff.mp e
    subst e2
    obtain ⟨p, xs, rfl, hs, dd⟩ := h.lst
    have ev := intsV e1 dd
    subst ev
    refine ⟨p, ns, rfl, SqL.of hs, fun ns' l pm so hl => ?_⟩
    have en : ns' = isort ns := sorted_unique (pm.trans (isort_perm ns).symm) so (isort_sorted ns)
    subst en
    obtain ⟨sm, w⟩ := lay (F := F) (d := .lst ((isort ns).map D.int)) (o := .lst ((isort ns).map V.int)) t hl (.lst upd_same (dens_ints _))
    exact q _ _ sm w
  · cases e
def maxI : List Int → Int
  | [] => 0
  | [x] => x
  | x :: xs => max x (maxI xs)
def minI : List Int → Int
  | [] => 0
  | [x] => x
  | x :: xs => min x (minI xs)
theorem maxI_spec : ∀ (x : Int) (xs : List Int), maxI (x :: xs) ∈ x :: xs ∧ ∀ y ∈ x :: xs, y ≤ maxI (x :: xs)
  | x, [] => ⟨List.mem_cons_self, fun y h => by
    rcases List.mem_cons.mp h with e | h
    · rw [e]; exact Int.le_refl _
    · simp at h⟩
  | x, z :: xs => by
    obtain ⟨h1, h2⟩ := maxI_spec z xs
    have e : maxI (x :: z :: xs) = max x (maxI (z :: xs)) := rfl
    rw [e]
    refine ⟨?_, fun y hy => ?_⟩
    · by_cases q : x ≤ maxI (z :: xs)
      · rw [Int.max_eq_right q]; exact List.mem_cons_of_mem _ h1
      · rw [Int.max_eq_left (by omega)]; exact List.mem_cons_self
    · rcases List.mem_cons.mp hy with e | hy
      · rw [e]; omega
      · have := h2 y hy; omega
theorem minI_spec : ∀ (x : Int) (xs : List Int), minI (x :: xs) ∈ x :: xs ∧ ∀ y ∈ x :: xs, minI (x :: xs) ≤ y
  | x, [] => ⟨List.mem_cons_self, fun y h => by
    rcases List.mem_cons.mp h with e | h
    · rw [e]; exact Int.le_refl _
    · simp at h⟩
  | x, z :: xs => by
    obtain ⟨h1, h2⟩ := minI_spec z xs
    have e : minI (x :: z :: xs) = min x (minI (z :: xs)) := rfl
    rw [e]
    refine ⟨?_, fun y hy => ?_⟩
    · by_cases q : x ≤ minI (z :: xs)
      · rw [Int.min_eq_left q]; exact List.mem_cons_self
      · rw [Int.min_eq_right (by omega)]; exact List.mem_cons_of_mem _ h1
    · rcases List.mem_cons.mp hy with e | hy
      · rw [e]; omega
      · have := h2 y hy; omega
def gMax1 : D → Option D
  | .lst ds => (toInts ds).bind fun ns => if ns.isEmpty = true then none else some (.int (maxI ns))
  | _ => none
def gMin1 : D → Option D
  | .lst ds => (toInts ds).bind fun ns => if ns.isEmpty = true then none else some (.int (minI ns))
  | _ => none
theorem ok_max1 : OkUP F (fun x H Q => rMax F.K [x] H Q) gMax1 := fun O H x dx dz Q t h e q => by
  unfold gMax1 at e
  split at e
  · obtain ⟨ns, e1, e2⟩ := Option.bind_eq_some_iff.mp e
    split at e2
    · cases e2
    · rename_i hne
      cases e2
      obtain ⟨p, xs, rfl, hs, dd⟩ := h.lst
      have ev := intsV e1 dd
      subst ev
      cases ns with
      | nil => exact absurd rfl hne
      | cons n ns =>
        refine ⟨p, n :: ns, rfl, SqL.of hs, by simp, fun m hm hle => ?_⟩
        obtain ⟨h1, h2⟩ := maxI_spec n ns
        have em : m = maxI (n :: ns) := Int.le_antisymm (h2 m hm) (hle _ h1)
        rw [em]
        exact q _ H (Same.refl H) (.int _)
  · cases e
theorem ok_min1 : OkUP F (fun x H Q => rMin F.K [x] H Q) gMin1 := fun O H x dx dz Q t h e q => by
  unfold gMin1 at e
  split at e
  · obtain ⟨ns, e1, e2⟩ := Option.bind_eq_some_iff.mp e
    split at e2
    · cases e2
    · rename_i hne
      cases e2
      obtain ⟨p, xs, rfl, hs, dd⟩ := h.lst
      have ev := intsV e1 dd
      subst ev
      cases ns with
      | nil => exact absurd rfl hne
      | cons n ns =>
        refine ⟨p, n :: ns, rfl, SqL.of hs, by simp, fun m hm hle => ?_⟩
        obtain ⟨h1, h2⟩ := minI_spec n ns
        have em : m = minI (n :: ns) := Int.le_antisymm (hle _ h1) (h2 m hm)
        rw [em]
        exact q _ H (Same.refl H) (.int _)
  · cases e

/-! ### isinstance -/
def tyName : D → Option String
  | .non => some "NoneType"
  | .bl _ => some "bool"
  | .int _ => some "int"
  | .str _ => some "str"
  | .tup _ => some "tuple"
  | .lst _ => some "list"
  | .dct _ _ => some "dict"
  | _ => none
theorem ty_den {O : Addr → Prop} {H : Hp} {v : V} {d : D} {n : String} (h : DenP F O H v d) (e : tyName d = some n) : TyX F.K H v (.type n) := by
  unfold tyName at e
  split at e
  · cases e; rw [h.non]; exact .base .non
  · cases e; rw [h.bl]; exact .base (.bl _)
  · cases e; rw [h.int]; exact .base (.int _)
  · cases e; rw [h.str]; exact .base (.str _)
  · cases e
    obtain ⟨a, xs, rfl, hs, _⟩ := h.tup
    rcases hs with (hs | ⟨o, hs⟩) | ⟨o, its, n, hs, hc, _⟩
    · exact .base (.tup hs)
    · exact .fTuple hs
    · exact .kTuple hs hc
  · cases e
    obtain ⟨a, xs, rfl, hs, _⟩ := h.lst
    exact .base (.lst hs)
  · cases e
    obtain ⟨a, kvs, rfl, hs, _⟩ := h.dct
    exact .base (.dK hs)
  · cases e
def gIsi (T : String) (d : D) : Option D := (tyName d).bind fun n => (kitB n T).map D.bl
def gIsi2 (T T2 : String) (d : D) : Option D := (tyName d).bind fun n => (kitB n T).bind fun b => if b = true then some (.bl true) else (kitB n T2).map D.bl
theorem de_isi {cn : Str} {T : String} {p : Pos} (hK : X.K = F.K) (hg : Gl X "isinstance") (hm : X.mg "isinstance" = none) (hg2 : Gl X cn) (hm2 : X.mg cn = none) (hv2 : bootBuiltins cn = some (.type T)) (ha : DE F W X a fa) (hn2 : cn ≠ "__name__" := by decide) (hdb2 : (cn == ("__debug__" : Str)) = false := by decide)
    (he : starEach [a, .Name cn p1] X.env = (false, eval a X.env) :: starEach [.Name cn p1] X.env := by rfl) (hpl : (backTo pos (starEach [.Name cn p1] X.env)).any (·.1) = false := by rfl) (hs : starEach [.Name cn p1] X.env = (false, eval (.Name cn p1) X.env) :: starEach [] X.env := by rfl) :
    DE F W X (.Call (.Name "isinstance" p) [a, .Name cn p1] [] pos) (eUn (gIsi T) fa) :=
  .of (pe_callB call_isi hg hm (by decide +kernel) (pa_cons ha (pa_cons (pe_bltn (v := .ty T) hg2 hm2 hv2 rfl hn2 hdb2) pa_nil hs) he) (by decide) (by decide) he hpl) fun σ H Q ⟨B, env, k, p⟩ => ⟨B, env, k, p.split.imp fun d e1 H1 x1 k1 p1 v dv => by
    obtain ⟨z, hz, q⟩ := t_lift (P := fun _ => True) k1 p1
    obtain ⟨n, e2, e3⟩ := Option.bind_eq_some_iff.mp hz
    obtain ⟨r, e4, e5⟩ := Option.map_eq_some_iff.mp e3
    subst e5
    rw [hK]
    exact ⟨v, .ty T, .type n, .type T, r, rfl, .ty T, ty_den (.inl dv) e2, kit_ty e4, q _ H1 (Same.refl H1) (.bl r)⟩⟩
end
end Dl

/-! D14: defs that say super(). -/
namespace Dl
open PySem PySem.Spec L2

/-! ### bodies at their own frame -/
structure PEA (X : Cx) (body : List Stmt) (e : Expr) (t : TE) : Prop where
  run : ∀ (pins : List (Addr × Obj)) (s : Shared) (σ : L2.St) (H : Hp) (Q : VK), Inv X pins σ H s → t σ H Q → _root_.PySem.wpAt (model X.prog X.w) X.A (.func body X.env) (eval e X.env) (EP X pins σ Q) X.xe s
structure PSA (X : Cx) (body : List Stmt) (st : Stmt) (t : TS) : Prop where
  run : ∀ (pins : List (Addr × Obj)) (s : Shared) (σ : L2.St) (H : Hp) (D : Ends), Inv X pins σ H s → t D σ H → _root_.PySem.wpAt (model X.prog X.w) X.A (.func body X.env) (exec st X.env) (SP X pins D) X.xe s
structure PSsA (X : Cx) (body : List Stmt) (st : List Stmt) (t : TS) : Prop where
  run : ∀ (pins : List (Addr × Obj)) (s : Shared) (σ : L2.St) (H : Hp) (D : Ends), Inv X pins σ H s → t D σ H → _root_.PySem.wpAt (model X.prog X.w) X.A (.func body X.env) (execs st X.env) (SP X pins D) X.xe s
section
variable {X : Cx} {body : List Stmt} {st : Stmt} {sts rest : List Stmt} {e : Expr} {te : TE} {t t' : TS} {pos : Pos}
theorem PSA.of (h : PS X st t) : PSA X body st t := ⟨fun pins s σ H D I q => wpAt_of_wpAny (h.run pins s σ H D I q)⟩
theorem PSsA.of (h : PSs X sts t) : PSsA X body sts t := ⟨fun pins s σ H D I q => wpAt_of_wpAny (h.run pins s σ H D I q)⟩
theorem pssa_cons (ha : PSA X body st t) (hb : PSsA X body rest t') : PSsA X body (st :: rest) (tSeq t t') := ⟨fun pins s σ H D I q => ks_wpAt_execs_cons (ks_wpAt_mono (ha.run pins s σ H _ I q) (fun f s' h => by
    cases f with
    | next =>
      obtain ⟨σ', H', I', q'⟩ := h
      exact hb.run pins s' σ' H' D I' q'
    | brk => exact h
    | cont => exact h
    | ret u => exact h) fun _ _ h => h)⟩
theorem psa_expr (he : PEA X body e te) (hs : swapsWith e none pos.line X.env = pure false := by rfl) : PSA X body (.Expr e pos) (tDrop te) := ⟨fun pins s σ H D I q => ks_wpAt_Expr_any (ks_wpAt_mono (he.run pins s σ H _ I q) (fun u s' ⟨v, H', I', _, q'⟩ => ⟨σ, H', I', q'⟩) fun _ _ h => h) I.quiet hs⟩
theorem psa_ret (he : PEA X body e te) : PSA X body (.Return (some e) pos) (tRet te) := ⟨fun pins s σ H D I q => ks_wpAt_Return_some (ks_wpAt_mono (he.run pins s σ H _ I q) (fun u s' ⟨v, H', I', r, q'⟩ => ⟨v, σ, H', I', r, q'⟩) fun _ _ h => h)⟩
/-- f(e, e2), f a built-in, e at the frame -/
theorem callWith_at {M : Model} {A : Around} {c : Code} {E : Value → Shared → Prop} {s : Shared} {p : Pos} {f : Value} {x y : Sem Value} {Q : Value → Shared → Prop}
    (h : _root_.PySem.wpAt M A c x (fun v s1 => wpAny M A (callWith p f [] [(false, pure v), (false, y)] []) Q E s1) E s) : _root_.PySem.wpAt M A c (callWith p f [] [(false, x), (false, y)] []) Q E s := fun Γ p hc hΓ => by
  have h1 := h Γ p hc hΓ
  unfold callWith evalArgs
  simp only [Sem.wp_bind', Sem.wp_holding, spliced, Sem.wp_pure']
  refine Sem.wp_mono M Γ _ (fun v p1 s1 h2 => ?_) (fun _ _ _ h' => h') _ _ h1
  have h3 := h2 Γ p1 hΓ
  unfold callWith evalArgs at h3
  simp only [Sem.wp_bind', Sem.wp_holding, spliced, Sem.wp_pure'] at h3
  exact h3
end

/-! ### super() -/
/-- what the method m is behind the class at D, for an instance of the class at C -/
structure SupM (K : PySem.W.Frag) (C D : Addr) (m : Str) (f2 : Addr) : Prop where
  opq : PySem.W.nsIn K cStatics "thirdparty.any" = some none
  sub : PySem.W.mroIn K C (.ref D) = some true
  at_ : PySem.W.ks_superIn K C D m = some (some (.ref f2))
  ty : PySem.W.typeIn K (.ref f2) = some (.type "function")
  fi : PySem.W.fnIn K f2 = true
  nm : (m == ("__class__" : Str)) = false
/-- what a frame must have for super(): D the class whose body the def stands in, i the slot of the first parameter -/
structure SupX (X : Cx) (D : Addr) (i : Nat) : Prop where
  ks : X.env.scope.names.lookup ("super" : Str) = some .globalImplicit
  kc : X.env.scope.names.lookup ("__class__" : Str) = some .free
  free : X.mg "super" = none
  top : (X.prog.main.scope.names.lookup ("super" : Str)).isSome = false
  fn : ∃ (f : Addr) (of : Obj) (fd : FuncData) (ar : PySem.Arg), X.env.func = some f ∧ X.K.lookup f = some of ∧ of.data = .func fd ∧ (fd.params.posonlyargs ++ fd.params.args).head? = some ar ∧ X.N[i]? = some ar.arg ∧ X.env.scope.names.lookup ar.arg = some .local
  code : ∃ (c : Addr) (oc : Obj) (vs : Array Value) (file : Str) (tf : Tok), X.env.code = .ref c ∧ X.K.lookup c = some oc ∧ oc.data = .fields vs ∧ vs[2]? = some (.str file tf) ∧ ((X.prog.main.file : Str) == file) = true
  cell : ∃ (c : Addr) (oc : Obj), X.env.cells.lookup ("__class__" : Str) = some c ∧ X.K.lookup c = some oc ∧ oc.data = .cell (some (.ref D))
  cls : PySem.W.isClsIn X.K D = true
def tSup (K : PySem.W.Frag) (D : Addr) (i : Nat) (m : Str) (f2 : Addr) (sp : Sp) (E : L2.St → XK) (t : TA) : TE := fun σ H Q => ∃ a C dx fs, σ[i]? = some (some (V.ref a)) ∧ H a = some (.ins C dx fs) ∧ SupM K C D m f2 ∧ t σ H fun vs H2 => sp (.ref a :: vs) H2 Q (E σ)
section
variable {X : Cx} {body : List Stmt} {pins : List (Addr × Obj)} {σ : L2.St} {H : Hp} {s : Shared} {D : Addr} {i : Nat}
theorem sup_base0 {p0 p1 : Pos} {attr : Str} {whole : Sem Value} {a C : Addr} {ox : Obj} {E : Value → Shared → Prop} {Q : Value → Shared → Prop} (S : SupX X D i) (hat : (attr == ("__class__" : Str)) = false) (I : Inv X pins σ H s) (hv : σ[i]? = some (some (V.ref a)))
    (ha : s.heap.get? a = some ox) (hxc : ox.cls = .ref C) (hnc : ∀ c, ox.data ≠ .cls c) (hsub : PySem.W.mroIn X.K C (.ref D) = some true)
    (h : ∀ so s', Inv X ((so, PySem.W.ks_superObj D a C) :: pins) σ H s' → X.base.get? so = none → Q (.ref so) s') :
    _root_.PySem.wpAt (model X.prog X.w) X.A (.func body X.env) (attributeBase (.Call (.Name "super" p0) [] [] p1) attr X.env whole) Q E s := by
  obtain ⟨f, of, fd, ar, f1, f2, f3, f4, f5, f6⟩ := S.fn
  obtain ⟨c, oc, vs, file, tf, c1, c2, c3, c4, c5⟩ := S.code
  obtain ⟨cc, occ, d1, d2, d3⟩ := S.cell
  obtain ⟨cd, hcd⟩ := Option.isSome_iff_exists.mp (show (PySem.W.clsIn X.K D).isSome = true from S.cls)
  obtain ⟨oD, hD1, hD2⟩ : ∃ oD, s.heap.get? D = some oD ∧ oD.data = .cls cd := by
    unfold PySem.W.clsIn at hcd
    split at hcd
    · rename_i c d cd' sl ho
      cases hcd
      exact ⟨_, I.kIn _ _ ho, rfl⟩
    · cases hcd
  obtain ⟨mb, h1, h2⟩ := I.mod.blt
  obtain ⟨m, hn, hl⟩ := I.loc
  obtain ⟨u, r, l⟩ := hl i _ _ f5 hv (.inl f6)
  obtain rfl : u = Value.ref a := r
  have hm : m ar.arg = some (.ref a) := by
    rcases l with ⟨_, hm⟩ | ⟨hk, _⟩
    · exact hm
    · have hk : X.env.scope.names.lookup ar.arg = some .cell ∨ X.env.scope.names.lookup ar.arg = some .free := hk
      rcases hk with hk | hk <;> rw [f6] at hk <;> cases hk
  refine ks_wpAt_super_base (env := X.env) S.ks S.kc hat f1 (I.kIn _ _ f2) f3 f4 c1 (I.kIn _ _ c2) c3 c4 c5 S.top ?_
  refine PySem.W.ks_loadName_global I.ok.kind S.ks (Calls.loadGlobal_builtin (by rw [I.ok.glob]; exact I.mod.glob.keeps I.bk) S.free (by rw [I.ok.blt]; exact h1.keeps I.bk) ((h2 "super" (by decide)).trans (by rfl)) ⟨rfl, ?_⟩)
  refine wpAny_loadName_free I.ok.kind S.kc d1 ⟨_, I.kIn _ _ d2, d3⟩ ?_
  refine wpAny_loadName_local I.ok.kind f6 hn hm ?_
  obtain ⟨hh, g, d, t, os⟩ := s
  refine ks_wpAny_isType_cls hD1 hD2 ⟨rfl, ?_⟩
  refine ks_wpAny_call_super hD1 hD2 ha hxc hnc (PySem.W.looks_mroIn I.kIn hsub) (fun h' e k => ?_)
  exact h _ _ (ClX.pin_new (t' := t) I k (Nat.le_refl _) e (fun v z => nomatch z)) (ClX.base_none I (Nat.le_refl _))
theorem sup_base {p0 p1 : Pos} {attr : Str} {whole : Sem Value} {a C dx : Addr} {fs : List (Str × V)} {E : Value → Shared → Prop} {Q : Value → Shared → Prop} (S : SupX X D i) (hat : (attr == ("__class__" : Str)) = false) (I : Inv X pins σ H s) (hv : σ[i]? = some (some (V.ref a)))
    (ha : H a = some (.ins C dx fs)) (hsub : PySem.W.mroIn X.K C (.ref D) = some true)
    (h : ∀ so s', Inv X ((so, PySem.W.ks_superObj D a C) :: pins) σ H s' → X.base.get? so = none → Q (.ref so) s') :
    _root_.PySem.wpAt (model X.prog X.w) X.A (.func body X.env) (attributeBase (.Call (.Name "super" p0) [] [] p1) attr X.env whole) Q E s := by
  obtain ⟨mA, O, _, _, _, _⟩ := ins_get I.hok ha
  exact sup_base0 S hat I hv O.obj rfl (fun c e => by cases e) hsub h
/-- the method of super() is taken -/
theorem sup_get {so a C dx : Addr} {fs : List (Str × V)} {m : Str} {f2 : Addr} {A : Around} {E : Value → Shared → Prop} {pl : Sem Bool} {Q : Value × List Value → Shared → Prop} (M : SupM X.K C D m f2) (I : Inv X ((so, PySem.W.ks_superObj D a C) :: pins) σ H s) (ha : H a = some (.ins C dx fs))
    (h : ∀ q s', Inv X ((q, PySem.W.methodObj (.ref f2) (.ref a)) :: pins) σ H s' → X.base.get? q = none → Q (.ref q, []) s') : wpAny (model X.prog X.w) A (getMethod (.ref so) m pl) Q E s := by
  have I0 : Inv X pins σ H s := ClX.unpin I
  have hso := ClX.pin_at I
  obtain ⟨mA, O, _, _, _, _⟩ := ins_get I0.hok ha
  obtain ⟨od, J, _⟩ := O.look
  have at_ := M.at_
  unfold PySem.W.ks_superIn at at_
  obtain ⟨cd, hcd, hal⟩ := Option.bind_eq_some_iff.mp at_
  obtain ⟨of, hof, hofc⟩ : ∃ of, s.heap.get? f2 = some of ∧ of.cls = .type "function" := by
    have ht' : (X.K.lookup f2).map (·.cls) = some (.type "function") := M.ty
    cases z : X.K.lookup f2 with
    | none => rw [z] at ht'; cases ht'
    | some of => rw [z] at ht'; exact ⟨of, I0.kIn _ _ z, Option.some.inj ht'⟩
  have new := ClX.pin_new (t' := s.toks + 1) (h' := s.heap.push (PySem.W.methodObj (.ref f2) (.ref a))) I0 (fun b o e => Heap.get?_push_of_some _ e) (Nat.le_refl _) (Heap.get?_push_at rfl rfl) (fun v z => nomatch z)
  have bn := ClX.base_none I0 (Nat.le_refl s.heap.objs.size)
  have kin := I0.kIn
  obtain ⟨hh, g, d, t, os⟩ := s
  refine ks_wpAny_getMethod_super hso (PySem.W.looks_opaque kin M.opq) (l₀ := cd.mro) ?_ rfl kin hal hof hofc (PySem.W.ks_ne kin J hcd) M.nm ?_
  · exact fun A Q E s k q => wpAny_bind ((PySem.W.looks_clsIn kin hcd) A _ E s k (wpAny_pure q))
  · exact h _ _ new bn
/-- .. called -/
theorem sup_run {CX : CXT} {k : Nat} {f2 q a : Addr} {fd : FuncData} {ps : List Str} {sp : Sp} {E : XK} {Q : VK} {us : List Value} {vs : List V} (G : FnOk X.prog X.w X.K X.mg X.base CX k f2 fd ps sp) (hr : Room k X.A) (hb : Binds X.K fd ps []) (hx : PassesAt CX X σ E)
    (I : Inv X ((q, PySem.W.methodObj (.ref f2) (.ref a)) :: pins) σ H s) (r : Vals vs us) (h : sp (.ref a :: vs) H Q E) : wpAny (model X.prog X.w) X.A (call (.ref q) us) (EP X pins σ Q) X.xe s := by
  have r2 : Vals (.ref a :: vs) (.ref a :: us) := .cons rfl r
  have hl : (.ref a :: us : List Value).length = ps.length := by rw [← r2.length]; exact G.len _ _ _ _ h
  have b := hb s (.ref a :: us) I.kIn (by rw [List.append_nil]; exact hl)
  rw [List.append_nil] at b
  refine thn (Q := EP X ((q, PySem.W.methodObj (.ref f2) (.ref a)) :: pins) σ Q) (wpAny_call (PySem.W.method_call (ClX.pin_at I) (codeAny_mono (G.run X.A X.stack s H ⟨.ref a :: us, []⟩ (.ref a :: us) (.ref a :: vs) Q E hr I.env0 b r2 h) fun r s' hq => ?_))) fun _ _ y => ClX.unpinE y
  cases r with
  | error e => exact hx _ H s e s' I hq
  | ok fl =>
    cases fl with
    | ret u => exact I.after hq
    | next => exact False.elim hq
    | brk => exact False.elim hq
    | cont => exact False.elim hq
/-- super().m(e, ..) -/
theorem pea_sup {CX : CXT} {k : Nat} {f2 : Addr} {fd : FuncData} {ps : List Str} {sp : Sp} {E : L2.St → XK} {m : Str} {p0 p1 apos pos : Pos} {e : Expr} {es : List Expr} {t : TA} (S : SupX X D i) (hat : (m == ("__class__" : Str)) = false) (G : FnOk X.prog X.w X.K X.mg X.base CX k f2 fd ps sp) (hr : Room k X.A) (hb : Binds X.K fd ps [])
    (hx : ∀ σ, PassesAt CX X σ (E σ)) (ha : PA X (e :: es) t) (hst : starEach (e :: es) X.env = (false, eval e X.env) :: starEach es X.env := by rfl) (hpl : (backTo pos (starEach es X.env)).any (·.1) = false := by rfl)
    (he : eval (.Call (.Attribute (.Call (.Name "super" p0) [] [] p1) m apos) (e :: es) [] pos) X.env = (do
      let ov ← attributeBase (.Call (.Name "super" p0) [] [] p1) m X.env (eval (.Call (.Name "super" p0) [] [] p1) X.env)
      standAt apos.atName
      let (f, first) ← holding [ov] (getMethod ov m (pure false))
      callWith pos f first (backTo pos (starEach (e :: es) X.env)) []) := by rfl) :
    PEA X body (.Call (.Attribute (.Call (.Name "super" p0) [] [] p1) m apos) (e :: es) [] pos) (tSup X.K D i m f2 sp E t) := by
  refine ⟨fun pins s σ H Q I ⟨a, C, dx, fs, hv, hi, M, q⟩ => ?_⟩
  refine ks_wpAt_MethodCall (pl := pure false) (sup_base S hat I hv hi M.sub fun so s1 I1 _ => ?_) he
  refine sup_get M I1 hi fun qa s2 I2 bn => ?_
  refine ClX.callwith_cm I2 bn M.fi (thn (ha.run pos _ s2 σ H _ I2 q) fun us s3 ⟨vs, H2, I3, rv, q2⟩ => ⟨⟨ClX.pin_at I3, I3.kIn⟩, ?_⟩) hst hpl
  exact sup_run G hr hb (hx σ) I3 rv q2
/-- f(e, e2), f a built-in -/
theorem pea_callB2 {x : Str} {id : String} {r : List V → Hp → VK → Prop} {p pos : Pos} {e e2 : Expr} {te te2 : TE} (hc : CallR X (.builtin id) r) (hg : Gl X x) (hm : X.mg x = none) (hv : bootBuiltins x = some (.builtin id)) (h1 : PEA X body e te) (h2 : PE X e2 te2) (hn : x ≠ "__name__" := by decide) (hdb : (x == ("__debug__" : Str)) = false := by decide)
    (he : starEach [e, e2] X.env = [(false, eval e X.env), (false, eval e2 X.env)] := by rfl) : PEA X body (.Call (.Name x p) [e, e2] [] pos) (tCB r (tCons te (tCons te2 tNil))) := by
  refine ⟨fun pins s σ H Q I h => ?_⟩
  rw [arm_eval_Call_Name']
  refine wpAt_bind (wpAt_of_wpAny (ld_blt I hg hm hv ?_ hn hdb))
  rw [he]
  refine callWith_at (ks_wpAt_mono (h1.run pins s σ H _ I h) (fun u s1 ⟨v, H1, I1, r1, q1⟩ => ?_) fun _ _ h => h)
  refine Calls.callWith_builtin rfl (Calls.evalArgs_plain (Calls.spliced_cons (wpAny_pure ?_)))
  refine Calls.spliced_cons (thn (h2.run pins s1 σ H1 _ I1 q1) fun u2 s2 ⟨v2, H2, I2, r2, q2⟩ => ?_)
  exact Calls.spliced_nil (hc pins s2 σ H2 [v, v2] [u, u2] Q I2 (.cons r1 (.cons r2 .nil)) q2)
end

/-! ### the same with data -/
def supD (cs : List Str) (i : Nat) (env : En) : Option ArgV := match env[i]? with
  | some (.mt (.ins c _ _)) => if cs.contains c = true then some (.l i) else none
  | some (.val (.ins c ns ds)) => if cs.contains c = true then some (.d (.ins c ns ds)) else none
  | _ => none
def eSup (cs : List Str) (i : Nat) (ms : List Mode) (f : FSem) (g : GSemA) : ESem := fun env => (lift (supD cs i env) env).bind fun sa e0 => (g e0).bind fun as e1 => apply ms f (sa :: as) e1
section
variable {F : Cf} {W : WX} {X : Cx} {body : List Stmt} {e e2 : Expr} {es : List Expr} {fe fe2 : ESem} {g : GSemA} {ms : List Mode} {f : FSem} {pos p p0 p1 apos : Pos} {k i : Nat} {f2 Dc : Addr} {fd : FuncData} {ps : List Str} {m x : Str} {cs : List Str}
abbrev DEA (F : Cf) (W : WX) (X : Cx) (body : List Stmt) (e : Expr) (f : ESem) : Prop := PEA X body e (T F W f)
abbrev DSA (F : Cf) (W : WX) (X : Cx) (body : List Stmt) (st : Stmt) (f : SSem) : Prop := PSA X body st (TS' F W f)
abbrev DSsA (F : Cf) (W : WX) (X : Cx) (body : List Stmt) (sts : List Stmt) (f : SSem) : Prop := PSsA X body sts (TS' F W f)
theorem t_sup (hT : ∀ c ∈ cs, SupM F.K (F.CE c) Dc m f2) {σ : L2.St} {H : Hp} {Q : VK} (h : T F W (eSup cs i ms f g) σ H Q) : tSup F.K Dc i m f2 (spF F ms f) (WE W) (TGA F W g) σ H Q := by
  obtain ⟨B, env, k, p⟩ := h
  obtain ⟨sa, hsa, q⟩ := Post.lift (e := env) k p.split
  unfold supD at hsa
  split at hsa
  · rename_i c ns ds hs
    split at hsa
    · rename_i hc
      cases hsa
      obtain ⟨ov, e1, a, rfl, hB, w⟩ := k.slot hs
      obtain ⟨dx, fs, e2, _, _⟩ := bod_ins w
      exact ⟨a, _, dx, fs, e1, e2, hT c (by simpa using hc), B, env, k, q.split.imp fun as e1' H1 x1 k1 p1 vs r => apply_ok k1 (.l e1 r) p1⟩
    · cases hsa
  · rename_i c ns ds hs
    split at hsa
    · rename_i hc
      cases hsa
      obtain ⟨ov, e1, v, rfl, dv⟩ := k.slot hs
      obtain ⟨a, dx, fs, rfl, e2, _, _⟩ := DenP.ins (.inl dv)
      exact ⟨a, _, dx, fs, e1, e2, hT c (by simpa using hc), B, env, k, q.split.imp fun as e1' H1 x1 k1 p1 vs r => apply_ok k1 (.d (x1.den k dv) r) p1⟩
    · cases hsa
  · cases hsa
theorem DEA.of' {te : TE} (p : PEA X body e te) (m : ∀ σ H Q, T F W fe σ H Q → te σ H Q) : DEA F W X body e fe := ⟨fun pins s σ H Q I q => p.run pins s σ H Q I (m _ _ _ q)⟩
/-- super().m(e, ..) -/
theorem d_sup (hK : X.K = F.K) (tk : Takes X W) (S : SupX X Dc i) (hT : ∀ c ∈ cs, SupM F.K (F.CE c) Dc m f2) (G : FnOk X.prog X.w X.K X.mg X.base (L2.CX X.prog X.w) k f2 fd ps (spF F ms f)) (hr : Room k X.A) (hb : Binds X.K fd ps [])
    (ha : DG F W X (e :: es) g) (hat : (m == ("__class__" : Str)) = false := by decide) (hst : starEach (e :: es) X.env = (false, eval e X.env) :: starEach es X.env := by rfl) (hpl : (backTo pos (starEach es X.env)).any (·.1) = false := by rfl)
    (he : eval (.Call (.Attribute (.Call (.Name "super" p0) [] [] p1) m apos) (e :: es) [] pos) X.env = (do
      let ov ← attributeBase (.Call (.Name "super" p0) [] [] p1) m X.env (eval (.Call (.Name "super" p0) [] [] p1) X.env)
      standAt apos.atName
      let (f, first) ← holding [ov] (getMethod ov m (pure false))
      callWith pos f first (backTo pos (starEach (e :: es) X.env)) []) := by rfl) :
    DEA F W X body (.Call (.Attribute (.Call (.Name "super" p0) [] [] p1) m apos) (e :: es) [] pos) (eSup cs i ms f g) :=
  .of' (pea_sup S hat G hr hb (fun σ => passAt tk σ) ha hst hpl he) fun σ H Q h => by
    rw [hK]
    exact t_sup hT h
theorem dea_cb2 {id : String} {r : List V → Hp → VK → Prop} {gb : List D → Option D} (hc : CallR X (.builtin id) r) (hr : OkC F r gb) (hg : Gl X x) (hm : X.mg x = none) (hv : bootBuiltins x = some (.builtin id)) (h1 : DEA F W X body e fe) (h2 : DE F W X e2 fe2) (hn : x ≠ "__name__" := by decide) (hdb : (x == ("__debug__" : Str)) = false := by decide)
    (he : starEach [e, e2] X.env = [(false, eval e X.env), (false, eval e2 X.env)] := by rfl) : DEA F W X body (.Call (.Name x p) [e, e2] [] pos) (eCB gb (aCons fe (aCons fe2 aNil))) :=
  .of' (pea_callB2 hc hg hm hv h1 h2 hn hdb he) fun σ H Q ⟨B, env, k, p⟩ => ⟨B, env, k, (Post.split (Post.split p)).imp fun v1 e1 H1 x1 k1 p1 u1 d1 =>
    ⟨B, e1, k1, (Post.split (Post.split p1)).imp fun v2 e2 H2 x2 k2 p2 u2 d2 => by
      have p3 : Post F W B σ e2 H2 (fun d e' H' => ∀ v, Den F (Os B e' σ) H' v d → Q v H') (lift (gb [v1, v2]) e2) := p2 H2 (Ext.refl _ _ _) k2 H2 (Ext.refl _ _ _) k2
      obtain ⟨z, hz, q⟩ := t_lift (P := fun _ => True) k2 p3
      exact hr _ H2 [u1, u2] [v1, v2] z Q (fun a => k2.trkO) (.cons (x2.den k1 d1) (.cons d2 .nil)) hz q⟩⟩

/-! ### statements -/
section
variable {st : Stmt} {sts rest : List Stmt} {fa fb : SSem}
theorem dsa_of (h : DS F W X st fa) : DSA F W X body st fa := .of h
theorem dssa_of (h : DSs F W X sts fa) : DSsA F W X body sts fa := .of h
theorem dssa_cons (h1 : DSA F W X body st fa) (h2 : DSsA F W X body rest fb) : DSsA F W X body (st :: rest) (sSeq fa fb) := ⟨fun pins s σ H Dn I ⟨B, env, k, p⟩ => (pssa_cons h1 h2).run pins s σ H Dn I ⟨B, env, k, p.seq⟩⟩
theorem dssa_one (h1 : DSA F W X body st fa) : DSsA F W X body [st] fa := ⟨fun pins s σ H Dn I q => ks_wpAt_execs_cons (ks_wpAt_mono (h1.run pins s σ H _ I q) (fun f s' h => by
    cases f with
    | next =>
      obtain ⟨σ', H', I', q'⟩ := h
      exact wpAt_of_wpAny (wpAny_execs_nil ⟨σ', H', I', q'⟩)
    | brk => exact h
    | cont => exact h
    | ret u => exact h) fun _ _ h => h)⟩
theorem dsa_expr (he : DEA F W X body e fe) (hs : swapsWith e none pos.line X.env = pure false := by rfl) : DSA F W X body (.Expr e pos) (sExpr fe) := ⟨fun pins s σ H Dn I ⟨B, env, k, p⟩ => (psa_expr he hs).run pins s σ H Dn I
  ⟨B, env, k, (PostS.split p).imp fun x e1 H1 x1 k1 p1 v dv => p1 σ H1 (Ext.refl _ _ _) k1⟩⟩
theorem dsa_ret (he : DEA F W X body e fe) : DSA F W X body (.Return (some e) pos) (sRet fe) := ⟨fun pins s σ H Dn I ⟨B, env, k, p⟩ => (psa_ret he).run pins s σ H Dn I
  ⟨B, env, k, (PostS.split p).imp fun x e1 H1 x1 k1 p1 v dv => p1 σ H1 v (Ext.refl _ _ _) k1 dv⟩⟩
end
end

/-! ### a def of a class's body that says super() -/
structure FunS (K : PySem.W.Frag) (P : Program) (x qual : Str) (st : Stmt) (f : Addr) (fd : FuncData) (D : Addr) : Prop where
  ex : ∃ (oc : Value) (od : Option Addr) (kV doc pm : Value) (an : Option Addr) (c : Addr) (ct : Value) (osl : Array (Option Value)) (cc : Addr),
    fd = PySem.W.fnX x qual (defArgs st) (defBody st) (defScope st) [("__class__", cc)] .none kV doc pm an (.ref c) ct ∧ K.lookup f = some ⟨oc, od, .func fd, osl⟩ ∧ PySem.W.codeIn K (.ref c) qual = true ∧
    (∃ (oc : Obj) (vs : Array Value) (file : Str) (tf : Tok), K.lookup c = some oc ∧ oc.data = .fields vs ∧ vs[2]? = some (.str file tf) ∧ ((P.main.file : Str) == file) = true) ∧
    ∃ (occ : Obj), K.lookup cc = some occ ∧ occ.data = .cell (some (.ref D))
  kp : PySem.W.keepIn K (.ref f) = true
  cls : PySem.W.isClsIn K D = true
theorem FunS.binds {K : PySem.W.Frag} {P : Program} {x qual : Str} {st : Stmt} {f : Addr} {fd : FuncData} {D : Addr} {ps : List Str} (F : FunS K P x qual st f fd D)
    (h : ∀ (kV doc pm : Value) (an : Option Addr) (cdv ct : Value) (cc : Addr) (us : List Value), us.length = ps.length → bindArgs (PySem.W.fnX x qual (defArgs st) (defBody st) (defScope st) [("__class__", cc)] .none kV doc pm an cdv ct) ⟨us, []⟩ = pure (ps.zip us)) : Binds K fd ps [] := by
  obtain ⟨oc, od, kV, doc, pm, an, cda, ct, osl, cc, rfl, _⟩ := F.ex
  exact .all (h kV doc pm an (.ref cda) ct cc)
section
variable {P : Program} {w : World} {K : PySem.W.Frag} {mg : Str → Option Value} {base : Heap}
abbrev nfS (x qual : Str) (st : Stmt) (cc c : Addr) : NdefX.NF := ⟨x, qual, defArgs st, defBody st, defScope st, [("__class__", cc)], c⟩
/-- the context of its body -/
abbrev cxS (CX : CXT) (P : Program) (w : World) (K : PySem.W.Frag) (mg : Str → Option Value) (base : Heap) (N : List Str) (x qual : Str) (st : Stmt) (cc c f : Addr) (A : Around) (outer : List Env) (s : Shared) (H : Hp) (E : XK) : Cx :=
  NdefX.ncx CX P w K mg base N (nfS x qual st cc c) f A outer s H E
theorem start_startF {N : List Str} {vs : List V} (h : vs.length + 1 ≤ N.length) : NdefX.startF N vs [none] = start N vs := by
  unfold NdefX.startF L2.start
  have e : N.length - vs.length = (N.length - vs.length - 1) + 1 := by omega
  rw [e, List.replicate_succ]
  simp
theorem cells_class {h : Heap} {H : Hp} {cc D : Addr} (hcell : ∃ occ : Obj, K.lookup cc = some occ ∧ occ.data = .cell (some (.ref D))) (hb : ∀ o, K.lookup cc = some o → h.get? cc = some o ∧ H cc = none) : NdefX.CellsAt [(("__class__" : Str), cc)] ["__class__"] [none] h H := by
  obtain ⟨occ, h1, h2⟩ := hcell
  have hb := hb occ h1
  refine ⟨rfl, fun y c e => ?_, fun x y c h1 h2 => ?_, fun i y e => ?_⟩
  · have e' : c = cc := by
      unfold List.lookup at e
      split at e
      · cases e; rfl
      · simp [List.lookup] at e
    subst e'
    exact ⟨hb.2, some (.ref D), occ, hb.1, h2⟩
  · have key : ∀ z, (List.lookup z [(("__class__" : Str), cc)]) = some c → z = "__class__" := fun z e => by
      unfold List.lookup at e
      split at e
      · rename_i q
        exact beq_iff_eq.mp q
      · simp [List.lookup] at e
    rw [key x h1, key y h2]
  · cases i with
    | zero =>
      simp only [List.getElem?_cons_zero, Option.some.injEq] at e
      subst e
      refine ⟨cc, by simp [List.lookup], fun v e => ?_⟩
      simp at e
    | succ i => simp at e
/-- the common frame: a def with super() by a reading of its body -/
theorem fn_okT {x qual : Str} {st : Stmt} {f D : Addr} {fd : FuncData} {N ps : List Str} {k : Nat} {sp : Sp} (Fu : FunS K P x qual st f fd D) (S : NdefX.NScope N ps ["__class__"] (defScope st)) (len : ∀ vs H Q E, sp vs H Q E → vs.length = ps.length)
    (hks : (defScope st).names.lookup ("super" : Str) = some .globalImplicit) (hfree : mg "super" = none) (htop : (P.main.scope.names.lookup ("super" : Str)).isSome = false) (hp : ∃ ar : PySem.Arg, ((defArgs st).posonlyargs ++ (defArgs st).args).head? = some ar ∧ ps[0]? = some ar.arg)
    (hbody : ∀ (cc c : Addr) (A : Around) (outer : List Env) (s : Shared) (H : Hp) (vs : List V) (Q : VK) (E : XK), Room k (A.deeper (NdefX.envF (nfS x qual st cc c) f s.heap.objs.size)) →
      SupX (cxS (L2.CX P w) P w K mg base N x qual st cc c f A outer s H E) D 0 → sp vs H Q E →
      ∃ t, PSsA (cxS (L2.CX P w) P w K mg base N x qual st cc c f A outer s H E) (defBody st) (defBody st) t ∧ t { nx := fun _ H' => Q .non H', rt := Q } (start N vs) H) : FnOk P w K mg base (L2.CX P w) (k + 1) f fd ps sp := by
  obtain ⟨oc, od, kV, doc, pm, an, cda, ct, osl, cc, rfl, lk, hcd, hfile, hcell⟩ := Fu.ex
  have hN : ps.length + 1 ≤ N.length := by
    have q := congrArg List.length S.pre
    rw [List.length_take, List.length_append] at q
    simp only [List.length_cons, List.length_nil] at q
    omega
  refine ⟨len, fun A outer s H args us vs Q E hr e0 hb r hsp => ?_⟩
  have hl : vs.length = ps.length := len _ _ _ _ hsp
  have KX : K.In s.heap := e0.mod.kin.keeps fun b o e => (e0.bs b o e).1
  have lim : s.heap.NoLimit := e0.mod.nolimit.keeps fun b o e => (e0.bs b o e).1
  have C := cells_class (H := H) hcell fun o h => e0.bs cc o (e0.mod.kin _ _ h)
  refine codeAny_call_function hr.depth (KX _ _ lk) rfl S.co S.gen rfl (PySem.W.codeRec_of KX hcd) (hb _ _ _ _ ?_)
  refine wpAny_newFunctionEnv S.nocell (fun ⟨n, _⟩ hy => S.par n (List.of_mem_zip hy).1) (fun h₁ hns hsb => ⟨lim.fresh _ hsb, ?_⟩) S.kind
  show codeAny _ _ (.func (nfS x qual st cc cda).body (NdefX.envF (nfS x qual st cc cda) f s.heap.objs.size)) _ _
  refine ks_codeAny_funcAt ?_
  have kp : ∀ b o, s.heap.get? b = some o → h₁.get? b = some o := fun b o e => hsb.extBut b o (Nat.ne_of_lt (Heap.lt_size e)) (Heap.get?_push_of_some _ e)
  have I : Inv (cxS (L2.CX P w) P w K mg base N x qual st cc cda f A outer s H E) [] (NdefX.startF N vs [none]) H { s with heap := h₁, toks := s.toks + (ps.zip us).length } := NdefX.inv_startN (F := nfS x qual st cc cda) S hr.hd e0 hl r C hns kp
  rw [start_startF (by omega)] at I
  have SX : SupX (cxS (L2.CX P w) P w K mg base N x qual st cc cda f A outer s H E) D 0 := by
    obtain ⟨ar, h1, h2⟩ := hp
    obtain ⟨oc, vs, file, tf, g1, g2, g3, g4⟩ := hfile
    obtain ⟨occ, c1, c2⟩ := hcell
    have hN0 : N[0]? = some ar.arg := by
      have q := congrArg (fun l : List Str => l[0]?) S.pre
      have hp0 : 0 < ps.length := (List.getElem?_eq_some_iff.mp h2).1
      have q : (List.take (ps.length + 1) N)[0]? = (ps ++ [("__class__" : Str)])[0]? := q
      rw [List.getElem?_take_of_lt (by omega), List.getElem?_append_left hp0, h2] at q
      exact q
    exact ⟨hks, S.frk _ (by simp), hfree, htop, ⟨f, _, _, ar, rfl, lk, rfl, h1, hN0, S.par _ (List.mem_of_getElem? h2)⟩, ⟨cda, oc, vs, file, tf, rfl, g1, g2, g3, g4⟩, ⟨cc, occ, by rfl, c1, c2⟩, Fu.cls⟩
  obtain ⟨t, ht, hq⟩ := hbody cc cda A outer s H vs Q E (hr.deeper _) SX hsp
  refine ks_wpAt_mono (ht.run [] _ (start N vs) H _ I hq) (fun fl s' hs => ?_) fun e s' hs => hs
  have fin : ∀ {σ' : L2.St} {H' : Hp} {v : V} {u : Value}, Inv (cxS (L2.CX P w) P w K mg base N x qual st cc cda f A outer s H E) [] σ' H' s' → L2.RelV v u → Q v H' → L2.CE outer P w H s Q u s' :=
    fun {σ' H' v u} J rv q => ⟨v, H', J.os, J.bare, J.base, J.hok, rv, q⟩
  cases fl with
  | ret u =>
    obtain ⟨v, σ', H', J, rv, q⟩ := hs
    exact fin J rv q
  | next =>
    obtain ⟨σ', H', J, q⟩ := hs
    exact fin (v := V.non) (u := Value.none) J rfl q
  | brk =>
    obtain ⟨_, _, _, q⟩ := hs
    exact False.elim q
  | cont =>
    obtain ⟨_, _, _, q⟩ := hs
    exact False.elim q
theorem fn_okS {CE : Str → Addr} {x qual : Str} {st : Stmt} {f D : Addr} {fd : FuncData} {N ps : List Str} {k : Nat} {ms : List Mode} {g : SSem} (Fu : FunS K P x qual st f fd D) (S : NdefX.NScope N ps ["__class__"] (defScope st)) (hm : ms.length = ps.length)
    (hks : (defScope st).names.lookup ("super" : Str) = some .globalImplicit) (hfree : mg "super" = none) (htop : (P.main.scope.names.lookup ("super" : Str)).isSome = false) (hp : ∃ ar : PySem.Arg, ((defArgs st).posonlyargs ++ (defArgs st).args).head? = some ar ∧ ps[0]? = some ar.arg)
    (hbody : ∀ (cc c : Addr) (A : Around) (outer : List Env) (s : Shared) (H : Hp) (E : XK), Room k (A.deeper (NdefX.envF (nfS x qual st cc c) f s.heap.objs.size)) →
      SupX (cxS (L2.CX P w) P w K mg base N x qual st cc c f A outer s H E) D 0 →
      DSsA ⟨K, CE, none⟩ (WE' E) (cxS (L2.CX P w) P w K mg base N x qual st cc c f A outer s H E) (defBody st) (defBody st) g) : FnOk P w K mg base (L2.CX P w) (k + 1) f fd ps (spF ⟨K, CE, none⟩ ms (fnOf ms N.length g)) := by
  have hN : ps.length + 1 ≤ N.length := by
    have q := congrArg List.length S.pre
    rw [List.length_take, List.length_append] at q
    simp only [List.length_cons, List.length_nil] at q
    omega
  exact fn_okT Fu S (fun vs H Q E ⟨B, ds, t, r, _⟩ => by rw [r.len.1, hm]) hks hfree htop hp fun cc c A outer s H vs Q E hr SX hsp => ⟨_, hbody cc c A outer s H E hr SX, fn_sp (by omega) hsp⟩
end
end Dl

/-! D15: the program's own exceptions. -/
namespace Dl
open PySem PySem.Spec L2

/-- what super().__init__ is in an exception's class body at D -/
structure SupI (K : PySem.W.Frag) (C D : Addr) : Prop where
  opq : PySem.W.nsIn K cStatics "thirdparty.any" = some none
  sub : PySem.W.mroIn K C (.ref D) = some true
  at_ : PySem.W.ks_superIn K C D "__init__" = some (some (.builtin "ValueError.__init__"))
  ve : PySem.W.subIn K (.ref C) (.type "ValueError") = some true
def tSupI (K : PySem.W.Frag) (D : Addr) (i : Nat) (t : TA) : TE := fun σ H Q => ∃ a C, σ[i]? = some (some (V.ref a)) ∧ H a = some (exo a C none) ∧ OexC K C ∧ SupI K C D ∧ t σ H fun vs H2 => vs.length ≤ 1000 ∧ H2 a = some (exo a C none) ∧ Q .non H2
section
variable {X : Cx} {body : List Stmt} {pins : List (Addr × Obj)} {σ : L2.St} {H : Hp} {s : Shared} {D : Addr} {i : Nat}
theorem supi_get {so a C : Addr} {A : Around} {E : Value → Shared → Prop} {pl : Sem Bool} {Q : Value × List Value → Shared → Prop} (M : SupI X.K C D) (I : Inv X ((so, PySem.W.ks_superObj D a C) :: pins) σ H s) (ha : H a = some (exo a C none))
    (h : ∀ q s', Inv X ((q, PySem.W.kxs_mw "ValueError.__init__" a) :: pins) σ H s' → Q (.ref q, []) s') : wpAny (model X.prog X.w) A (getMethod (.ref so) "__init__" pl) Q E s := by
  have I0 : Inv X pins σ H s := ClX.unpin I
  have hso := ClX.pin_at I
  obtain ⟨t1, ho⟩ := exo_at I0.hok ha
  have J : PySem.W.InstAt s.heap a _ C none := ⟨ho, rfl, rfl, trivial⟩
  have at_ := M.at_
  unfold PySem.W.ks_superIn at at_
  obtain ⟨cd, hcd, hal⟩ := Option.bind_eq_some_iff.mp at_
  have kin := I0.kIn
  have hI : PySem.W.Looks (model X.prog X.w) s.heap (isInstance (.ref a) (.type "ValueError")) true := J.type.andThen (PySem.W.looks_subIn kin M.ve)
  have new := ClX.pin_new (t' := s.toks + 1) (h' := s.heap.push (PySem.W.kxs_mw "ValueError.__init__" a)) I0 (fun b o e => Heap.get?_push_of_some _ e) (Nat.le_refl _) (Heap.get?_push_at rfl rfl) (fun v z => nomatch z)
  obtain ⟨hh, g, d, t, os⟩ := s
  refine PySem.W.kxs_getMethod PySem.W.kxs_ValueError hso (PySem.W.looks_opaque kin M.opq) (l₀ := cd.mro) ?_ rfl kin hal hI (PySem.W.ks_ne kin J hcd) (by decide) ?_
  · exact fun A Q E s k q => wpAny_bind ((PySem.W.looks_clsIn kin hcd) A _ E s k (wpAny_pure q))
  · exact h _ _ new
theorem supi_call {u a C : Addr} {A : Around} {us : List Value} {E : Value → Shared → Prop} {Q : Value → Shared → Prop} (T : OexC X.K C) (I : Inv X ((u, PySem.W.kxs_mw "ValueError.__init__" a) :: pins) σ H s) (e : H a = some (exo a C none)) (hz : us.length ≤ sizeLine)
    (h : ∀ s', Inv X pins σ H s' → Q .none s') : wpAny (model X.prog X.w) A (call (.ref u) us) Q E s := by
  have I0 : Inv X pins σ H s := ClX.unpin I
  have hu := ClX.pin_at I
  obtain ⟨nm, q, N, bs, bm, sn, sub, ab, col, dd, k0, k1, k2, k3, k5, hC, hbm⟩ := T.cls
  have hC := I0.kIn _ _ hC
  obtain ⟨t1, ho⟩ := exo_at I0.hok e
  have FB := PySem.F.excBase_ValueError
  obtain ⟨hp, g, d, t, os⟩ := s
  have fin : ∀ h', (∀ b o, b ≠ a → hp.get? b = some o → h'.get? b = some o) → h'.get? a = some (PySem.W.excRec (.ref C) hp.objs.size none .none .none (.bool false)) → h'.get? hp.objs.size = some (PySem.W.excTup us) → Q .none ⟨h', g, d, t, os⟩ := fun h' k e' _ => by
    have J := I0.write (t' := t) (x := a) (e := a) (o := exo a C none) (by rw [e]; exact True.intro) (.inl rfl) k ⟨_, e'⟩ (exo_ok e')
    have eu : upd H a (exo a C none) = H := by
      funext b
      by_cases hb : b = a
      · rw [hb, upd_same, e]
      · rw [upd_ne hb]
    rw [eu] at J
    exact h _ J
  refine wpAny_call (codeAny_of_tree ?_)
  show wpAny _ A.in1 (callAny (.ref u) ⟨us, []⟩) _ _ _
  simp only [callAny]
  refine wpAny_bind (wpAny_load hu ?_)
  simp only [PySem.W.kxs_mw, show (Value.type "method-wrapper" == Value.type "method" || Value.type "method-wrapper" == Value.type "builtin_function_or_method" || Value.type "method-wrapper" == Value.type "method-wrapper") = true by decide, if_true]
  refine PySem.W.KFB.if_so (by decide) ?_
  refine wpAny_bind (PySem.W.check_bound_init FB.toExcCallFacts hC ho rfl ?_)
  refine wpAny_bind (wpAny_pure (wpAny_pure ?_))
  refine ⟨plainId_quiet FB.init.plain _, codeAny_builtin FB.initEntry ?_⟩
  exact PySem.W.exc_init_tree (cls := .ref C) (t0 := t1) (dv := none) (c2 := .none) (c3 := .none) (b4 := .bool false) ho hz fun h' k e' t' => fin h' k e' t'
/-- super().__init__(e, ..) of an exception -/
theorem pea_supI {p0 p1 apos pos : Pos} {e : Expr} {es : List Expr} {t : TA} (S : SupX X D i) (ha : PA X (e :: es) t) (hst : starEach (e :: es) X.env = (false, eval e X.env) :: starEach es X.env := by rfl) (hpl : (backTo pos (starEach es X.env)).any (·.1) = false := by rfl)
    (he : eval (.Call (.Attribute (.Call (.Name "super" p0) [] [] p1) "__init__" apos) (e :: es) [] pos) X.env = (do
      let ov ← attributeBase (.Call (.Name "super" p0) [] [] p1) "__init__" X.env (eval (.Call (.Name "super" p0) [] [] p1) X.env)
      standAt apos.atName
      let (f, first) ← holding [ov] (getMethod ov "__init__" (pure false))
      callWith pos f first (backTo pos (starEach (e :: es) X.env)) []) := by rfl) :
    PEA X body (.Call (.Attribute (.Call (.Name "super" p0) [] [] p1) "__init__" apos) (e :: es) [] pos) (tSupI X.K D i t) := by
  refine ⟨fun pins s σ H Q I ⟨a, C, hv, hi, T, M, q⟩ => ?_⟩
  obtain ⟨t1, ho⟩ := exo_at I.hok hi
  refine ks_wpAt_MethodCall (pl := pure false) (sup_base0 S (by decide) I hv ho rfl (fun c z => by cases z) M.sub fun so s1 I1 _ => ?_) he
  refine supi_get M I1 hi fun qa s2 I2 => ?_
  have key : wpAny (model X.prog X.w) X.A (spliced (backTo pos (starEach (e :: es) X.env))) (fun vs s₁ => PySem.W.KxsAt "ValueError.__init__" qa a s₁.heap ∧ wpAny (model X.prog X.w) X.A (call (.ref qa) vs) (EP X pins σ Q) X.xe s₁) X.xe s2 :=
    thn (ha.run pos _ s2 σ H _ I2 q) fun us s3 ⟨vs, H2, I3, rv, hl, e2, q2⟩ => ⟨ClX.pin_at I3, supi_call T I3 e2 (by rw [← Paired.length rv, sizeLine_eq]; omega) fun s' J => ⟨.non, H2, J, rfl, q2⟩⟩
  rw [hst] at key ⊢
  refine PySem.W.kxs_callWith (i := "ValueError.__init__") (x := a) (by show (false || (backTo pos (starEach es X.env)).any (·.1)) = false; rw [hpl]; rfl) ?_
  exact PySem.Calls.evalArgs_plain key
end

/-! ### __init__ of an exception -/
/-- what stands behind it: the fields fs, the last first -/
structure Made (H H2 : Hp) (a C dx : Addr) (fs : List (Str × V)) : Prop where
  obj : H2 a = some (exo a C (some dx))
  dict : H2 dx = some (exd dx fs)
  new : H dx = none
  ne : dx ≠ a
  rest : ∀ b, b ≠ a → b ≠ dx → H2 b = H b
/-- the fields as the arguments fill them -/
def xfs : List Str → List V → List (Str × V) → List (Str × V)
  | f :: fs, v :: vs, acc => xfs fs vs ((f, v) :: acc)
  | _, _, acc => acc
def spXI (K : PySem.W.Frag) (D : Addr) (fl : List Str) : Sp := fun vs H Q _ => ∃ a C ws, vs = .ref a :: ws ∧ ws.length = fl.length ∧ OexC K C ∧ SupI K C D ∧ (∀ f ∈ fl, PySem.W.findIn K (.ref C) f = some none) ∧ H a = some (exo a C none) ∧ ∀ dx H2, Made H H2 a C dx (xfs fl ws []) → Q .non H2
theorem made1 {H : Hp} {a C dx : Addr} {f : Str} {v : V} (h1 : H dx = none) (h2 : dx ≠ a) : Made H (upd (upd H dx (exd dx [(f, v)])) a (exo a C (some dx))) a C dx [(f, v)] :=
  ⟨upd_same, by rw [upd_ne h2, upd_same], h1, h2, fun b hb hd => by rw [upd_ne hb, upd_ne hd]⟩
theorem Made.more {H H2 : Hp} {a C dx : Addr} {fs : List (Str × V)} {f : Str} {v : V} (m : Made H H2 a C dx fs) : Made H (upd H2 dx (exd dx ((f, v) :: fs))) a C dx ((f, v) :: fs) :=
  ⟨by rw [upd_ne (Ne.symm m.ne)]; exact m.obj, upd_same, m.new, m.ne, fun b hb hd => by rw [upd_ne hd]; exact m.rest b hb hd⟩
section
variable {P : Program} {w : World} {K : PySem.W.Frag} {mg : Str → Option Value} {base : Heap} {x qual : Str} {st : Stmt} {f D : Addr} {fd : FuncData} {k : Nat}
theorem spXI_len {fl ps : List Str} (h : ps.length = fl.length + 1) : ∀ vs H Q E, spXI K D fl vs H Q E → vs.length = ps.length := fun vs H Q E ⟨a, C, ws, e, l, _⟩ => by
  rw [e, List.length_cons, l, h]
/-- __init__(self, v): super().__init__(text); self.f1 = v -/
theorem xinit1 {ps : List Str} {text f1 s1 v1 : Str} {j : Nat} {p0 p1 p2 p3 p4 p5 p6 p7 p8 p9 : Pos} (Fu : FunS K P x qual st f fd D) (hps : ps = [s1, v1]) (S : NdefX.NScope (ps ++ [("__class__" : Str)]) ps ["__class__"] (defScope st))
    (hks : (defScope st).names.lookup ("super" : Str) = some .globalImplicit) (hfree : mg "super" = none) (htop : (P.main.scope.names.lookup ("super" : Str)).isSome = false) (hp : ∃ ar : PySem.Arg, ((defArgs st).posonlyargs ++ (defArgs st).args).head? = some ar ∧ ps[0]? = some ar.arg)
    (hb : defBody st = [.Expr (.Call (.Attribute (.Call (.Name "super" p0) [] [] p1) "__init__" p2) [.Constant (.str text) j p3] [] p4) p5, .Assign [.Attribute (.Name s1 p6) f1 p7] (.Name v1 p8) p9])
    (he : ∀ (cc c L : Addr), eval (.Call (.Attribute (.Call (.Name "super" p0) [] [] p1) "__init__" p2) [.Constant (.str text) j p3] [] p4) (NdefX.envF (nfS x qual st cc c) f L) = (do
      let ov ← attributeBase (.Call (.Name "super" p0) [] [] p1) "__init__" (NdefX.envF (nfS x qual st cc c) f L) (eval (.Call (.Name "super" p0) [] [] p1) (NdefX.envF (nfS x qual st cc c) f L))
      standAt p2.atName
      let (fx, first) ← holding [ov] (getMethod ov "__init__" (pure false))
      callWith p4 fx first (backTo p4 (starEach [.Constant (.str text) j p3] (NdefX.envF (nfS x qual st cc c) f L))) []) := by intro _ _ _; rfl)
    (d1 : (s1 == ("__debug__" : Str)) = false := by decide) (d2 : (v1 == ("__debug__" : Str)) = false := by decide) (c1 : (s1 == ("__classdict__" : Str)) = false := by decide) (c2 : (v1 == ("__classdict__" : Str)) = false := by decide) :
    FnOk P w K mg base (L2.CX P w) (k + 1) f fd ps (spXI K D [f1]) := by
  subst hps
  refine fn_okT Fu S (spXI_len rfl) hks hfree htop hp fun cc c A outer s H vs Q E hr SX hsp => ?_
  obtain ⟨a, C, ws, e, l, T, M, hno, ha, q⟩ := hsp
  subst e
  obtain ⟨v, rfl⟩ : ∃ v, ws = [v] := by
    cases ws with
    | nil => cases l
    | cons v r => cases r with
      | nil => exact ⟨v, rfl⟩
      | cons _ _ => cases l
  have l1 : (defScope st).names.lookup s1 = some .local := S.par s1 (by simp)
  have l2 : (defScope st).names.lookup v1 = some .local := S.par v1 (by simp)
  rw [hb]
  refine ⟨_, pssa_cons (psa_expr (pea_supI SX (pa_cons pe_str pa_nil) rfl rfl (he cc c s.heap.objs.size))) (PSsA.of (pss_one (ps_ost (pe_var (i := 0) (x := s1) rfl (.inl l1) d1 c1) (pe_var (i := 1) (x := v1) rfl (.inl l2) d2 c2)))), ?_⟩
  refine ⟨a, C, rfl, ha, T, M, by simp, ha, ?_⟩
  refine ⟨v, rfl, .ref a, rfl, a, C, rfl, T, hno f1 (by simp), .inl ⟨ha, fun dx h1 h2 => ?_⟩⟩
  exact q dx _ (made1 h1 h2)
/-- .. with three fields -/
theorem xinit3 {ps : List Str} {text f1 f2 f3 s1 v1 v2 v3 : Str} {j : Nat} {p0 p1 p2 p3 p4 p5 p6 p7 p8 p9 p10 p11 p12 p13 p14 p15 p16 p17 : Pos} (Fu : FunS K P x qual st f fd D) (hps : ps = [s1, v1, v2, v3]) (S : NdefX.NScope (ps ++ [("__class__" : Str)]) ps ["__class__"] (defScope st))
    (hks : (defScope st).names.lookup ("super" : Str) = some .globalImplicit) (hfree : mg "super" = none) (htop : (P.main.scope.names.lookup ("super" : Str)).isSome = false) (hp : ∃ ar : PySem.Arg, ((defArgs st).posonlyargs ++ (defArgs st).args).head? = some ar ∧ ps[0]? = some ar.arg)
    (hb : defBody st = [.Expr (.Call (.Attribute (.Call (.Name "super" p0) [] [] p1) "__init__" p2) [.Constant (.str text) j p3] [] p4) p5, .Assign [.Attribute (.Name s1 p6) f1 p7] (.Name v1 p8) p9, .Assign [.Attribute (.Name s1 p10) f2 p11] (.Name v2 p12) p13, .Assign [.Attribute (.Name s1 p14) f3 p15] (.Name v3 p16) p17])
    (he : ∀ (cc c L : Addr), eval (.Call (.Attribute (.Call (.Name "super" p0) [] [] p1) "__init__" p2) [.Constant (.str text) j p3] [] p4) (NdefX.envF (nfS x qual st cc c) f L) = (do
      let ov ← attributeBase (.Call (.Name "super" p0) [] [] p1) "__init__" (NdefX.envF (nfS x qual st cc c) f L) (eval (.Call (.Name "super" p0) [] [] p1) (NdefX.envF (nfS x qual st cc c) f L))
      standAt p2.atName
      let (fx, first) ← holding [ov] (getMethod ov "__init__" (pure false))
      callWith p4 fx first (backTo p4 (starEach [.Constant (.str text) j p3] (NdefX.envF (nfS x qual st cc c) f L))) []) := by intro _ _ _; rfl)
    (d1 : (s1 == ("__debug__" : Str)) = false := by decide) (d2 : (v1 == ("__debug__" : Str)) = false := by decide) (d3 : (v2 == ("__debug__" : Str)) = false := by decide) (d4 : (v3 == ("__debug__" : Str)) = false := by decide)
    (c1 : (s1 == ("__classdict__" : Str)) = false := by decide) (c2 : (v1 == ("__classdict__" : Str)) = false := by decide) (c3 : (v2 == ("__classdict__" : Str)) = false := by decide) (c4 : (v3 == ("__classdict__" : Str)) = false := by decide) :
    FnOk P w K mg base (L2.CX P w) (k + 1) f fd ps (spXI K D [f1, f2, f3]) := by
  subst hps
  refine fn_okT Fu S (spXI_len rfl) hks hfree htop hp fun cc c A outer s H vs Q E hr SX hsp => ?_
  obtain ⟨a, C, ws, e, l, T, M, hno, ha, q⟩ := hsp
  subst e
  obtain ⟨v, u, z, rfl⟩ : ∃ v u z, ws = [v, u, z] := by
    match ws, l with
    | [v, u, z], _ => exact ⟨v, u, z, rfl⟩
  have l1 : (defScope st).names.lookup s1 = some .local := S.par s1 (by simp)
  have l2 : (defScope st).names.lookup v1 = some .local := S.par v1 (by simp)
  have l3 : (defScope st).names.lookup v2 = some .local := S.par v2 (by simp)
  have l4 : (defScope st).names.lookup v3 = some .local := S.par v3 (by simp)
  rw [hb]
  refine ⟨_, pssa_cons (psa_expr (pea_supI SX (pa_cons pe_str pa_nil) rfl rfl (he cc c s.heap.objs.size))) (PSsA.of (pss_cons (ps_ost (pe_var (i := 0) (x := s1) rfl (.inl l1) d1 c1) (pe_var (i := 1) (x := v1) rfl (.inl l2) d2 c2))
    (pss_cons (ps_ost (pe_var (i := 0) (x := s1) rfl (.inl l1) d1 c1) (pe_var (i := 2) (x := v2) rfl (.inl l3) d3 c3)) (pss_one (ps_ost (pe_var (i := 0) (x := s1) rfl (.inl l1) d1 c1) (pe_var (i := 3) (x := v3) rfl (.inl l4) d4 c4)))))), ?_⟩
  refine ⟨a, C, rfl, ha, T, M, by simp, ha, ?_⟩
  refine ⟨v, rfl, .ref a, rfl, a, C, rfl, T, hno f1 (by simp), .inl ⟨ha, fun dx h1 h2 => ?_⟩⟩
  have m1 := made1 (H := H) (a := a) (C := C) (f := f1) (v := v) h1 h2
  refine ⟨u, rfl, .ref a, rfl, a, C, rfl, T, hno f2 (by simp), .inr ⟨dx, _, m1.obj, m1.dict, by simp, ?_⟩⟩
  have m2 := m1.more (f := f2) (v := u)
  refine ⟨z, rfl, .ref a, rfl, a, C, rfl, T, hno f3 (by simp), .inr ⟨dx, _, m2.obj, m2.dict, by simp, ?_⟩⟩
  exact q dx _ (m2.more (f := f3) (v := z))
end

/-! ### raise C(e, ..) -/
/-- an exception class of the program: its name, its fields -/
structure XCls (F : Cf) (X : Cx) (c : Str) (fl : List Str) : Prop where
  T : OexC X.K (F.CE c)
  M : ∃ D : Addr, SupI X.K (F.CE c) D ∧ (∀ f ∈ fl, PySem.W.findIn X.K (.ref (F.CE c)) f = some none) ∧ ∃ (k : Nat) (fI : Addr) (fd : FuncData) (ps : List Str), PySem.W.findIn X.K (.ref (F.CE c)) "__init__" = some (some (.ref fI)) ∧ PySem.W.typeIn X.K (.ref fI) = some (.type "function") ∧
    FnOk X.prog X.w X.K X.mg X.base (L2.CX X.prog X.w) k fI fd ps (spXI X.K D fl) ∧ Room (k + 1) X.A ∧ Binds X.K fd ps []
def sRaise (c : Str) (fl : List Str) (g : ASem) : SSem := fun env => (g env).then fun ds e1 => if ds.length = fl.length ∧ ds.length ≤ 1000 then .exc c fl.reverse ds.reverse e1 else .stuck
theorem xfs_eq : ∀ {fl : List Str} {vs : List V} (acc : List (Str × V)), vs.length = fl.length → xfs fl vs acc = (fl.zip vs).reverse ++ acc
  | [], [], acc, _ => rfl
  | f :: fl, v :: vs, acc, h => by
    rw [xfs, xfs_eq _ (by simpa using h), List.zip_cons_cons, List.reverse_cons, List.append_assoc]
    rfl
theorem Dens.rev {F : Cf} {O : Addr → Prop} {H : Hp} : ∀ {vs : List V} {ds : List D}, Dens F O H vs ds → Dens F O H vs.reverse ds.reverse
  | _, _, .nil => .nil
  | _, _, .cons x r => by
    rw [List.reverse_cons, List.reverse_cons]
    exact (Dens.rev r).snoc x
section
variable {F : Cf} {W : WX} {X : Cx} {e : Expr} {es : List Expr} {g : ASem} {c : Str} {fl : List Str} {x : Str} {p pos rpos : Pos}
theorem ds_raise (hc : X.calm = true) (tk : Takes X W) (C : XCls F X c fl) (hg : Gl X x) (hm : X.mg x = some (.ref (F.CE c))) (ha : DA F W X (e :: es) g)
    (hdb : (x == ("__debug__" : Str)) = false := by decide) (he : starEach (e :: es) X.env = (false, eval e X.env) :: starEach es X.env := by rfl) (hpl : (backTo pos (starEach es X.env)).any (·.1) = false := by rfl) :
    DS F W X (.Raise (some (.Call (.Name x p) (e :: es) [] pos)) none rpos) (sRaise c fl g) := by
  obtain ⟨D, M, hno, k, fI, fd, ps, iC, tI, G, hr, hb⟩ := C.M
  refine .of (ps_raise hc tk (pmk_oex C.T iC tI G hr hb .nil passL hg hm ha hdb he hpl)) fun Dn σ H ⟨B, env, k0, p0⟩ => ?_
  refine ⟨B, env, k0, (PostS.split p0).imp fun ds e1 H1 x1 k1 p1 vs dvs => ?_⟩
  by_cases hz : ds.length = fl.length ∧ ds.length ≤ 1000
  · rw [if_pos hz] at p1
    have hl := dvs.length
    refine ⟨by omega, fun a ha => ⟨a, F.CE c, vs, by rw [List.append_nil], by omega, C.T, M, hno, upd_same, fun dx H2 m => ⟨rfl, dx, _, m.obj, m.dict, ?_, ?_⟩⟩⟩
    · have := m.new
      rw [upd_ne m.ne] at this
      exact this
    · have hd : H1 dx = none := by
        have := m.new
        rw [upd_ne m.ne] at this
        exact this
      have eH : upd (del H2 a) dx (.xd (xfs fl vs [])) = upd H1 dx (.xd (xfs fl vs [])) := by
        funext b
        by_cases hbd : b = dx
        · rw [hbd, upd_same, upd_same]
        · rw [upd_ne hbd, upd_ne hbd]
          by_cases hba : b = a
          · rw [hba, del_same, ha]
          · rw [del_ne hba, m.rest b hba hbd, upd_ne hba]
      rw [eH]
      have sm : Same H1 (upd H1 dx (.xd (xfs fl vs []))) := same_new hd
      refine p1 (some dx) σ _ (Ext.new sm) (k1.grow sm) (.inr ⟨dx, _, rfl, k1.newO hd, upd_same, ?_, ?_⟩)
      · rw [xfs_eq _ (by omega), List.append_nil, List.map_reverse, List.map_fst_zip (by omega)]
      · rw [xfs_eq _ (by omega), List.append_nil, List.map_reverse, List.map_snd_zip (by omega)]
        have r := (dvs.grow sm).rev
        rw [xfs_eq _ (by omega), List.append_nil] at r
        exact r
  · rw [if_neg hz] at p1
    exact p1.elim
end
end Dl

/-! D16: try with several clauses, with names or without. -/
namespace Dl
open PySem PySem.Spec PyProof.Rows L2

abbrev Sut := Addr → Value → Option Addr → TS
def gone (D : Ends) (i : Nat) : Ends := { nx := fun σ' H' => D.nx (σ'.set i none) H', rt := D.rt, bk := fun σ' H' => D.bk (σ'.set i none) H', ct := fun σ' H' => D.ct (σ'.set i none) H' }
/-- what the clauses wish of an exception of the body, one after the other -/
def wManyA (K : PySem.W.Frag) (Wout : WX) (D : Ends) : List (Value × Option Nat × Sut) → WX
  | [] => Wout
  | (c, none, ts) :: r => fun cls d σ H => ∃ b, PySem.W.exmOne K cls c = some b ∧ (b = true → ∀ a, H a = none → ts a cls d D σ H) ∧ (b = false → wManyA K Wout D r cls d σ H)
  | (c, some i, ts) :: r => fun cls d σ H => ∃ b, PySem.W.exmOne K cls c = some b ∧ (b = true → ∀ a, H a = none → ts a cls d (gone D i) (σ.set i (some (.ref a))) H) ∧ (b = false → wManyA K Wout D r cls d σ H)
inductive HdsA (X : Cx) : List ExceptHandler → List (Value × Option Nat × Sut) → Prop
  | nil : HdsA X [] []
  | cons {x : Str} {c : Value} {ts : Sut} {b₀ : Stmt} {suite : List Stmt} {np pos' : Pos} {hds : List ExceptHandler} {l : List (Value × Option Nat × Sut)} (hc : Names X x c)
      (hsu : ∀ (a : Addr) (oe : Obj) (cls : Value) (d : Option Addr) (pn : List (Addr × Obj)), Zc cls d oe → (∃ vs, oe.data = .fields vs) → PSs (X.suite a ((a, oe) :: pn)) (b₀ :: suite) (ts a cls d)) (r : HdsA X hds l) :
      HdsA X (.ExceptHandler (some (.Name x np)) none (b₀ :: suite) pos' :: hds) ((c, none, ts) :: l)
  | consAs {x n : Str} {i : Nat} {c : Value} {ts : Sut} {b₀ : Stmt} {suite : List Stmt} {np pos' : Pos} {hds : List ExceptHandler} {l : List (Value × Option Nat × Sut)} (hN : X.N.Nodup) (hi : X.N[i]? = some n) (hln : X.env.kindOf n = some .local) (hc : Names X x c)
      (hsu : ∀ (a : Addr) (oe : Obj) (cls : Value) (d : Option Addr) (pn : List (Addr × Obj)), Zc cls d oe → (∃ vs, oe.data = .fields vs) → PSs (X.suite a ((a, oe) :: pn)) (b₀ :: suite) (ts a cls d)) (r : HdsA X hds l) :
      HdsA X (.ExceptHandler (some (.Name x np)) (some n) (b₀ :: suite) pos' :: hds) ((c, some i, ts) :: l)
section
variable {X : Cx} {body : List Stmt} {h₀ : ExceptHandler} {hds : List ExceptHandler} {l : List (Value × Option Nat × Sut)} {pos : Pos} {tb : WX → TS} {Wout : WX}
theorem ps_try_manyA (hs : X.stack = X.env :: X.outer) (hf : X.env.frame = some X.env.locals) (tk : Takes X Wout)
    (hb : ∀ (W : WX) (pn : List (Addr × Obj)) (xe : Value → Shared → Prop), Takes (X.tr pn xe) W → PassesOwn (model X.prog X.w) X.A X.env xe → PSs (X.tr pn xe) body (tb W))
    (hh : HdsA X (h₀ :: hds) l) : PS X (.Try body (h₀ :: hds) [] [] pos) (fun D σ H => tb (wManyA X.K Wout D l) D σ H) := by
  refine ⟨fun pins s σ H D I h => ?_⟩
  have ok := I.ok
  have hfr : X.A.frames = some (X.env :: X.outer) := by rw [ok.frames, hs]
  refine wpAny_Try_except ?_
  refine wpAny_mono ((hb (wManyA X.K Wout D l) (X.pn ++ pins) (fun e s₁ => wpAny (model X.prog X.w) X.A (noteFrame e X.env) (fun _ s₂ => wpAny (model X.prog X.w) X.A (setFlight e none) (fun _ s₃ =>
    wpAny (model X.prog X.w) X.A (handleBy e X.env (h₀ :: hds)) (SP X pins D) X.xe s₃) X.xe s₂) X.xe s₁) (fun u s' xx => ?_) PassesOwn.looking).run [] s σ H D (I.toTry _) h) (fun f s1 hsp => ?_) (fun e s1 he => he)
  · obtain ⟨a, B, sI, pins', σ', H', cls, d, rfl, J', nb, up, sky, na, os, ag, w⟩ := xx
    have J : Inv X pins σ' H' sI := J'.ofTry ok
    have sky' : Sky B (X.env :: X.outer) a (Zc cls d) X.env.locals s'.heap := by rw [← hs]; exact sky
    show wpAny (model X.prog X.w) X.A (noteFrame (.ref a) X.env) _ _ _
    refine Sky.land Zc.steady hfr hf sky' fun h3 fl3 up3 => ?_
    have J3 : Inv X pins σ' H' { s' with heap := h3 } := J.landed nb fl3.1 (up.trans up3) os ag
    obtain ⟨oe3, vs3, he3, hz3, hd3⟩ := fl3.there
    have notFr : ∀ {h : Heap} {o : Obj} {vs : Array Value}, h.FunFrames B (X.env :: X.outer) → h.get? a = some o → o.data = .fields vs → a ∉ frs (X.env :: X.outer) := fun {h o vs} ff e dd hm => by
      obtain ⟨_, o', e', hnf⟩ := ff.mem hm
      rw [e] at e'; cases e'
      exact hnf _ dd
    have nfr := notFr fl3.2.2.1 he3 hd3
    have nL : a ≠ X.env.locals := fun z => nfr (List.mem_filterMap.mpr ⟨X.env, List.mem_cons_self, by rw [hf, z]⟩)
    have nF : a ∉ X.fs := fun hm => by
      obtain ⟨e, he, q⟩ := List.mem_filterMap.mp hm
      exact nfr (List.mem_filterMap.mpr ⟨e, List.mem_cons_of_mem _ he, q⟩)
    have S3 := J3.suite he3 hd3 na nL nF
    have LT : PySem.W.Looks (model X.prog X.w) h3 (typeOf (.ref a)) cls := fun A Q E s k q => wpAny_typeOf_ref (k _ _ he3) (by rw [hz3.1]; exact q)
    have test : ∀ {x : Str} {c : Value} {np : Pos} {Q : Value → Shared → Prop} {E : Value → Shared → Prop}, Names X x c → Q c { s' with heap := h3 } → wpAny (model X.prog X.w) (X.A.mark (some (.ref a))) (eval (.Name x np) X.env) Q E { s' with heap := h3 } := fun {x c np Q E} hc q => by
      obtain ⟨hg, hdbg, hm | ⟨hm, hv, hnn⟩⟩ := hc
      · exact ld_glob (X := X.suite a ((a, oe3) :: (X.pn ++ pins))) S3 hg hm q hdbg
      · exact ld_blt (X := X.suite a ((a, oe3) :: (X.pn ++ pins))) S3 hg hm hv q hnn hdbg
    have go : ∀ {hds' : List ExceptHandler} {l' : List (Value × Option Nat × Sut)}, HdsA X hds' l' → wManyA X.K Wout D l' cls d σ' H' →
        wpAny (model X.prog X.w) X.A (handleBy (.ref a) X.env hds') (SP X pins D) X.xe { s' with heap := h3 } := by
      intro hds' l' hk
      induction hk with
      | nil =>
        intro w
        refine wpAny_handleBy_nil ?_
        obtain ⟨k1, k2, k3, oe, vs, T, oT, ts', he, hz, hd, h1, hr⟩ := id fl3
        unfold PySem.passOn
        refine wpAny_bind (wpAny_field he hd h1 ?_)
        rw [if_neg (show ¬ ((Value.ref T == Value.none) = true) from by simp)]
        have fin : wpAny (model X.prog X.w) X.A (setFlight (.ref a) X.env.frame) (fun _ s4 => wpAny (model X.prog X.w) X.A (throw (.ref a) : Sem Flow) (SP X pins D) X.xe s4) X.xe { s' with heap := h3 } := by
          rw [hf]
          refine HandSPX.setFlight_upZ fl3 fun h4 hh4 up4 => wpAny_throw (tk _ _ ?_)
          exact ⟨a, B, sI, pins, σ', H', cls, d, rfl, J, nb, (up.trans up3).trans up4, .inr (.inr (by rw [hs]; exact hh4)), na, os, ag, w⟩
        first
          | exact wpAny_bind (wpAny_pure (wpAny_bind fin))
          | exact wpAny_bind fin
      | @cons x c ts b₀ suite np pos' hds2 l2 hc hsu r ih =>
        intro w
        obtain ⟨b, hb1, hyes, hno⟩ := w
        refine wpAny_handleBy_cons (codeAny_handlers_test ?_) (by intro q; cases q)
        have LM := PySem.W.exm_one (M := model X.prog X.w) (J3.kIn) LT hb1
        refine test hc (LM.here ?_)
        cases b with
        | true =>
          refine codeAny_handlers_suite ?_
          refine HandSPX.lands_againZ fl3 fun h4 fl4 up4 => ?_
          have J4 : Inv X pins σ' H' { s' with heap := h4 } := J.landed nb fl4.1 ((up.trans up3).trans up4) os ag
          obtain ⟨oe4, vs4, he4, hz4, hd4⟩ := fl4.there
          have S4 := J4.suite he4 hd4 na nL nF
          refine wpAny_mono ((hsu a oe4 cls d (X.pn ++ pins) hz4 ⟨_, hd4⟩).run [] _ _ H' _ S4 (hyes rfl a na)) (fun f s6 hsp => ?_) (fun _ _ z => False.elim z)
          cases f with
          | next =>
            obtain ⟨σ6, H6, S6, q6⟩ := hsp
            exact ⟨_, _, S6.unsuite ok, q6⟩
          | brk =>
            obtain ⟨σ6, H6, S6, q6⟩ := hsp
            exact ⟨_, _, S6.unsuite ok, q6⟩
          | cont =>
            obtain ⟨σ6, H6, S6, q6⟩ := hsp
            exact ⟨_, _, S6.unsuite ok, q6⟩
          | ret u =>
            obtain ⟨v6, σ6, H6, S6, r6, q6⟩ := hsp
            exact ⟨_, _, _, S6.unsuite ok, r6, q6⟩
        | false =>
          show wpAny _ X.A (handleBy (.ref a) X.env hds2) _ _ _
          exact ih (hno rfl)
      | @consAs x n i c ts b₀ suite np pos' hds2 l2 hN hi hln hc hsu r ih =>
        intro w
        obtain ⟨b, hb1, hyes, hno⟩ := w
        refine wpAny_handleBy_cons (codeAny_handlers_test ?_) (by intro q; cases q)
        have LM := PySem.W.exm_one (M := model X.prog X.w) (J3.kIn) LT hb1
        refine test hc (LM.here ?_)
        cases b with
        | true =>
          refine codeAny_handlers_suite_as ?_
          refine HandSPX.lands_againZ fl3 fun h4 fl4 up4 => ?_
          have J4 : Inv X pins σ' H' { s' with heap := h4 } := J.landed nb fl4.1 ((up.trans up3).trans up4) os ag
          obtain ⟨oe4, vs4, he4, hz4, hd4⟩ := fl4.there
          have S4 := J4.suite he4 hd4 na nL nF
          refine store_ok (X := X.suite a ((a, oe4) :: (X.pn ++ pins))) (v := .ref a) S4 hN hi (.inl hln) rfl (fun s5 S5 => ?_) (.inr hln)
          refine wpAny_mono ((hsu a oe4 cls d (X.pn ++ pins) hz4 ⟨_, hd4⟩).run [] s5 _ H' _ S5 (hyes rfl a na)) (fun f s6 hsp => ?_) (fun _ _ z => False.elim z)
          have end_ : ∀ {σ6 : L2.St} {H6 : Hp} {Q : Shared → Prop}, Inv (X.suite a ((a, oe4) :: (X.pn ++ pins))) [] σ6 H6 s6 → (∀ s7, Inv X pins (σ6.set i none) H6 s7 → Q s7) →
              wpAny (model X.prog X.w) X.A (do bindName X.env n .none; unbindBehindTheSuite X.env n pos') (fun _ s7 => Q s7) X.xe s6 := fun {σ6 H6 Q} S6 hq => gone_ok (S6.unsuite ok) hN hi hln hq
          cases f with
          | next =>
            obtain ⟨σ6, H6, S6, q6⟩ := hsp
            exact end_ S6 fun s7 J7 => ⟨_, _, J7, q6⟩
          | brk =>
            obtain ⟨σ6, H6, S6, q6⟩ := hsp
            exact end_ S6 fun s7 J7 => ⟨_, _, J7, q6⟩
          | cont =>
            obtain ⟨σ6, H6, S6, q6⟩ := hsp
            exact end_ S6 fun s7 J7 => ⟨_, _, J7, q6⟩
          | ret u =>
            obtain ⟨v6, σ6, H6, S6, r6, q6⟩ := hsp
            exact end_ S6 fun s7 J7 => ⟨_, _, _, J7, r6, q6⟩
        | false =>
          show wpAny _ X.A (handleBy (.ref a) X.env hds2) _ _ _
          exact ih (hno rfl)
    exact go hh w
  · cases f with
    | next =>
      obtain ⟨σ', H', J', q⟩ := hsp
      exact wpAny_execs_nil ⟨σ', H', J'.ofTry ok, q⟩
    | brk =>
      obtain ⟨σ', H', J', q⟩ := hsp
      exact ⟨σ', H', J'.ofTry ok, q⟩
    | cont =>
      obtain ⟨σ', H', J', q⟩ := hsp
      exact ⟨σ', H', J'.ofTry ok, q⟩
    | ret u =>
      obtain ⟨v, σ', H', J', r, q⟩ := hsp
      exact ⟨v, σ', H', J'.ofTry ok, r, q⟩
end

/-! ### in a suite: the same with the exception told -/
abbrev Cf.at (F : Cf) (a dd : Addr) : Cf := ⟨F.K, F.CE, some (a, dd)⟩
section
variable {F F' : Cf} {O : Addr → Prop} {H : Hp}
mutual
theorem Den.cf (h1 : F.K = F'.K) (h2 : F.CE = F'.CE) : ∀ {v : V} {d : D}, Den F O H v d → Den F' O H v d
  | _, _, .non => .non
  | _, _, .bl b => .bl b
  | _, _, .int i => .int i
  | _, _, .str x => .str x
  | _, _, .ob b n => .ob (Bod.cf h1 h2 b) n
  | _, _, .tupK h ds => .tupK (fun H => h1 ▸ h H) (Dens.cf h1 h2 ds)
  | _, _, .lstK h ds => .lstK (fun H => h1 ▸ h H) (Dens.cf h1 h2 ds)
theorem Dens.cf (h1 : F.K = F'.K) (h2 : F.CE = F'.CE) : ∀ {vs : List V} {ds : List D}, Dens F O H vs ds → Dens F' O H vs ds
  | _, _, .nil => .nil
  | _, _, .cons x xs => .cons (Den.cf h1 h2 x) (Dens.cf h1 h2 xs)
theorem Bod.cf (h1 : F.K = F'.K) (h2 : F.CE = F'.CE) : ∀ {a : Addr} {d : D}, Bod F O H a d → Bod F' O H a d
  | _, _, .tup e1 ds => .tup e1 (Dens.cf h1 h2 ds)
  | _, _, .lst e1 ds => .lst e1 (Dens.cf h1 h2 ds)
  | _, _, .lstz e1 ds => .lstz e1 (Dens.cf h1 h2 ds)
  | _, _, .dct e1 k ds => .dct e1 k (Dens.cf h1 h2 ds)
  | _, _, .dcl e1 k ds => .dcl e1 k (Dens.cf h1 h2 ds)
  | _, _, .ins e1 k ds => .ins (h2 ▸ e1) k (Dens.cf h1 h2 ds)
end
end
def noEx (e : En) : Bool := e.all fun s => match s with
  | .ex _ _ => false
  | _ => true
section
variable {F F' : Cf} {B : Addr → Prop} {env : En} {σ : L2.St} {H : Hp}
theorem EnvOk.cf (h1 : F.K = F'.K) (h2 : F.CE = F'.CE) (hx : ∀ (i : Nat) (ns : List Str) (ds : List D) (ov : Option V), env[i]? = some (.ex ns ds) → σ[i]? = some ov → SlOk F B (Os B env σ) H (.ex ns ds) ov → SlOk F' B (Os B env σ) H (.ex ns ds) ov) (k : EnvOk F B env σ H) : EnvOk F' B env σ H := by
  refine ⟨k.len, fun i s ov g1 g2 => ?_, k.apart, k.trk⟩
  have w := k.ok i s ov g1 g2
  cases s with
  | un => trivial
  | val d =>
    obtain ⟨v, e, w⟩ := w
    exact ⟨v, e, w.cf h1 h2⟩
  | own d =>
    obtain ⟨v, e, n, w⟩ := w
    exact ⟨v, e, n, w.cf h1 h2⟩
  | mt d =>
    obtain ⟨v, e, n, w⟩ := w
    exact ⟨v, e, n, w.cf h1 h2⟩
  | br d =>
    obtain ⟨v, e, n, w⟩ := w
    exact ⟨v, e, n, w.cf h1 h2⟩
  | ex ns ds => exact hx i ns ds ov g1 g2 w
theorem EnvOk.toX {a dd : Addr} (hF : F.ex = none) (k : EnvOk F B env σ H) : EnvOk (F.at a dd) B env σ H := EnvOk.cf (F := F) (F' := F.at a dd) rfl rfl (fun i ns ds ov _ _ ⟨a, dd, fs, e, _⟩ => by
  rw [hF] at e
  cases e) k
theorem EnvOk.ofX {a dd : Addr} (hn : noEx env = true) (k : EnvOk (F.at a dd) B env σ H) : EnvOk F B env σ H := EnvOk.cf (F := F.at a dd) (F' := F) rfl rfl (fun i ns ds ov g1 _ _ => by
  have := List.all_eq_true.mp hn _ (List.mem_of_getElem? g1)
  cases this) k
/-- a slot takes what is not lent -/
theorem store_low {s : Sl} {ov : Option V} (i : Nat) (k : EnvOk F B env σ H) (hl : s.lent = none) (h : SlOk F B (Os B env σ) H s ov) : EnvOk F B (env.set i s) (σ.set i ov) H ∧ Ext env σ H (env.set i s) (σ.set i ov) H := by
  have no : ∀ d, s ≠ .own d ∧ s ≠ .mt d ∧ s ≠ .br d := fun d => ⟨fun e => (by rw [e] at hl; cases hl), fun e => (by rw [e] at hl; cases hl), fun e => (by rw [e] at hl; cases hl)⟩
  have own' : ∀ b, OwnAt (env.set i s) (σ.set i ov) b → OwnAt env σ b := fun b ⟨j, dj, h1, h2⟩ => by
    rw [get_set] at h1
    rw [get_setV] at h2
    split at h1
    · exact absurd (Option.some.inj h1) (no dj).1
    · rename_i hn
      rw [k.len] at hn
      rw [if_neg hn] at h2
      exact ⟨j, dj, h1, h2⟩
  have less : ∀ b, Os B (env.set i s) (σ.set i ov) b → Os B env σ b := fun b z => z.elim .inl fun z => .inr (own' b z)
  refine ⟨⟨by rw [List.length_set, List.length_set]; exact k.len, fun j t ov' h1 h2 => ?_, fun i1 j1 si sj di dj b hne h1 h2 l1 l2 s1 s2 => ?_, k.trk⟩, ⟨fun b o n1 n2 e => e, fun b z => .inl (own' b z), fun j dj h1 => ?_, fun j dj h1 => ?_, fun b o e => ⟨o, e⟩⟩⟩
  · rw [get_set] at h1
    rw [get_setV, ← k.len] at h2
    split at h1
    · rename_i hp
      rw [if_pos hp] at h2
      cases h1
      cases h2
      exact h.anti less
    · rename_i hn
      rw [if_neg hn] at h2
      exact (k.ok j t ov' h1 h2).anti less
  · rw [get_set] at h1 h2
    rw [get_setV, ← k.len] at s1 s2
    split at h1
    · cases h1
      rw [hl] at l1
      cases l1
    · rename_i hn1
      rw [if_neg hn1] at s1
      split at h2
      · cases h2
        rw [hl] at l2
        cases l2
      · rename_i hn2
        rw [if_neg hn2] at s2
        exact k.apart i1 j1 si sj di dj b hne h1 h2 l1 l2 s1 s2
  · rw [get_set] at h1
    rw [get_setV, ← k.len]
    split at h1
    · exact absurd (Option.some.inj h1) (no dj).2.1
    · rename_i hn
      rw [if_neg hn]
      exact ⟨⟨dj, h1⟩, rfl⟩
  · rw [get_set] at h1
    rw [get_setV, ← k.len]
    split at h1
    · exact absurd (Option.some.inj h1) (no dj).2.2
    · rename_i hn
      rw [if_neg hn]
      exact ⟨⟨dj, h1⟩, rfl⟩
end

/-! ### try -/
structure Clause where
  test : Str → Option Bool
  slot : Option Nat
  suite : SSem
def clr (sl : Option Nat) (e : En) : En := match sl with
  | some i => e.set i .un
  | none => e
def leaveX (sl : Option Nat) : SOut → SOut
  | .nx e => if noEx (clr sl e) = true then .nx (clr sl e) else .stuck
  | .bk e => if noEx (clr sl e) = true then .bk (clr sl e) else .stuck
  | .ct e => if noEx (clr sl e) = true then .ct (clr sl e) else .stuck
  | .rt d e => if noEx (clr sl e) = true then .rt d (clr sl e) else .stuck
  | .exc _ _ _ _ => .stuck
  | .stuck => .stuck
def handle : List Clause → Str → List Str → List D → En → SOut
  | [], c, ns, ds, e => .exc c ns ds e
  | cl :: r, c, ns, ds, e => match cl.test c with
    | none => .stuck
    | some false => handle r c ns ds e
    | some true => match cl.slot with
      | none => leaveX none (cl.suite e)
      | some i => if ns.isEmpty = true then .stuck else leaveX (some i) (cl.suite (e.set i (.ex ns ds)))
def sTry (fb : SSem) (cls : List Clause) : SSem := fun env => match fb env with
  | .exc c ns ds e => handle cls c ns ds e
  | o => o
inductive ClsOk (F : Cf) (X : Cx) : List ExceptHandler → List Clause → Prop
  | nil : ClsOk F X [] []
  | cons {x : Str} {cv : Value} {cl : Clause} {b₀ : Stmt} {suite : List Stmt} {np pos' : Pos} {hds : List ExceptHandler} {l : List Clause} (hc : Names X x cv) (hsl : cl.slot = none) (ht : ∀ c b, cl.test c = some b → PySem.W.exmOne X.K (.ref (F.CE c)) cv = some b)
      (hsu : ∀ (a : Addr) (oe : Obj) (pn : List (Addr × Obj)), DSs F W0 (X.suite a ((a, oe) :: pn)) (b₀ :: suite) cl.suite) (r : ClsOk F X hds l) : ClsOk F X (.ExceptHandler (some (.Name x np)) none (b₀ :: suite) pos' :: hds) (cl :: l)
  | consAs {x n : Str} {i : Nat} {cv : Value} {cl : Clause} {b₀ : Stmt} {suite : List Stmt} {np pos' : Pos} {hds : List ExceptHandler} {l : List Clause} (hN : X.N.Nodup) (hi : X.N[i]? = some n) (hln : X.env.kindOf n = some .local) (hc : Names X x cv) (hsl : cl.slot = some i) (ht : ∀ c b, cl.test c = some b → PySem.W.exmOne X.K (.ref (F.CE c)) cv = some b)
      (hsu : ∀ (c : Str) (a dd : Addr) (oe : Obj) (pn : List (Addr × Obj)), cl.test c = some true → Zc (.ref (F.CE c)) (some dd) oe → (∃ vs, oe.data = .fields vs) → DSs (F.at a dd) W0 (X.suite a ((a, oe) :: pn)) (b₀ :: suite) cl.suite) (r : ClsOk F X hds l) :
      ClsOk F X (.ExceptHandler (some (.Name x np)) (some n) (b₀ :: suite) pos' :: hds) (cl :: l)
section
variable {F : Cf} {X : Cx} {W : WX} {hds : List ExceptHandler} {cls : List Clause}
theorem leave_none {B : Addr → Prop} {env e : En} {σ σ' : L2.St} {H H' : Hp} {Dn : Ends} {o : SOut} (x : Ext env σ H e σ' H') (p : PostS F W B env σ H Dn (leaveX none o)) : PostS F W0 B e σ' H' Dn o := by
  cases o with
  | nx e2 =>
    have p : PostS F W B env σ H Dn (if noEx (clr none e2) = true then .nx (clr none e2) else .stuck) := p
    by_cases hn : noEx (clr none e2) = true
    · rw [if_pos hn] at p
      exact fun σ2 H2 x2 k2 => p σ2 H2 (x.trans x2) k2
    · rw [if_neg hn] at p
      exact p.elim
  | bk e2 =>
    have p : PostS F W B env σ H Dn (if noEx (clr none e2) = true then .bk (clr none e2) else .stuck) := p
    by_cases hn : noEx (clr none e2) = true
    · rw [if_pos hn] at p
      exact fun σ2 H2 x2 k2 => p σ2 H2 (x.trans x2) k2
    · rw [if_neg hn] at p
      exact p.elim
  | ct e2 =>
    have p : PostS F W B env σ H Dn (if noEx (clr none e2) = true then .ct (clr none e2) else .stuck) := p
    by_cases hn : noEx (clr none e2) = true
    · rw [if_pos hn] at p
      exact fun σ2 H2 x2 k2 => p σ2 H2 (x.trans x2) k2
    · rw [if_neg hn] at p
      exact p.elim
  | rt d e2 =>
    have p : PostS F W B env σ H Dn (if noEx (clr none e2) = true then .rt d (clr none e2) else .stuck) := p
    by_cases hn : noEx (clr none e2) = true
    · rw [if_pos hn] at p
      exact fun σ2 H2 v x2 k2 dv => p σ2 H2 v (x.trans x2) k2 dv
    · rw [if_neg hn] at p
      exact p.elim
  | exc c ns ds e => exact p.elim
  | stuck => exact p.elim
theorem leave_some {B : Addr → Prop} {env e : En} {σ σ' : L2.St} {H H' : Hp} {Dn : Ends} {o : SOut} {i : Nat} {a dd : Addr} (x : Ext env σ H e σ' H') (p : PostS F W B env σ H Dn (leaveX (some i) o)) : PostS (F.at a dd) W0 B e σ' H' (gone Dn i) o := by
  have key : ∀ {e2 : En} {σ2 : L2.St} {H2 : Hp}, noEx (clr (some i) e2) = true → Ext e σ' H' e2 σ2 H2 → EnvOk (F.at a dd) B e2 σ2 H2 →
      EnvOk F B (clr (some i) e2) (σ2.set i none) H2 ∧ Ext env σ H (clr (some i) e2) (σ2.set i none) H2 ∧ Ext e2 σ2 H2 (clr (some i) e2) (σ2.set i none) H2 := fun {e2 σ2 H2} hn x2 k2 => by
    obtain ⟨k3, x3⟩ := store_low (s := .un) (ov := none) i k2 rfl True.intro
    exact ⟨k3.ofX hn, (x.trans x2).trans x3, x3⟩
  cases o with
  | nx e2 =>
    have p : PostS F W B env σ H Dn (if noEx (clr (some i) e2) = true then .nx (clr (some i) e2) else .stuck) := p
    by_cases hn : noEx (clr (some i) e2) = true
    · rw [if_pos hn] at p
      exact fun σ2 H2 x2 k2 => let ⟨k3, x3, _⟩ := key hn x2 k2; p _ H2 x3 k3
    · rw [if_neg hn] at p
      exact p.elim
  | bk e2 =>
    have p : PostS F W B env σ H Dn (if noEx (clr (some i) e2) = true then .bk (clr (some i) e2) else .stuck) := p
    by_cases hn : noEx (clr (some i) e2) = true
    · rw [if_pos hn] at p
      exact fun σ2 H2 x2 k2 => let ⟨k3, x3, _⟩ := key hn x2 k2; p _ H2 x3 k3
    · rw [if_neg hn] at p
      exact p.elim
  | ct e2 =>
    have p : PostS F W B env σ H Dn (if noEx (clr (some i) e2) = true then .ct (clr (some i) e2) else .stuck) := p
    by_cases hn : noEx (clr (some i) e2) = true
    · rw [if_pos hn] at p
      exact fun σ2 H2 x2 k2 => let ⟨k3, x3, _⟩ := key hn x2 k2; p _ H2 x3 k3
    · rw [if_neg hn] at p
      exact p.elim
  | rt d e2 =>
    have p : PostS F W B env σ H Dn (if noEx (clr (some i) e2) = true then .rt d (clr (some i) e2) else .stuck) := p
    by_cases hn : noEx (clr (some i) e2) = true
    · rw [if_pos hn] at p
      exact fun σ2 H2 v x2 k2 dv => let ⟨k3, x3, x4⟩ := key hn x2 k2; p _ H2 v x3 k3 (Den.cf (F := F.at a dd) (F' := F) rfl rfl (x4.den k2 dv))
    · rw [if_neg hn] at p
      exact p.elim
  | exc c ns ds e => exact p.elim
  | stuck => exact p.elim
theorem cls_hds (hF : F.ex = none) (h : ClsOk F X hds cls) : ∃ l : List (Value × Option Nat × Sut), HdsA X hds l ∧ ∀ (W : WX) (Dn : Ends) (B : Addr → Prop) (env e : En) (σ σ' : L2.St) (H H' : Hp) (dx : Option Addr) (c : Str) (ns : List Str) (ds : List D),
    PostS F W B env σ H Dn (handle cls c ns ds e) → Ext env σ H e σ' H' → EnvOk F B e σ' H' → ExcAt F (Os B e σ') H' dx ns ds → wManyA X.K W Dn l (.ref (F.CE c)) dx σ' H' := by
  induction h with
  | nil => exact ⟨[], .nil, fun W Dn B env e σ σ' H H' dx c ns ds p x k ex => p dx σ' H' x k ex⟩
  | @cons x cv cl b₀ suite np pos' hds l hc hsl ht hsu r ih =>
    obtain ⟨l2, h1, h2⟩ := ih
    refine ⟨(cv, none, fun _ _ _ => TS' F W0 cl.suite) :: l2, .cons hc (fun a oe cls d pn _ _ => hsu a oe pn) h1, fun W Dn B env e σ σ' H H' dx c ns ds p x k ex => ?_⟩
    unfold handle at p
    cases hb : cl.test c with
    | none =>
      rw [hb] at p
      exact p.elim
    | some b =>
      rw [hb] at p
      refine ⟨b, ht c b hb, fun e1 a ha => ?_, fun e1 => ?_⟩
      · subst e1
        rw [hsl] at p
        exact ⟨B, e, k, leave_none x p⟩
      · subst e1
        exact h2 W Dn B env e σ σ' H H' dx c ns ds p x k ex
  | @consAs x n i cv cl b₀ suite np pos' hds l hN hi hln hc hsl ht hsu r ih =>
    obtain ⟨l2, h1, h2⟩ := ih
    refine ⟨(cv, some i, fun a cls d => fun Dn σ H => ∃ c dd, cls = .ref (F.CE c) ∧ cl.test c = some true ∧ d = some dd ∧ TS' (F.at a dd) W0 cl.suite Dn σ H) :: l2, .consAs hN hi hln hc (fun a oe cls d pn hz hf => ?_) h1, fun W Dn B env e σ σ' H H' dx c ns ds p x k ex => ?_⟩
    · refine ⟨fun pins s σ H Dn I ⟨c, dd, e1, e2, e3, q⟩ => ?_⟩
      subst e1 e3
      exact (hsu c a dd oe pn e2 hz hf).run pins s σ H Dn I q
    · unfold handle at p
      cases hb : cl.test c with
      | none =>
        rw [hb] at p
        exact p.elim
      | some b =>
        rw [hb] at p
        refine ⟨b, ht c b hb, fun e1 a ha => ?_, fun e1 => ?_⟩
        · subst e1
          rw [hsl] at p
          have p : PostS F W B env σ H Dn (if ns.isEmpty = true then .stuck else leaveX (some i) (cl.suite (e.set i (.ex ns ds)))) := p
          by_cases hne : ns.isEmpty = true
          · rw [if_pos hne] at p
            exact p.elim
          · rw [if_neg hne] at p
            rcases ex with ⟨e1, _⟩ | ⟨dd, fs, e1, o, hx, hn, dv⟩
            · rw [e1] at hne
              exact absurd rfl hne
            · subst e1
              obtain ⟨k2, x2⟩ := store_low (F := F.at a dd) (s := .ex ns ds) (ov := some (.ref a)) i (k.toX hF) rfl ⟨a, dd, fs, rfl, rfl, o, hx, hn, Dens.cf (F := F) (F' := F.at a dd) rfl rfl dv⟩
              exact ⟨c, dd, rfl, hb, rfl, B, _, k2, leave_some (x.trans x2) p⟩
        · subst e1
          exact h2 W Dn B env e σ σ' H H' dx c ns ds p x k ex
variable {h₀ : ExceptHandler} {body : List Stmt} {fb : SSem} {pos : Pos}
theorem ds_try (hF : F.ex = none) (hs : X.stack = X.env :: X.outer) (hf : X.env.frame = some X.env.locals) (tk : Takes X W)
    (hb : ∀ (W : WX) (pn : List (Addr × Obj)) (xe : Value → Shared → Prop), Takes (X.tr pn xe) W → PassesOwn (model X.prog X.w) X.A X.env xe → DSs F W (X.tr pn xe) body fb)
    (hh : ClsOk F X (h₀ :: hds) cls) : DS F W X (.Try body (h₀ :: hds) [] [] pos) (sTry fb cls) := by
  obtain ⟨l, h1, h2⟩ := cls_hds hF hh
  refine .of (ps_try_manyA hs hf tk hb h1) fun Dn σ H ⟨B, env, k, p⟩ => ⟨B, env, k, ?_⟩
  have p : PostS F W B env σ H Dn (match fb env with
    | .exc c ns ds e => handle cls c ns ds e
    | o => o) := p
  cases hq : fb env with
  | nx e =>
    rw [hq] at p
    exact p
  | rt d e =>
    rw [hq] at p
    exact p
  | bk e =>
    rw [hq] at p
    exact p
  | ct e =>
    rw [hq] at p
    exact p
  | stuck =>
    rw [hq] at p
    exact p
  | exc c ns ds e =>
    rw [hq] at p
    exact fun dx σ' H' x k' ex => h2 W Dn B env e σ σ' H H' dx c ns ds p x k' ex
/-- error.f -/
def eXf (i : Nat) (f : Str) : ESem := fun env => match env[i]? with
  | some (.ex ns ds) => lift (fieldD ns ds f) env
  | _ => .stuck
theorem d_xf {a dd : Addr} {oe : Obj} {pn : List (Addr × Obj)} {c n f : Str} {i : Nat} {e : Expr} (T : XfC X.K (F.CE c)) (hno : PySem.W.findIn X.K (.ref (F.CE c)) f = some none) (hz : Zc (.ref (F.CE c)) (some dd) oe) (hf : ∃ vs, oe.data = .fields vs)
    (he : PE (X.suite a ((a, oe) :: pn)) e (tVar i)) (hb : attributeBase e f X.env (eval e X.env) = eval e X.env := by rfl) : DE (F.at a dd) W (X.suite a ((a, oe) :: pn)) (.Attribute e f pos) (eXf i f) :=
  .of (pe_xf T hno hz hf he hb) fun σ H Q ⟨B, env, k, p⟩ => by
    unfold eXf at p
    split at p
    · rename_i ns ds hs
      obtain ⟨d, hd, q⟩ := Post.lift (e := env) k p
      obtain ⟨ov, e1, a', dd', fs, e2, e3, o, hx, hn, dv⟩ := k.slot hs
      cases e2
      subst e3 hn
      obtain ⟨v, hv, dv2⟩ := field_den dv hd
      exact ⟨.ref a, e1, rfl, rfl, dd, fs, v, rfl, hx, hv, q v dv2⟩
    · exact p.elim
end
end Dl

/-! D17: defs called from anywhere, also from an except suite. -/
namespace Dl
open PySem PySem.Spec PyProof.Rows L2

/-- a promise that holds in an except suite, too -/
structure FnI (P : Program) (w : World) (K : PySem.W.Frag) (mg : Str → Option Value) (base : Heap) (CX : CXT) (k : Nat) (f : Addr) (fd : FuncData) (ps : List Str) (sp : Sp) : Prop where
  len : ∀ vs H Q E, sp vs H Q E → vs.length = ps.length
  run : ∀ (A : Around) (outer : List Env) (s : Shared) (H : Hp) (args : Args) (us : List Value) (vs : List V) (Q : VK) (E : XK), L2H.RoomH k A → Env0 P w K mg base A outer s H → BindsTo s fd args (ps.zip us) → Vals vs us → sp vs H Q E →
    codeAny (model P w) A (.call (.ref f) args) (CR CX outer P w H s Q E) s
theorem FnI.ok {P : Program} {w : World} {K : PySem.W.Frag} {mg : Str → Option Value} {base : Heap} {CX : CXT} {k : Nat} {f : Addr} {fd : FuncData} {ps : List Str} {sp : Sp} (F : FnI P w K mg base CX k f fd ps sp) : FnOk P w K mg base CX k f fd ps sp :=
  ⟨F.len, fun A outer s H args us vs Q E hr => F.run A outer s H args us vs Q E (L2H.roomH_of hr)⟩
theorem FnI.mono {P : Program} {w : World} {K : PySem.W.Frag} {mg : Str → Option Value} {base : Heap} {CX : CXT} {j k : Nat} {f : Addr} {fd : FuncData} {ps : List Str} {sp : Sp} (F : FnI P w K mg base CX j f fd ps sp) (h : j ≤ k) : FnI P w K mg base CX k f fd ps sp :=
  ⟨F.len, fun A outer s H args us vs Q E hr => F.run A outer s H args us vs Q E (hr.mono h)⟩
abbrev cxI (CX : CXT) (P : Program) (w : World) (K : PySem.W.Frag) (mg : Str → Option Value) (base : Heap) (N : List Str) (qual : Str) (scope : Scope) (f : Addr) (cd : Value) (A : Around) (outer : List Env) (s : Shared) (H : Hp) (E : XK) : Cx :=
  { cxOf CX P w K mg base N qual scope f cd A outer s H E with calm := false }
def cold (A : Around) : Around := { A with handled := none }
section
variable {P : Program} {w : World} {K : PySem.W.Frag} {mg : Str → Option Value} {base : Heap}
theorem inv_startI {CX : CXT} {N ps : List Str} {qual : Str} {scope : Scope} {f : Addr} {cd : Value} {A : Around} {outer : List Env} {s s1 : Shared} {H : Hp} {E : XK} {us : List Value} {vs : List V}
    (S : FnScope N ps scope) (e0 : Env0 P w K mg base A outer s H) (hl : vs.length = ps.length) (r : Vals vs us)
    (x : InCallC s s.heap.objs.size (bindL (envOfC qual scope s.heap.objs.size f cd).kindOf (ps.zip us) fun _ => none) (cellsFrom (s.heap.objs.size + 1) scope.names []) (bindC (envOfC qual scope s.heap.objs.size f cd).kindOf (ps.zip us) fun _ => none) s1) :
    Inv (cxI CX P w K mg base N qual scope f cd A outer s H E) [] (start N vs) H s1 := by
  have e1 : Env0 P w K mg base (cold A) outer s H := ⟨e0.frames, e0.mod, e0.bs, e0.bsz, e0.funs, e0.frf, e0.hok, e0.bare⟩
  have I := inv_start (CX := CX) (N := N) (A := cold A) (E := E) S rfl e1 hl r x
  exact ⟨⟨I.ok.mod, I.ok.kind, I.ok.glob, I.ok.blt, I.ok.above, I.ok.inj, I.ok.has, I.ok.cab, fun z => Bool.noConfusion (show false = true from z), Around.frames_deeper e0.frames, I.ok.stk, I.ok.exf, I.ok.bs, I.ok.bsz, I.ok.noex, I.ok.exfs, I.ok.funs, I.ok.frf⟩,
    I.os, I.bare, I.base, I.loc, I.cell, I.free, I.freeC, I.pin, I.hok, I.len⟩
theorem fn_okI {CE : Str → Addr} {x qual : Str} {st : Stmt} {f : Addr} {fd : FuncData} {N ps : List Str} {k : Nat} {ms : List Mode} {g : SSem} (Fu : Fun K x qual st f fd) (S : FnScope N ps (defScope st)) (hm : ms.length = ps.length) (hn : ms.length ≤ N.length)
    (hbody : ∀ (cdv : Value) (A : Around) (outer : List Env) (s : Shared) (H : Hp) (E : XK), L2H.RoomH k (A.deeper (PyProof.Rows.envOfC qual (defScope st) s.heap.objs.size f cdv)) →
      DSs ⟨K, CE, none⟩ (WE' E) (cxI (L2.CX P w) P w K mg base N qual (defScope st) f cdv A outer s H E) (defBody st) g) : FnI P w K mg base (L2.CX P w) (k + 1) f fd ps (spF ⟨K, CE, none⟩ ms (fnOf ms N.length g)) := by
  obtain ⟨oc, od, kV, doc, pm, an, cdv, ct, osl, rfl, lk, hcd⟩ := Fu.ex
  have len : ∀ vs H Q E, spF ⟨K, CE, none⟩ ms (fnOf ms N.length g) vs H Q E → vs.length = ps.length := fun vs H Q E ⟨B, ds, t, r, _⟩ => by rw [r.len.1, hm]
  refine ⟨len, fun A outer s H args us vs Q E hr e0 hb r hsp => ?_⟩
  have hl := len _ _ _ _ hsp
  have KX : K.In s.heap := e0.mod.kin.keeps fun b o e => (e0.bs b o e).1
  have lim : s.heap.NoLimit := e0.mod.nolimit.keeps fun b o e => (e0.bs b o e).1
  have hkind : ∀ y ∈ ps.zip us, (defScope st).names.lookup y.1 = some .local ∨ ((defScope st).names.lookup y.1 = some .cell ∧ ((cellsFrom (s.heap.objs.size + 1) (defScope st).names []).lookup y.1).isSome = true) := fun ⟨n, v⟩ hy => by
    rcases S.par n (List.of_mem_zip hy).1 with q | q
    · exact .inl q
    · exact .inr ⟨q, PySem.W.cellsFrom_some _ _ _ (.inl q)⟩
  refine codeAny_call_function hr.depth (KX _ _ lk) rfl S.co S.gen rfl (PySem.W.codeRec_of KX hcd) (hb _ _ _ _ ?_)
  refine wpAny_newFunctionEnv_cells S.kind hkind fun env he s1 x => ?_
  subst he
  refine ⟨lim.keeps x.toInCall.keep, codeAny_func ?_⟩
  have I : Inv (cxI (L2.CX P w) P w K mg base N qual (defScope st) f cdv A outer s H E) [] (start N vs) H s1 := inv_startI S e0 hl r x
  refine wpAny_mono ((hbody cdv A outer s H E (hr.deeper _)).run [] s1 (start N vs) H _ I (fn_sp hn hsp)) (fun fl s' hs => ?_) fun e s' hs => hs
  have fin : ∀ {σ' : L2.St} {H' : Hp} {v : V} {u : Value}, Inv (cxI (L2.CX P w) P w K mg base N qual (defScope st) f cdv A outer s H E) [] σ' H' s' → RelV v u → Q v H' → L2.CE outer P w H s Q u s' :=
    fun {σ' H' v u} J rv q => ⟨v, H', J.os, J.bare, J.base, J.hok, rv, q⟩
  cases fl with
  | ret u =>
    obtain ⟨v, σ', H', J, rv, q⟩ := hs
    exact fin J rv q
  | next =>
    obtain ⟨σ', H', J, q⟩ := hs
    exact fin (v := V.non) (u := Value.none) J rfl q
  | brk =>
    obtain ⟨_, _, _, q⟩ := hs
    exact False.elim q
  | cont =>
    obtain ⟨_, _, _, q⟩ := hs
    exact False.elim q
end

/-! ### such a call; nothing is raised -/
theorem spF_cf {F F' : Cf} {ms : List Mode} {f : FSem} {vs : List V} {H : Hp} {Q : VK} {E : XK} (h1 : F.K = F'.K) (h2 : F.CE = F'.CE) (h : spF F ms f vs H Q E) : spF F' ms f vs H Q E := by
  obtain ⟨B, ds, t, r, nd, q⟩ := h
  have args : ∀ {ms : List Mode} {vs : List V} {ds : List D}, ArgsOk F B H ms vs ds → ArgsOk F' B H ms vs ds := fun {ms vs ds} r => by
    induction r with
    | nil => exact .nil
    | v x r ih => exact .v (Den.cf h1 h2 x) ih
    | m b x r ih => exact .m b (Bod.cf h1 h2 x) ih
    | b b x r ih => exact .b b (Bod.cf h1 h2 x) ih
  have outs : ∀ {H' : Hp} {ms : List Mode} {vs : List V} {ds : List D}, OutsOk F' B H' ms vs ds → OutsOk F B H' ms vs ds := fun {H' ms vs ds} r => by
    induction r with
    | nil => exact .nil
    | v r ih => exact .v ih
    | b r ih => exact .b ih
    | m x r ih => exact .m (Bod.cf h1.symm h2.symm x) ih
  refine ⟨B, ds, t, args r, nd, ?_⟩
  cases hf : f ds with
  | ret d o =>
    rw [hf] at q
    exact fun v H' x dv oo => q v H' x (Den.cf h1.symm h2.symm dv) (outs oo)
  | exc c ns es o =>
    rw [hf] at q
    intro dx H' x ex oo
    rw [← h2]
    refine q dx H' x ?_ (outs oo)
    rcases ex with ex | ⟨a, fs, g1, g2, g3, g4, g5⟩
    · exact .inl ex
    · exact .inr ⟨a, fs, g1, g2, g3, g4, Dens.cf h1.symm h2.symm g5⟩
  | stuck =>
    rw [hf] at q
    exact q
section
variable {F : Cf} {X : Cx} {e : Expr} {es : List Expr} {g : GSemA} {ms : List Mode} {f : FSem} {pos p : Pos} {k : Nat} {fA : Addr} {fd : FuncData} {ps : List Str} {x : Str} {CE : Str → Addr} {ex : Option (Addr × Addr)}
/-- f(e, ..) in a suite -/
theorem d_callI (hK : X.K = F.K) (G : FnI X.prog X.w X.K X.mg X.base (L2.CX X.prog X.w) k fA fd ps (spF ⟨F.K, F.CE, none⟩ ms f)) (hr : L2H.RoomH k X.A) (hg : Gl X x) (hm : X.mg x = some (.ref fA)) (hk : PySem.W.keepIn X.K (.ref fA) = true) (hb : Binds X.K fd ps [])
    (ha : DG F W0 X (e :: es) g) (hdb : (x == ("__debug__" : Str)) = false := by decide) (he : starEach (e :: es) X.env = (false, eval e X.env) :: starEach es X.env := by rfl) (hpl : (backTo pos (starEach es X.env)).any (·.1) = false := by rfl) :
    DE F W0 X (.Call (.Name x p) (e :: es) [] pos) (eCall ms f g) := by
  refine ⟨fun pins s σ H Q I h => ?_⟩
  refine wpAny_Call_Name_kw (ld_glob I hg hm ?_ hdb)
  refine PySem.W.callWith_K (h₀ := X.base) I.ok.mod.kin hk (thn (ha.run pos pins s σ H _ I (t_call h)) fun us s1 ⟨vs, H1, I1, r, q⟩ => ⟨I1.kIn, ?_⟩) he hpl
  have q2 : spF ⟨F.K, F.CE, none⟩ ms f vs H1 Q (WE W0 σ) := spF_cf (F := F) (F' := ⟨F.K, F.CE, none⟩) rfl rfl q
  have hl : us.length = ps.length := by rw [← r.length]; exact G.len _ _ _ _ q2
  have b := hb s1 us I1.kIn (by rw [List.append_nil]; exact hl)
  rw [List.append_nil] at b
  refine wpAny_call (codeAny_mono (G.run X.A X.stack s1 H1 ⟨us, []⟩ us vs Q (WE W0 σ) hr I1.env0 b r q2) fun r s' hq => ?_)
  cases r with
  | error e =>
    obtain ⟨_, _, _, _, _, _, _, _, _, _, _, _, z⟩ := hq
    exact z.elim
  | ok fl =>
    cases fl with
    | ret u => exact I1.after hq
    | next => exact False.elim hq
    | brk => exact False.elim hq
    | cont => exact False.elim hq
end
end Dl

/-! D18: enumerate of a list, of a tuple. -/
namespace Dl
open PySem PySem.Spec PyProof.Rows L2

set_option maxHeartbeats 1000000 in
theorem meets_enumerate_new1 {v : Value} {o : Obj} {H : Heap → Prop} (B : Begins v o H) :
    Meets (Builtin.«enumerate.__new__» ⟨[.type "enumerate", v], []⟩) (fun _ R s => H s.heap ∧
      R (.ok (.ret (.ref (s.heap.push o).objs.size))) { s with heap := (s.heap.push o).push { cls := .type "enumerate", data := .fields #[.none, .bool false, .ref s.heap.objs.size, rawInt 0, .none, .none] } }) :=
  .of_wp fun prog w A R s h => by
    obtain ⟨hp, g, d, tk, os⟩ := s; obtain ⟨h1, h⟩ := h
    have hsub := sub_enumerate
    have q1 : ∀ {A' : Around} {E : Value → Shared → Prop} {Q : Value → Shared → Prop}, Q (.ref hp.objs.size) ⟨hp.push o, g, d, tk, os⟩ → wpAny (model prog w) A' (pyIter v) Q E ⟨hp, g, d, tk, os⟩ :=
      fun q => B.iter prog w _ _ ⟨hp, g, d, tk, os⟩ _ h1 q
    wp_walk using q1
    refine wpAny_stack_any fun st => wpAny_pure ?_
    split
    · rename_i c _ _ _ _ _
      cases (c == Value.type "enumerate")
      · wp_walk using q1
        exact ⟨_, rfl, h⟩
      · wp_walk using q1
        exact ⟨_, rfl, h⟩
    · wp_walk using q1
      exact ⟨_, rfl, h⟩
section
variable {prog : Program} {w : World} {A : Around} {E : Value → Shared → Prop} {s : Shared}
theorem call_enumerate_B {v : Value} {o : Obj} {H : Heap → Prop} {Q : Value → Shared → Prop} (B : Begins v o H) (h1 : H s.heap)
    (h : ∀ h', IsEnum h' (s.heap.objs.size + 1) s.heap.objs.size 0 .none → h'.get? s.heap.objs.size = some o → h'.objs.size = s.heap.objs.size + 2 →
      (∀ b o, s.heap.get? b = some o → h'.get? b = some o) → Q (.ref (s.heap.objs.size + 1)) { s with heap := h' }) :
    wpAny (model prog w) A (call (.type "enumerate") [v]) Q E s := by
  refine callType_new F.called_enumerate (by decide) (F.typeCall_enumerate_1 _) (F.newCall_enumerate_1 _) (fun obj => F.args_object_init_2 obj _) F.entry_enumerate_new
    (meets_enumerate_new1 B) ⟨h1, ?_⟩
  have hz : (s.heap.push o).objs.size = s.heap.objs.size + 1 := Heap.size_push ..
  show _ ∧ _
  rw [hz]
  have he : IsEnum ((s.heap.push o).push { cls := .type "enumerate", data := .fields #[.none, .bool false, .ref s.heap.objs.size, rawInt 0, .none, .none] }) (s.heap.objs.size + 1) s.heap.objs.size 0 .none := by
    have := Heap.get?_push_size (s.heap.push o) (o := { cls := .type "enumerate", data := .fields #[.none, .bool false, .ref s.heap.objs.size, rawInt 0, .none, .none] }) rfl
    rw [hz] at this; exact this
  refine ⟨⟨_, he, rfl⟩, h _ he (Heap.get?_push_of_some _ (Heap.get?_push_size _ B.free)) (by rw [Heap.size_push, hz]) fun b o x => Heap.get?_push_of_some _ (Heap.get?_push_of_some _ x)⟩
end
/-- the tuple at a, each item in a new pair -/
def IteT (K : PySem.W.Frag) (a : Addr) : It :=
  ⟨fun i H => ∃ (xs : List V) (x : V), SqT K H a xs ∧ xs[i]? = some x, fun i H v H' => ∃ T x, v = .ref T ∧ H T = none ∧ H' = upd H T (.tup [.int (i : Nat), x]) ∧ ∀ xs, SqT K H a xs → xs[i]? = some x, fun i H => ∃ xs : List V, SqT K H a xs ∧ xs.length ≤ i⟩
theorem enum_endT {prog : Program} {w : World} {A : Around} {E : Value → Shared → Prop} {s : Shared} {e it l : Addr} {i : Nat} {items : Array Value} {old : Value} {Q : Option Value → Shared → Prop} (hh : A.handled = none)
    (he : IsEnum s.heap e it i old) (hit : s.heap.IsTupleIter it l i) (hl : s.heap.IsTuple l items) (hx : items.size ≤ i)
    (hQ : ∀ h', Heap.ExtBut it s.heap h' → Q none { s with heap := h' }) : wpAny (model prog w) A (pyNext (.ref e)) Q E s := by
  have hT : s.TypeIs (.ref e) "enumerate" := ⟨_, he, rfl⟩
  unfold pyNext
  refine wpAny_bind (wpAny_attempt (wpAny_callSpecial?_slot (name := Str.ofString "__next__") hT F.slot_enumerate_next
    (wpAny_call_entry F.slot_enumerate_next hT F.entry_enumerate_next ?_ (F.args_enumerate_next_1 _))))
  show wpAny _ _ (field (.ref e) 2 >>= _) _ _ _
  refine wpAny_bind (wpAny_field he rfl (x := .ref it) rfl ?_)
  refine wpAny_bind (wpAny_nextOf_tuple_end hh hit hl (by simpa using hx) fun h' x he' hx' => ?_)
  obtain ⟨o, ho, hc⟩ := hx'
  refine wpAny_bind (wpAny_isInstance (T := "StopIteration") (b := true) ⟨o, ho, hc⟩ isSubtype_stop ?_)
  exact wpAny_pure (hQ _ he')
theorem turn_enumT {P : Program} {w : World} {K : PySem.W.Frag} {elts : List Expr} {kk : Nat} {tpos : Pos} (a e it : Addr) (hai : a ≠ it) (hae : a ≠ e) :
    Turn P w K (.Tuple elts kk tpos) (IteT K a) [e, it] e (fun i h => (∃ old, IsEnum h e it ((i : Nat) : Int) old) ∧ h.IsTupleIter it a i ∧ e ≠ it) where
  mem := by simp
  obj := fun i h st b hb => by
    obtain ⟨⟨old, he⟩, ⟨o, ho, hc, hd⟩, _⟩ := st
    have e' : b = e ∨ b = it := by simpa using hb
    rcases e' with z | z
    · rw [z]; exact ⟨_, he, fun v q => nomatch q⟩
    · rw [z]; exact ⟨o, ho, fun v q => by rw [hd] at q; cases q⟩
  keep := fun i h h' st k => let ⟨⟨old, he⟩, hi, hne⟩ := st; ⟨⟨old, k e (by simp) _ he⟩, hi.at fun o q => k it (by simp) o q, hne⟩
  item := by
    intro X hP hw hK hc i pins s σ H E I hf st hg
    subst hP hw hK
    obtain ⟨⟨old, he⟩, hit, hne⟩ := st
    obtain ⟨xs, x, hq, hx⟩ := hg
    obtain ⟨its, rv, p, hz⟩ := I.tuple hq
    obtain ⟨u, hu, ru⟩ := rv.get hx
    have hel : e < s.heap.objs.size := Heap.lt_size he
    have hil : it < s.heap.objs.size := by obtain ⟨_, q, _⟩ := hit; exact Heap.lt_size q
    have D := Draws.tuple (prog := X.prog) (w := X.w) (A := X.A.in1) (I.ok.hd hc) it a hai its.toArray
    have hlt : i < its.toArray.size := by
      have := (List.getElem?_eq_some_iff.mp hu).1
      simpa using this
    refine wpAny_pyNext_enum_itemD (i := i) D he ⟨hit, p⟩ hlt hne (by simp only [List.mem_cons, not_or, List.not_mem_nil, not_false_iff, and_true]; exact ⟨hne, Ne.symm hae⟩) fun u' h' tk hu' ho hit' hT hsz hk => ?_
    have eu : u' = u := by
      have h1 : its.toArray[i]? = some u' := hu'
      have h2 : its.toArray[i]? = some u := by simpa using hu
      rw [h2] at h1
      exact (Option.some.inj h1).symm
    subst eu
    refine ⟨_, rfl, wpAny_letOwnedTupleGo_enum (s := { s with heap := h', toks := tk + 1 }) ho fun h'' he' sb => ?_⟩
    have hT2 : h''.get? s.heap.objs.size = some { cls := .type "tuple", data := .seq #[.int i tk, u'] } := (sb.2 _ (Nat.ne_of_gt hel)).trans hT
    have new : ObjOk X.prog X.w (upd H s.heap.objs.size (.tup [.int (i : Nat), x])) h'' s.heap.objs.size (.tup [.int (i : Nat), x]) :=
      ⟨by show 2 ≤ sizeLine; decide, [.int i tk, u'], .cons ⟨_, rfl⟩ (.cons ru .nil), ⟨_, hT2, rfl, _, rfl⟩⟩
    have I1 : Inv X pins σ (upd H s.heap.objs.size (.tup [.int (i : Nat), x])) { s with heap := h'', toks := tk + 1 } :=
      I.turnedNew (ch := [e, it]) (fun b ob hb q => (sb.2 b (fun z => hb (by simp [z]))).trans (hk b ob (fun z => hb (by simp [z])) (fun z => hb (by simp [z])) q)) hf (Nat.le_refl _) new
    refine ⟨.ref s.heap.objs.size, _, I1, rfl, ⟨_, x, rfl, I.hok.fresh (Nat.le_refl _), rfl, fun ys hy => by rw [I.tuple_inj hy hq]; exact hx⟩, ⟨⟨u', ?_⟩, hit'.1.at fun o q => (sb.2 it (Ne.symm hne)).trans q, hne⟩, fun b hb => ?_⟩
    · have e1 : ((i + 1 : Nat) : Int) = (i : Int) + 1 := by omega
      rw [e1]; exact he'
    · have hb' : b < s.heap.objs.size := by
        have e' : b = e ∨ b = it := by simpa using hb
        rcases e' with z | z
        · rw [z]; exact hel
        · rw [z]; exact hil
      rw [upd_ne (Nat.ne_of_lt hb')]
      exact (hf b hb).1
  done := by
    intro X hP hw hK hc i pins s σ H E I hf st hg
    subst hP hw hK
    obtain ⟨⟨old, he⟩, hit, hne⟩ := st
    obtain ⟨xs, hq, hx⟩ := hg
    obtain ⟨its, rv, p, hz⟩ := I.tuple hq
    obtain ⟨f0, f1, f2, f3, f4, f5⟩ := hf it (by simp)
    have hl := rv.length
    have D := Draws.tuple (prog := X.prog) (w := X.w) (A := X.A.in1) (I.ok.hd hc) it a hai its.toArray
    have key : its.toArray.size ≤ i := by
      rw [List.size_toArray]
      omega
    exact enum_endT (I.ok.hd hc) he hit p key fun h' eb => ⟨rfl, I.turned (t' := s.toks) (fun b o hb q => eb b o hb q) f0 f1 f3 f4 f5⟩
  self := fun A i s Q E st h => let ⟨⟨_, he⟩, _⟩ := st; wpAny_pyIter_enum he h
/-- enumerate(e), e a list or a tuple -/
def iEnumS (K : PySem.W.Frag) (ta : TE) : TI := fun σ H R => ta σ H fun x H1 => ∃ a, [x] = [V.ref a] ∧ (((∃ xs, SqL K H1 a xs) ∧ R (Ite K a) H1) ∨ ((∃ xs, SqT K H1 a xs) ∧ R (IteT K a) H1))
theorem pi_enumS {X : Cx} {e : Expr} {te : TE} {p pos tpos : Pos} {elts : List Expr} {kk : Nat} (hg : Gl X "enumerate") (hm : X.mg "enumerate" = none) (he : PE X e te) (hs : starEach [e] X.env = [(false, eval e X.env)] := by rfl) :
    PI X (.Tuple elts kk tpos) (.Call (.Name "enumerate" p) [e] [] pos) (iEnumS X.K te) := by
  refine ⟨fun pins s σ H R I h => ?_⟩
  have ha : PA X [e] (tCons te tNil) := pa_cons he pa_nil (by rw [hs]; rfl)
  have h' : tCons te tNil σ H fun vs H1 => ∃ a, vs = [V.ref a] ∧ (((∃ xs, SqL X.K H1 a xs) ∧ R (Ite X.K a) H1) ∨ ((∃ xs, SqT X.K H1 a xs) ∧ R (IteT X.K a) H1)) := by
    exact h
  refine Call_ (ld_blt I hg hm boot_enumerate (PyProof.Rows.callWith_type1 (thn (ha.run pos pins s σ H _ I h') fun us s1 ⟨vs, H1, I1, r1, q1⟩ => ?_) hs rfl))
  obtain ⟨a, ex, q⟩ := q1
  subst ex
  cases r1 with
  | cons r rr =>
    cases rr
    cases r
    have hle : ∀ b, b = s1.heap.objs.size + 1 ∨ b = s1.heap.objs.size → s1.heap.objs.size ≤ b := fun b e' => by
      rcases e' with z | z
      · rw [z]; exact Nat.le_add_right _ _
      · rw [z]; exact Nat.le_refl _
    rcases q with ⟨⟨xs, hq⟩, q⟩ | ⟨⟨xs, hq⟩, q⟩
    · obtain ⟨its, rv, p', hz⟩ := I1.list hq
      refine call_enumerate_list p'.isList fun h' he hit hsz hk => wpAny_pyIter_enum he ?_
      have I2 : Inv X pins σ H1 { s1 with heap := h' } := I1.kept (t' := s1.toks) hk
      exact ⟨s1.heap.objs.size + 1, [s1.heap.objs.size + 1, s1.heap.objs.size], _, _, H1, rfl, I2, turn_enum a (s1.heap.objs.size + 1) s1.heap.objs.size, ⟨⟨.none, he⟩, hit, Nat.succ_ne_self _⟩, fun b hb => I1.fpOk (hle b (by simpa using hb)) (I1.hok.fresh (hle b (by simpa using hb))), q⟩
    · obtain ⟨its, rv, p', hz⟩ := I1.tuple hq
      have hal : a < s1.heap.objs.size := by
        obtain ⟨o, e1, _⟩ := p'
        exact Heap.lt_size e1
      refine call_enumerate_B (begins_tuple a its.toArray) (show s1.heap.IsTuple a its.toArray from p') fun h' he hit hsz hk => wpAny_pyIter_enum he ?_
      have I2 : Inv X pins σ H1 { s1 with heap := h' } := I1.kept (t' := s1.toks) hk
      exact ⟨s1.heap.objs.size + 1, [s1.heap.objs.size + 1, s1.heap.objs.size], _, _, H1, rfl, I2, turn_enumT a (s1.heap.objs.size + 1) s1.heap.objs.size (Nat.ne_of_lt hal) (Nat.ne_of_lt (Nat.lt_succ_of_lt hal)), ⟨⟨.none, he⟩, ⟨_, hit, rfl, rfl⟩, Nat.succ_ne_self _⟩,
        fun b hb => I1.fpOk (hle b (by simpa using hb)) (I1.hok.fresh (hle b (by simpa using hb))), q⟩

/-! ### with data -/
def numbered : List D → Nat → List D
  | [], _ => []
  | d :: ds, n => .tup [.int n, d] :: numbered ds (n + 1)
theorem numbered_length : ∀ (ds : List D) (n : Nat), (numbered ds n).length = ds.length
  | [], _ => rfl
  | d :: ds, n => by rw [numbered, List.length_cons, List.length_cons, numbered_length ds]
theorem numbered_get : ∀ (ds : List D) (n i : Nat) (d : D), (numbered ds n)[i]? = some d → ∃ x, ds[i]? = some x ∧ d = .tup [.int ((n + i : Nat) : Int), x]
  | [], _, _, _, h => by simp [numbered] at h
  | x :: ds, n, 0, d, h => by
    simp only [numbered, List.getElem?_cons_zero, Option.some.injEq] at h
    exact ⟨x, rfl, h.symm⟩
  | x :: ds, n, i + 1, d, h => by
    rw [numbered, List.getElem?_cons_succ] at h
    obtain ⟨y, h1, h2⟩ := numbered_get ds (n + 1) i d h
    refine ⟨y, by simpa using h1, ?_⟩
    rw [h2]
    congr 3
    omega
section
variable {F : Cf} {W : WX} {X : Cx} {e : Expr} {fe : ESem}
theorem pair_new {O' : Addr → Prop} {H' : Hp} {T : Addr} {i : Nat} {x : V} {d : D} (tr : ∀ a, O' a → ∃ o, H' a = some o) (hT : H' T = none) (dx : Den F O' H' x d) : Same H' (upd H' T (.tup [.int (i : Nat), x])) ∧ Den F O' (upd H' T (.tup [.int (i : Nat), x])) (.ref T) (.tup [.int (i : Nat), d]) := by
  have sm : Same H' (upd H' T (.tup [.int (i : Nat), x])) := same_new hT
  refine ⟨sm, .ob (.tup upd_same (.cons (.int _) (.cons (dx.grow sm) .nil))) fun z => ?_⟩
  obtain ⟨o, ho⟩ := tr T z
  rw [hT] at ho
  cases ho
theorem seqs_el {O : Addr → Prop} {H : Hp} {a : Addr} {xs : List V} {ds : List D} (r : Rd H a (.lst xs)) (n : ¬ O a) (dd : Dens F O H xs ds) : Seqs F O H (Ite F.K a) (numbered ds 0) := fun O' H' hk tr i => by
  have r' : SqL F.K H' a xs := .inl (rd_keep hk n r)
  have dd' := dd.mono hk
  refine ⟨fun d hd => ?_, fun hi => ⟨xs, r', by rw [numbered_length] at hi; rw [dd.length]; exact hi⟩⟩
  obtain ⟨y, hy, e⟩ := numbered_get ds 0 i d hd
  obtain ⟨v, hv, dv⟩ := dd'.get hy
  refine ⟨⟨xs, v, r', hv⟩, fun x H2 hyl => ?_⟩
  obtain ⟨T, x', rfl, hT, rfl, hx⟩ := hyl
  have ex := (hx xs r').symm.trans hv
  cases ex
  rw [e, Nat.zero_add]
  exact pair_new tr hT dv
theorem seqs_et {O : Addr → Prop} {H : Hp} {a : Addr} {xs : List V} {ds : List D} (r : ∀ (O' : Addr → Prop) (H' : Hp), (∀ a o, ¬ O a → H a = some o → H' a = some o ∧ ¬ O' a) → SqT F.K H' a xs) (dd : Dens F O H xs ds) : Seqs F O H (IteT F.K a) (numbered ds 0) := fun O' H' hk tr i => by
  have r' : SqT F.K H' a xs := r O' H' hk
  have dd' := dd.mono hk
  refine ⟨fun d hd => ?_, fun hi => ⟨xs, r', by rw [numbered_length] at hi; rw [dd.length]; exact hi⟩⟩
  obtain ⟨y, hy, e⟩ := numbered_get ds 0 i d hd
  obtain ⟨v, hv, dv⟩ := dd'.get hy
  refine ⟨⟨xs, v, r', hv⟩, fun x H2 hyl => ?_⟩
  obtain ⟨T, x', rfl, hT, rfl, hx⟩ := hyl
  have ex := (hx xs r').symm.trans hv
  cases ex
  rw [e, Nat.zero_add]
  exact pair_new tr hT dv
def iEnumD (fe : ESem) : ISem := fun env => (fe env).bind fun d e1 => lift ((items d).map fun ds => numbered ds 0) e1
theorem di_enum {p pos tpos : Pos} {elts : List Expr} {kk : Nat} (hK : X.K = F.K) (hg : Gl X "enumerate") (hm : X.mg "enumerate" = none) (he : DE F W X e fe) (hs : starEach [e] X.env = [(false, eval e X.env)] := by rfl) :
    DI F W X (.Tuple elts kk tpos) (.Call (.Name "enumerate" p) [e] [] pos) (iEnumD fe) := .of (pi_enumS hg hm he hs) fun σ H R ⟨B, env, k, p⟩ => by
  rw [hK]
  refine ⟨B, env, k, p.split.imp fun d e1 H1 x1 k1 p1 v dv => ?_⟩
  obtain ⟨es, hes, q⟩ := Post.lift (e := e1) k1 p1
  obtain ⟨ds, hds, hq⟩ := Option.map_eq_some_iff.mp hes
  subst hq
  obtain ⟨a, xs, rfl, so, dd⟩ := seq_of dv hds
  refine ⟨a, rfl, ?_⟩
  cases so with
  | lst r n d1 => cases hds; exact .inl ⟨⟨xs, .inl r⟩, q _ (seqs_el r n d1)⟩
  | tup r n d1 => cases hds; exact .inr ⟨⟨xs, .inl r⟩, q _ (seqs_et (fun O' H' hk => .inl (rd_keep hk n r)) d1)⟩
  | tupK h d1 => cases hds; exact .inr ⟨⟨xs, h H1⟩, q _ (seqs_et (fun O' H' hk => h H') d1)⟩
end
end Dl

/-! D19: classes called, properties, len of an own object, is True, count, isinstance of two. -/
namespace Dl
open PySem PySem.Spec PyProof.Rows L2

/-! ### C(e, ..) -/
section
variable {X : Cx} {CX : CXT} {k : Nat} {f C : Addr} {fd : FuncData} {ps : List Str} {sp : Sp} {E : L2.St → XK} {x : Str} {p pos : Pos} {e : Expr} {es : List Expr} {t : TA}
def tMakeS (C : Addr) (sp : Sp) (E : L2.St → XK) (t : TA) : TE := fun σ H Q => t σ H fun vs H1 => ∀ x dx, H1 x = none → H1 dx = none → dx ≠ x →
  sp (.ref x :: vs) (upd (upd H1 dx (.own x)) x (.ins C dx [])) (fun v H2 => v = .non ∧ Q (.ref x) H2) (E σ)
theorem run_makeS {pins : List (Addr × Obj)} {σ : L2.St} {H : Hp} {s : Shared} {Q : VK} {us : List Value} {vs : List V} (M : Mk X.K C f) (F : FnOk X.prog X.w X.K X.mg X.base CX k f fd ps sp) (hr : Room (k + 1) X.A) (hb : Binds X.K fd ps [])
    (hx : PassesAt CX X σ (E σ)) (I : Inv X pins σ H s) (r : Vals vs us)
    (h : ∀ x dx, H x = none → H dx = none → dx ≠ x → sp (.ref x :: vs) (upd (upd H dx (.own x)) x (.ins C dx [])) (fun v H2 => v = .non ∧ Q (.ref x) H2) (E σ)) :
    wpAny (model X.prog X.w) X.A (call (.ref C) us) (EP X pins σ Q) X.xe s := by
  have hq := h (s.heap.objs.size + 1) s.heap.objs.size (I.hok.fresh (Nat.le_succ _)) (I.hok.fresh (Nat.le_refl _)) (Nat.ne_of_lt (Nat.lt_succ_self _))
  have I2 := Inv.made (C := C) I
  have r2 : Vals (V.ref (s.heap.objs.size + 1) :: vs) (Value.ref (s.heap.objs.size + 1) :: us) := .cons rfl r
  have hl : (Value.ref (s.heap.objs.size + 1) :: us ++ []).length = ps.length := by
    have e := r2.length
    rw [F.len _ _ _ _ hq] at e
    rw [List.append_nil]
    exact e.symm
  have b := hb _ (Value.ref (s.heap.objs.size + 1) :: us) I2.kIn hl
  rw [List.append_nil] at b
  refine wpAny_call (make_map (f := f) I.kIn M.makes M.init (beq_iff_eq.mp M.fn) (codeAny_mono (F.run _ X.stack _ _ ⟨Value.ref (s.heap.objs.size + 1) :: us, []⟩ (Value.ref (s.heap.objs.size + 1) :: us) _ _ (E σ) (hr.make C us [])
    (I2.env0.make C us []) b r2 hq) fun r s' hq' => ?_))
  cases r with
  | error e => exact hx pins _ _ e s' I2 hq'
  | ok fl =>
    cases fl with
    | ret u =>
      obtain ⟨v, H', I3, rv, ev, q3⟩ := I2.after hq'
      subst ev
      exact ⟨rv, ⟨V.ref (s.heap.objs.size + 1), H', I3, rfl, q3⟩⟩
    | next => exact False.elim hq'
    | brk => exact False.elim hq'
    | cont => exact False.elim hq'
theorem pe_makeS (M : Mk X.K C f) (F : FnOk X.prog X.w X.K X.mg X.base CX k f fd ps sp) (hr : Room (k + 1) X.A) (hg : Gl X x) (hm : X.mg x = some (.ref C)) (hb : Binds X.K fd ps []) (hx : ∀ σ, PassesAt CX X σ (E σ))
    (ha : PA X (e :: es) t) (hdb : (x == ("__debug__" : Str)) = false := by decide) (he : starEach (e :: es) X.env = (false, eval e X.env) :: starEach es X.env := by rfl) (hpl : (backTo pos (starEach es X.env)).any (·.1) = false := by rfl) :
    PE X (.Call (.Name x p) (e :: es) [] pos) (tMakeS C sp E t) := by
  refine ⟨fun pins s σ H Q I h => ?_⟩
  refine wpAny_Call_Name_kw (ld_glob I hg hm ?_ hdb)
  refine PySem.W.callWith_K (h₀ := X.base) I.ok.mod.kin M.kp (thn (ha.run pos pins s σ H _ I h) fun us s1 ⟨vs, H1, I1, r, q⟩ => ⟨I1.kIn, ?_⟩) he hpl
  exact run_makeS M F hr hb (hx σ) I1 r q
end
/-- the modes of an __init__ with n further parameters -/
def iniM (n : Nat) : List Mode := .m :: List.replicate n .v
def eMake (c : Str) (n : Nat) (f : FSem) (h : ASem) : ESem := fun env => (h env).bind fun ds e1 => if ds.length = n then match f (.ins c [] [] :: ds) with
    | .ret .non [o] => .ok o e1
    | .exc x ns es _ => .exc x ns es e1
    | _ => .stuck
  else .stuck
theorem argsV {F : Cf} {B : Addr → Prop} {H : Hp} : ∀ {vs : List V} {ds : List D}, Dens F B H vs ds → ArgsOk F B H (List.replicate ds.length .v) vs ds
  | _, _, .nil => .nil
  | _, _, .cons x r => .v x (argsV r)
theorem lentV : ∀ (n : Nat) (vs : List V), lentA (List.replicate n .v) vs = [] ∧ mutA (List.replicate n .v) vs = []
  | 0, _ => ⟨rfl, rfl⟩
  | n + 1, [] => ⟨rfl, rfl⟩
  | n + 1, v :: vs => lentV n vs
section
variable {F : Cf} {W : WX} {X : Cx} {e : Expr} {es : List Expr} {h : ASem} {f : FSem} {pos p : Pos} {k n : Nat} {fA : Addr} {fd : FuncData} {ps : List Str} {x c : Str}
theorem t_make {σ : L2.St} {H : Hp} {Q : VK} (q : T F W (eMake c n f h) σ H Q) : tMakeS (F.CE c) (spF F (iniM n) f) (WE W) (TAs F W h) σ H Q := by
  obtain ⟨B, env, k, p⟩ := q
  refine ⟨B, env, k, p.split.imp fun ds e1 H1 x1 k1 p1 vs dvs a dx ha hdx hne => ?_⟩
  by_cases hl : ds.length = n
  case neg =>
    rw [if_neg hl] at p1
    exact p1.elim
  rw [if_pos hl] at p1
  subst hl
  have s1 : Same H1 (upd (upd H1 dx (.own a)) a (.ins (F.CE c) dx [])) := fun b o e => by
    rw [upd_ne (ne_of_none e ha), upd_ne (ne_of_none e hdx)]
    exact e
  have hk : ∀ b o, ¬ Os B e1 σ b → H1 b = some o → (upd (upd H1 dx (.own a)) a (.ins (F.CE c) dx [])) b = some o ∧ ¬ (Os B e1 σ b ∨ b = a) := fun b o n e => ⟨s1 b o e, fun z => z.elim n (ne_of_none e ha)⟩
  obtain ⟨l1, l2⟩ := lentV ds.length vs
  refine ⟨fun b => Os B e1 σ b ∨ b = a, .ins c [] [] :: ds, fun b z => ?_, .m (.inr rfl) (.ins upd_same rfl .nil) (argsV (dvs.mono hk)), ?_, ?_⟩
  · rcases z with z | z
    · obtain ⟨o, e⟩ := k1.trkO z
      exact ⟨o, s1 _ _ e⟩
    · subst z
      exact ⟨_, upd_same⟩
  · show (a :: lentA (List.replicate ds.length .v) vs).Nodup
    rw [l1]
    simp
  have ext : ∀ H2, FExt (mutA (iniM ds.length) (.ref a :: vs)) (upd (upd H1 dx (.own a)) a (.ins (F.CE c) dx [])) H2 → Same H1 H2 := fun H2 x2 b o e => by
    refine x2.keep b o (fun z => ?_) (s1 b o e)
    have z : b ∈ a :: mutA (List.replicate ds.length .v) vs := z
    rw [l2] at z
    exact ne_of_none e ha (List.mem_singleton.mp z)
  have no : ¬ Os B e1 σ a := k1.newO ha
  cases hf : f (.ins c [] [] :: ds) with
  | stuck =>
    rw [hf] at p1
    exact p1.elim
  | exc xc ns es o =>
    simp only [hf] at p1
    intro dx' H2 x2 ex oo
    have sm := ext H2 x2
    refine p1 dx' H2 (Ext.new sm) (k1.grow sm) ?_
    rcases ex with ex | ⟨b, fs, g1, g2, g3, g4, g5⟩
    · exact .inl ex
    · exact .inr ⟨b, fs, g1, fun z => g2 (.inl z), g3, g4, g5.anti fun a z => .inl z⟩
  | ret d o =>
    simp only [hf] at p1
    intro v H2 x2 dv oo
    have sm := ext H2 x2
    cases d with
    | non =>
      refine ⟨den_non dv, ?_⟩
      cases o with
      | nil => exact p1.elim
      | cons o os =>
        cases os with
        | cons _ _ => exact p1.elim
        | nil =>
          cases oo with
          | m w r => exact p1 H2 (Ext.new sm) (k1.grow sm) _ (.ob (w.anti fun a z => .inl z) no)
    | _ => exact p1.elim
theorem d_make (tk : Takes X W) (M : Mk X.K (F.CE c) fA) (G : FnOk X.prog X.w X.K X.mg X.base (L2.CX X.prog X.w) k fA fd ps (spF F (iniM n) f)) (hr : Room (k + 1) X.A) (hg : Gl X x) (hm : X.mg x = some (.ref (F.CE c))) (hb : Binds X.K fd ps [])
    (ha : DA F W X (e :: es) h) (hdb : (x == ("__debug__" : Str)) = false := by decide) (he : starEach (e :: es) X.env = (false, eval e X.env) :: starEach es X.env := by rfl) (hpl : (backTo pos (starEach es X.env)).any (·.1) = false := by rfl) :
    DE F W X (.Call (.Name x p) (e :: es) [] pos) (eMake c n f h) := .of (pe_makeS M G hr hg hm hb (fun σ => passAt tk σ) ha hdb he hpl) fun _ _ _ q => t_make q

/-! ### a property, len of an own object: nothing is raised in them -/
def eGet (cs : List Str) (f : FSem) (fe : ESem) : ESem := fun env => (fe env).bind fun d e1 => match d with
  | .ins c _ _ => if cs.contains c = true then match f [d] with
      | .ret r [] => .ok r e1
      | _ => .stuck
    else .stuck
  | _ => .stuck
structure PropC (F : Cf) (X : Cx) (c m : Str) (p g : Addr) : Prop where
  cl : Cls X.K (F.CE c)
  pr : PropOf X.K (F.CE c) m p g
theorem get_sp {B : Addr → Prop} {env : En} {σ : L2.St} {H : Hp} {Q : VK} {v : V} {d r : D} (k : EnvOk F B env σ H) (dv : Den F (Os B env σ) H v d) (hf : f [d] = .ret r []) (q : ∀ v' H', Same H H' → Den F (Os B env σ) H' v' r → Q v' H') : spF F [.v] f [v] H Q E0 := by
  refine ⟨Os B env σ, [d], fun a => k.trkO, .v dv .nil, List.nodup_nil, ?_⟩
  rw [hf]
  exact fun v' H' x dv' oo => q v' H' (fun b o e => x.keep b o (fun z => nomatch z) e) dv'
theorem d_prop {cs : List Str} {m : Str} {fe : ESem} {pr g : Addr} (he : DE F W X e fe) (hT : ∀ c ∈ cs, PropC F X c m pr g) (G : FnOk X.prog X.w X.K X.mg X.base (L2.CX X.prog X.w) k g fd ps (spF F [.v] f)) (hr : Room (k + 1) X.A) (hb : Binds X.K fd ps [])
    (hab : attributeBase e m X.env (eval e X.env) = eval e X.env := by rfl) : DE F W X (.Attribute e m pos) (eGet cs f fe) := by
  refine ⟨fun pins s σ H Q I ⟨B, env, k0, p0⟩ => ?_⟩
  have key : T F W fe σ H fun v H1 => ∃ a c dx fs, v = .ref a ∧ H1 a = some (.ins (F.CE c) dx fs) ∧ c ∈ cs ∧ spF F [.v] f [v] H1 Q E0 :=
    ⟨B, env, k0, p0.split.imp fun d e1 H1 x1 k1 p1 v dv => by
      cases d with
      | ins c ns ds =>
        have p1 : Post F W B σ e1 H1 (fun d e' H' => ∀ v, Den F (Os B e' σ) H' v d → Q v H') (if cs.contains c = true then match f [.ins c ns ds] with
            | .ret r [] => .ok r e1
            | _ => .stuck
          else .stuck) := p1
        by_cases hc : cs.contains c = true
        · rw [if_pos hc] at p1
          obtain ⟨a, dx, fs, rfl, ha, _, _⟩ := DenP.ins (.inl dv)
          refine ⟨a, c, dx, fs, rfl, ha, by simpa using hc, ?_⟩
          cases hf : f [.ins c ns ds] with
          | ret r o =>
            simp only [hf] at p1
            cases o with
            | nil => exact get_sp k1 dv hf fun v' H' sm dv' => p1 H' (Ext.new sm) (k1.grow sm) v' dv'
            | cons _ _ => exact p1.elim
          | exc _ _ _ _ =>
            simp only [hf] at p1
            exact p1.elim
          | stuck =>
            simp only [hf] at p1
            exact p1.elim
        · rw [if_neg hc] at p1
          exact p1.elim
      | _ => exact p1.elim⟩
  refine attr_of hab (thn (he.run pins s σ H _ I key) fun u s1 ⟨v, H1, I1, rx, a, c, dx, fs, ex, ea, hc, q⟩ => ?_)
  subst ex
  obtain rfl : u = Value.ref a := rx
  obtain ⟨cl, hp⟩ := hT c hc
  exact getprop_ok (dvs := []) (ds := []) I1 ea cl hp G hr hb .nil passL q
/-- what a class's __len__ is -/
structure LenC (F : Cf) (X : Cx) (c : Str) (g : Addr) : Prop where
  at_ : PySem.W.findIn X.K (.ref (F.CE c)) "__len__" = some (some (.ref g))
  fn : PySem.W.isFn X.K (.ref g) = true
def eLenO (cs : List Str) (f : FSem) (fe : ESem) : ESem := fun env => (fe env).bind fun d e1 => match d with
  | .ins c _ _ => if cs.contains c = true then match f [d] with
      | .ret (.int i) [] => if 0 ≤ i ∧ i < 2 ^ 63 then .ok (.int i) e1 else .stuck
      | _ => .stuck
    else .stuck
  | _ => .stuck
theorem d_lenO {cs : List Str} {fe : ESem} {g : Addr} (hg : Gl X "len") (hm : X.mg "len" = none) (he : DE F W X e fe) (hT : ∀ c ∈ cs, LenC F X c g) (G : FnOk X.prog X.w X.K X.mg X.base (L2.CX X.prog X.w) k g fd ps (spF F [.v] f)) (hr : Room (k + 1) X.A) (hb : Binds X.K fd ps [])
    (hs : starEach [e] X.env = (false, eval e X.env) :: starEach [] X.env := by rfl) (hpl : (backTo pos (starEach [] X.env)).any (·.1) = false := by rfl) : DE F W X (.Call (.Name "len" p) [e] [] pos) (eLenO cs f fe) := by
  refine ⟨fun pins s σ H Q I ⟨B, env, k0, p0⟩ => ?_⟩
  have key : T F W fe σ H fun v H1 => ∃ a c dx fs, v = .ref a ∧ H1 a = some (.ins (F.CE c) dx fs) ∧ c ∈ cs ∧ spF F [.v] f [v] H1 (fun v' H' => ∃ i, v' = .int i ∧ (0 ≤ i ∧ i < 2 ^ 63) ∧ Q (.int i) H') E0 :=
    ⟨B, env, k0, p0.split.imp fun d e1 H1 x1 k1 p1 v dv => by
      cases d with
      | ins c ns ds =>
        have p1 : Post F W B σ e1 H1 (fun d e' H' => ∀ v, Den F (Os B e' σ) H' v d → Q v H') (if cs.contains c = true then match f [.ins c ns ds] with
            | .ret (.int i) [] => if 0 ≤ i ∧ i < 2 ^ 63 then .ok (.int i) e1 else .stuck
            | _ => .stuck
          else .stuck) := p1
        by_cases hc : cs.contains c = true
        · rw [if_pos hc] at p1
          obtain ⟨a, dx, fs, rfl, ha, _, _⟩ := DenP.ins (.inl dv)
          refine ⟨a, c, dx, fs, rfl, ha, by simpa using hc, ?_⟩
          cases hf : f [.ins c ns ds] with
          | ret r o =>
            simp only [hf] at p1
            cases r with
            | int i =>
              cases o with
              | nil =>
                have p1 : Post F W B σ e1 H1 (fun d e' H' => ∀ v, Den F (Os B e' σ) H' v d → Q v H') (if 0 ≤ i ∧ i < 2 ^ 63 then .ok (.int i) e1 else .stuck) := p1
                by_cases hi : 0 ≤ i ∧ i < 2 ^ 63
                · rw [if_pos hi] at p1
                  exact get_sp k1 dv hf fun v' H' sm dv' => ⟨i, den_int dv', hi, p1 H' (Ext.new sm) (k1.grow sm) _ (.int i)⟩
                · rw [if_neg hi] at p1
                  exact p1.elim
              | cons _ _ => exact p1.elim
            | _ => exact p1.elim
          | exc _ _ _ _ =>
            simp only [hf] at p1
            exact p1.elim
          | stuck =>
            simp only [hf] at p1
            exact p1.elim
        · rw [if_neg hc] at p1
          exact p1.elim
      | _ => exact p1.elim⟩
  refine wpAny_Call_Name_kw (ld_blt I hg hm boot_len ?_ (by decide) (by decide))
  have ha : PA X [e] (tCons (T F W fe) tNil) := pa_cons he pa_nil hs
  refine PyProof.Rows.callWith_builtin1 (thn (Q := AP X pins σ fun vs H1 => ∃ v, vs = [v] ∧ ∃ a c dx fs, v = .ref a ∧ H1 a = some (.ins (F.CE c) dx fs) ∧ c ∈ cs ∧ spF F [.v] f [v] H1 (fun v' H' => ∃ i, v' = .int i ∧ (0 ≤ i ∧ i < 2 ^ 63) ∧ Q (.int i) H') E0) (ha.run pos pins s σ H _ I ?_) fun us s1 ⟨vs, H1, I1, r1, v, ev, a, c, dx, fs, ex, ea, hc, q⟩ => ?_) hs hpl
  · obtain ⟨B, env, k1, p1⟩ := key
    exact ⟨B, env, k1, p1.imp fun d e1 H1 x1 k2 p2 v dv => ⟨v, rfl, p2 v dv⟩⟩
  · subst ev ex
    cases r1 with
    | cons r rr =>
      cases rr
      cases r
      obtain ⟨at_, fn⟩ := hT c hc
      obtain ⟨mA, O, _, _, _, _⟩ := ins_get I1.hok ea
      obtain ⟨od, J, _⟩ := O.look
      obtain ⟨m, fr⟩ := I1.fr
      have hl : ([Value.ref a] : List Value).length = ps.length := by
        rw [← G.len _ _ _ _ q]
        rfl
      have b := hb s1 [.ref a] I1.kIn (by rw [List.append_nil]; exact hl)
      rw [List.append_nil] at b
      refine PySem.W.len_K fr I1.ok.mod.kin J at_ fn (wpAny_call (codeAny_mono (G.run X.A.in1 X.stack s1 H1 ⟨[.ref a], []⟩ [.ref a] [.ref a] _ E0 hr.in1 I1.env0.in1 b (.cons rfl .nil) q) fun r s' hq => ?_))
      cases r with
      | error er => exact (passL (X := X) pins σ H1 s1 er s' I1 hq)
      | ok fl =>
        cases fl with
        | ret u =>
          obtain ⟨v, H', I3, rv, i, ev, hi, q3⟩ := I1.after hq
          subst ev
          obtain ⟨t, rfl⟩ := rv
          exact ⟨hi, .int i, H', I3.tok _, ⟨_, rfl⟩, q3⟩
        | next => exact False.elim hq
        | brk => exact False.elim hq
        | cont => exact False.elim hq
end
end Dl

/-! D20: dict comprehensions, dicts walked. -/
namespace Dl
open PySem PySem.Spec PyProof.Rows L2

def putP (ks : List Key) (ds : List D) (q : Key) (v : D) : List Key × List D := if hasK ks q = true then (ks, replD ks ds q v) else (ks ++ [q], ds ++ [v])
theorem putDct_eq (ks : List Key) (ds : List D) (q : Key) (v : D) : putDct ks ds q v = .dct (putP ks ds q v).1 (putP ks ds q v).2 := by
  unfold putDct putP
  split <;> rfl
theorem put_pair {F : Cf} {O : Addr → Prop} {H : Hp} {v : V} {d : D} (q : Key) {kvs : List (Key × V)} {ds : List D} (h : Den F O H v d) (dd : Dens F O H (kvs.map (·.2)) ds) :
    (putK kvs q v).map (·.1) = (putP (kvs.map (·.1)) ds q d).1 ∧ Dens F O H ((putK kvs q v).map (·.2)) (putP (kvs.map (·.1)) ds q d).2 ∧ (putK kvs q v).length ≤ kvs.length + 1 := by
  have hiff : (kvs.any fun kv => decide (kv.1 = q)) = hasK (kvs.map (·.1)) q := by
    unfold hasK
    rw [List.any_map]
    rfl
  refine ⟨?_, ?_, by have := length_putK kvs q v; omega⟩
  · unfold putP putK
    rw [hiff]
    by_cases z : hasK (kvs.map (·.1)) q = true
    · rw [if_pos z, if_pos z, List.map_map]
      apply List.map_congr_left
      intro kv _
      show (if kv.1 = q then (kv.1, v) else kv).1 = kv.1
      split <;> rfl
    · rw [if_neg z, if_neg z, List.map_append]
      rfl
  · unfold putP putK
    rw [hiff]
    by_cases z : hasK (kvs.map (·.1)) q = true
    · rw [if_pos z, if_pos z]
      exact repl_den q h dd
    · rw [if_neg z, if_neg z, List.map_append]
      exact dd.snoc h
def compK (tg : GSem) (g : BSem) (fk fe : ESem) (vs : List Nat) : List D → En → List Key × List D → Out (List Key × List D)
  | [], e, acc => .ok acc e
  | d :: ds, e, acc => match tg d e with
    | none => .stuck
    | some e1 => (g e1).calm.bind fun b e2 => if b = true then (fk e2).calm.bind fun kd e3 => match keyD kd with
        | none => .stuck
        | some q => (fe e3).calm.bind fun x e4 => compK tg g fk fe vs ds (wipeE e4 vs) (putP acc.1 acc.2 q x)
      else compK tg g fk fe vs ds (wipeE e2 vs) acc
def nDComp (vs : List Nat) (tg : GSem) (fi : ISem) (g : BSem) (fk fe : ESem) : En → Out (List Key × List D) := fun env => (fi env).bind fun ds e1 => if (small ds && clean e1 vs) = true then (compK tg g fk fe vs ds (wipeE e1 vs) ([], [])).bind fun xs e2 => .ok xs (back e1 e2 vs) else .stuck
def eDComp (vs : List Nat) (tg : GSem) (fi : ISem) (g : BSem) (fk fe : ESem) : ESem := fun env => (nDComp vs tg fi g fk fe env).bind fun xs e => .ok (.dct xs.1 xs.2) e
section
variable {F : Cf} {W : WX} {X : Cx} {fi : ISem} {gt : TG} {gs : GSem} {g : BSem} {fk fe : ESem}
theorem t_dcomp {vs : List Nat} {σ : L2.St} {H : Hp} {Q : VK} (ho : GOk F gt gs) (hw : ∀ (v : V) (σ : L2.St) (H : Hp) (Q : L2.St → Hp → Prop), gt v (wipe σ vs) H (fun σ2 H2 => wipe σ2 vs = wipe σ vs → Q σ2 H2) → gt v (wipe σ vs) H fun σ2 H2 => wipe σ2 vs = wipe σ vs ∧ Q σ2 H2)
    (h : TN' F W (eDComp vs gs fi g fk fe) σ H Q) :
    tDc (TIt F W fi) gt (TB F W0 g) (T F W0 fk) (T F W0 fe) vs σ H Q := by
  obtain ⟨B, env, k, p⟩ := h
  have p : Post F W B σ env H (fun d e' H' => ∀ p, H p = none → Fresh F B e' σ H' p d → Q (.ref p) H') ((nDComp vs gs fi g fk fe env).bind fun xs e => .ok (D.dct xs.1 xs.2) e) := p
  have p : Post F W B σ env H _ ((fi env).bind fun ds e1 => if (small ds && clean e1 vs) = true then (compK gs g fk fe vs ds (wipeE e1 vs) ([], [])).bind fun xs e2 => .ok xs (back e1 e2 vs) else .stuck) := p.split
  refine ⟨B, env, k, p.split.imp fun ds e1 H1 x1 k1 p1 J hJ D0 hD => ?_⟩
  by_cases hc : (small ds && clean e1 vs) = true
  case neg =>
    have p1 : Post F W B σ e1 H1 _ (if (small ds && clean e1 vs) = true then (compK gs g fk fe vs ds (wipeE e1 vs) ([], [])).bind fun xs e2 => .ok xs (back e1 e2 vs) else .stuck) := p1
    rw [if_neg hc] at p1
    exact p1.elim
  have p1 : Post F W B σ e1 H1 _ (if (small ds && clean e1 vs) = true then (compK gs g fk fe vs ds (wipeE e1 vs) ([], [])).bind fun xs e2 => .ok xs (back e1 e2 vs) else .stuck) := p1
  rw [if_pos hc] at p1
  obtain ⟨hs, hcl⟩ := Bool.and_eq_true_iff.mp hc
  have hlen : ds.length ≤ 1000000 := of_decide_eq_true hs
  obtain ⟨kw, xw⟩ := wiped vs k1
  have kD := kw.more (o := .dK []) hD
  -- the end, whatever the outcome is
  generalize ho' : compK gs g fk fe vs ds (wipeE e1 vs) ([], []) = out at p1
  refine ⟨fun i m H' => m = ds.length - i ∧ i ≤ ds.length ∧ ∃ e2 acc ws, EnvOk F (fun a => B a ∨ a = D0) e2 (wipe σ vs) H' ∧ Ext e1 σ H1 e2 (wipe σ vs) H' ∧ H' D0 = some (.dK ws) ∧ ws.map (·.1) = acc.1 ∧ Dens F (Os (fun a => B a ∨ a = D0) e2 (wipe σ vs)) H' (ws.map (·.2)) acc.2 ∧ ws.length ≤ i ∧ compK gs g fk fe vs (ds.drop i) e2 acc = out,
    ⟨ds.length, by simp, Nat.zero_le _, wipeE e1 vs, ([], []), [], kD, xw.trans (Ext.new (same_new hD)), upd_same, rfl, .nil, Nat.le_refl _, ho'⟩, ?_⟩
  rintro i m H2 ⟨rfl, hi, e2, acc, ws, k2, x2, hd2, hks, dws, hacc, q2⟩
  have apart : ∀ (e3 : En) (σ3 : L2.St) (H3 : Hp), Ext e1 σ H1 e3 σ3 H3 → ∀ (s : Sl) (i : Nat) (d : D), EnvOk F (fun a => B a ∨ a = D0) e3 σ3 H3 → e3[i]? = some s → s.lent = some d → σ3[i]? ≠ some (some (V.ref D0)) := fun e3 σ3 H3 x3 s i d k3 h1 h2 h3 => by
    cases s with
    | un => cases h2
    | val d => cases h2
    | ex ns ds => cases h2
    | own d =>
      obtain ⟨a, e4, n, _⟩ := k3.ok i _ _ h1 h3
      cases e4
      exact n (.inr rfl)
    | mt d =>
      obtain ⟨⟨d0, g0⟩, g1⟩ := x3.mt i d h1
      rw [h3] at g1
      obtain ⟨a, e4, _, w⟩ := k1.ok i _ _ g0 g1.symm
      cases e4
      obtain ⟨u, hu⟩ := w.some
      rw [hD] at hu
      cases hu
    | br d =>
      obtain ⟨⟨d0, g0⟩, g1⟩ := x3.br i d h1
      rw [h3] at g1
      obtain ⟨a, e4, _, w⟩ := k1.ok i _ _ g0 g1.symm
      cases e4
      obtain ⟨u, hu⟩ := w.some
      rw [hD] at hu
      cases hu
  have stay2 : ∀ a o, ¬ Os B e1 σ a → H1 a = some o → H2 a = some o ∧ ¬ Os (fun a => B a ∨ a = D0) e2 (wipe σ vs) a := fun a o n h => by
    obtain ⟨q1, q2⟩ := x2.stay k1 a o n h
    refine ⟨q1, fun z => ?_⟩
    rcases z with (z | z) | z
    · exact n (.inl z)
    · exact ne_of_none h hD z
    · exact q2 (.inr z)
  have hj := hJ _ H2 stay2 (fun a => k2.trkO) i
  by_cases hlt : i < ds.length
  · have hd : ds[i]? = some ds[i] := List.getElem?_eq_getElem hlt
    obtain ⟨go, yl⟩ := hj.1 _ hd
    refine .inr ⟨go, fun H' => ∃ e3 acc ws, EnvOk F (fun a => B a ∨ a = D0) e3 (wipe σ vs) H' ∧ Ext e1 σ H1 e3 (wipe σ vs) H' ∧ H' D0 = some (.dK ws) ∧ ws.map (·.1) = acc.1 ∧ Dens F (Os (fun a => B a ∨ a = D0) e3 (wipe σ vs)) H' (ws.map (·.2)) acc.2 ∧ ws.length ≤ i + 1 ∧ compK gs g fk fe vs (ds.drop (i + 1)) e3 acc = out,
      fun H' ⟨e3, acc', ws', q⟩ => ⟨ds.length - (i + 1), by omega, rfl, hlt, e3, acc', ws', q⟩, fun x H3 hy => ?_⟩
    obtain ⟨sm, dx⟩ := yl x H3 hy
    have k3 := k2.grow sm
    have x3 : Ext e1 σ H1 e2 (wipe σ vs) H3 := x2.trans (Ext.new sm)
    rw [List.drop_eq_getElem_cons hlt] at q2
    unfold compK at q2
    cases hq : gs ds[i] e2 with
    | none =>
      rw [hq] at q2
      rw [← q2] at p1
      exact p1.elim
    | some e3 =>
      rw [hq] at q2
      have q2 : (g e3).calm.bind (fun b e2 => if b = true then (fk e2).calm.bind (fun kd e3 => match keyD kd with | none => .stuck | some q => (fe e3).calm.bind fun x e4 => compK gs g fk fe vs (ds.drop (i + 1)) (wipeE e4 vs) (putP acc.1 acc.2 q x)) else compK gs g fk fe vs (ds.drop (i + 1)) (wipeE e2 vs) acc) = out := q2
      refine hw _ _ _ _ (ho _ e2 (wipe σ vs) H3 x ds[i] e3 _ k3 dx hq fun σ4 x4 k4 => ?_)
      intro hweq
      have x34 := x3.trans x4
      cases hg : g e3 with
      | stuck =>
        rw [hg] at q2
        rw [← q2] at p1
        exact p1.elim
      | exc c ns es e =>
        rw [hg] at q2
        rw [← q2] at p1
        exact p1.elim
      | ok b e4 =>
        rw [hg] at q2
        refine ⟨_, e3, k4, ?_⟩
        rw [hg]
        intro H5 x5 k5
        have x35 := x34.trans x5
        have hd5 : H5 D0 = some (.dK ws) := x5.keep _ _ (fun ⟨j, d, h1, h2⟩ => apart _ _ _ x34 _ j d k4 h1 rfl h2) (fun ⟨j, d, h1, h2⟩ => apart _ _ _ x34 _ j d k4 h1 rfl h2) (sm _ _ hd2)
        have dws5 := x5.dens k4 (x4.dens k3 (dws.grow sm))
        cases b with
        | false =>
          obtain ⟨k6, x6⟩ := wiped vs k5
          have d6 := x6.dens k5 dws5
          rw [hweq] at k6 x6 d6
          exact ⟨wipeE e4 vs, acc, ws, k6, x35.trans x6, hd5, hks, d6, by omega, q2⟩
        | true =>
          have q2 : (fk e4).calm.bind (fun kd e3 => match keyD kd with | none => .stuck | some q => (fe e3).calm.bind fun x e4 => compK gs g fk fe vs (ds.drop (i + 1)) (wipeE e4 vs) (putP acc.1 acc.2 q x)) = out := q2
          refine ⟨_, e4, k5, ?_⟩
          cases hfk : fk e4 with
          | stuck =>
            rw [hfk] at q2
            rw [← q2] at p1
            exact p1.elim
          | exc c ns es e =>
            rw [hfk] at q2
            rw [← q2] at p1
            exact p1.elim
          | ok kd e5 =>
            rw [hfk] at q2
            intro H6 x6 k6 kv dk
            have x36 := x35.trans x6
            have hd6 : H6 D0 = some (.dK ws) := x6.keep _ _ (fun ⟨j, d, h1, h2⟩ => apart _ _ _ x35 _ j d k5 h1 rfl h2) (fun ⟨j, d, h1, h2⟩ => apart _ _ _ x35 _ j d k5 h1 rfl h2) hd5
            have dws6 := x6.dens k5 dws5
            have q2 : (match keyD kd with | none => .stuck | some q => (fe e5).calm.bind fun x e4 => compK gs g fk fe vs (ds.drop (i + 1)) (wipeE e4 vs) (putP acc.1 acc.2 q x)) = out := q2
            cases hkd : keyD kd with
            | none =>
              rw [hkd] at q2
              rw [← q2] at p1
              exact p1.elim
            | some q =>
              rw [hkd] at q2
              have q2 : (fe e5).calm.bind (fun x e4 => compK gs g fk fe vs (ds.drop (i + 1)) (wipeE e4 vs) (putP acc.1 acc.2 q x)) = out := q2
              refine ⟨_, e5, k6, ?_⟩
              cases hfe : fe e5 with
              | stuck =>
                rw [hfe] at q2
                rw [← q2] at p1
                exact p1.elim
              | exc c ns es e =>
                rw [hfe] at q2
                rw [← q2] at p1
                exact p1.elim
              | ok y e6 =>
                rw [hfe] at q2
                intro H7 x7 k7 v dv
                have x37 := x36.trans x7
                have hd7 : H7 D0 = some (.dK ws) := x7.keep _ _ (fun ⟨j, d, h1, h2⟩ => apart _ _ _ x36 _ j d k6 h1 rfl h2) (fun ⟨j, d, h1, h2⟩ => apart _ _ _ x36 _ j d k6 h1 rfl h2) hd6
                have dws7 := x7.dens k6 dws6
                refine ⟨ws, q, keyD_V dk hkd, hd7, Nat.lt_of_le_of_lt (show ws.length ≤ 1000000 by omega) (by decide), ?_⟩
                obtain ⟨k8, x8⟩ := wiped vs k7
                have ap8 := fun s i d h1 h2 => apart _ _ _ (x37.trans x8) s i d k8 h1 h2
                have k9 := k8.turn (o := .dK (putK ws q v)) ap8
                have d8 := x8.dens k7 dws7
                have d9 : Dens F (Os (fun a => B a ∨ a = D0) (wipeE e6 vs) (wipe σ4 vs)) (upd H7 D0 (.dK (putK ws q v))) (ws.map (·.2)) acc.2 := d8.mono fun a o n h => ⟨by rw [upd_ne (fun z => n (.inl (.inr z)))]; exact h, n⟩
                have v9 : Den F (Os (fun a => B a ∨ a = D0) (wipeE e6 vs) (wipe σ4 vs)) (upd H7 D0 (.dK (putK ws q v))) v y := (x8.den k7 dv).mono fun a o n h => ⟨by rw [upd_ne (fun z => n (.inl (.inr z)))]; exact h, n⟩
                have x9 : Ext e1 σ H1 (wipeE e6 vs) (wipe σ4 vs) (upd H7 D0 (.dK (putK ws q v))) := by
                  have xx := x37.trans x8
                  refine ⟨fun a o n1 n2 h => ?_, xx.own, xx.mt, xx.br, fun a o h => ?_⟩
                  · rw [upd_ne (ne_of_none h hD)]
                    exact xx.keep a o n1 n2 h
                  · rw [upd_ne (ne_of_none h hD)]
                    exact xx.dom a o h
                obtain ⟨p1', p2', p3'⟩ := put_pair q v9 d9
                rw [hweq] at k9 p2' x9
                rw [hks] at p1' p2'
                exact ⟨wipeE e6 vs, putP acc.1 acc.2 q y, putK ws q v, k9, x9, upd_same, p1', p2', by omega, q2⟩
  · refine .inl ⟨hj.2 (by omega), ?_⟩
    have e0 : ds.drop i = [] := List.drop_eq_nil_of_le (by omega)
    rw [e0] at q2
    have q2 : Out.ok acc e2 = out := q2
    subst q2
    obtain ⟨k4, x4, l4⟩ := backed (B1 := B) (fun a h => h) (fun a h => .inl h) k1 hcl k2 x2 hD
    obtain ⟨k5, x5, l5⟩ := backed (B1 := fun a => B a ∨ a = D0) (fun a h => .inl h) (fun a h => h) k1 hcl k2 x2 hD
    refine p1 H2 x4 k4 H2 (Ext.refl _ _ _) k4 D0 (none_back x1 hD) ⟨k5, fun z => ?_, fun s i d h1 h2 => apart _ _ _ x5 s i d k5 h1 h2, .dct hd2 hks (dws.anti l5)⟩
    obtain ⟨u, hu⟩ := k1.trk D0 z
    rw [hD] at hu
    cases hu
end

/-! ### the rules -/
section
variable {X : Cx} {kx vx tg iter : Expr} {ifs : List Expr} {scope : Scope} {own : List (Str × Nat)} {pos spos py : Pos} {wi : TI} {gt : TG} {tt : TT} {tk tv : TE} {i : Nat} {y : Str}
theorem ps_setDc (hc : X.calm = true) (hN : X.N.Nodup) (hy : X.N[i]? = some y) (hyl : X.env.scope.names.lookup y = some .local)
    (hsw : swapsWith (.DictComp kx vx [⟨tg, iter, ifs, 0⟩] scope pos) (some (.Name y py)) spos.line X.env = pure true) (hi : PI X tg iter wi) (ok : BlkOk X.N X.env.scope scope own)
    (hg : ∀ (s : Shared) (H : Hp) (C : Addr) (cl : List (Str × Addr)) (fp : List Addr), PG (X.blk s H scope (compEnvC scope cl C X.env) fp) tg gt) (ht : ∀ (s : Shared) (H : Hp) (C : Addr) (cl : List (Str × Addr)) (fp : List Addr), PTs (X.blk s H scope (compEnvC scope cl C X.env) fp) ifs tt)
    (hk : ∀ (s : Shared) (H : Hp) (C : Addr) (cl : List (Str × Addr)) (fp : List Addr), PE (X.blk s H scope (compEnvC scope cl C X.env) fp) kx tk)
    (he : ∀ (s : Shared) (H : Hp) (C : Addr) (cl : List (Str × Addr)) (fp : List Addr), PE (X.blk s H scope (compEnvC scope cl C X.env) fp) vx tv) (hs : ∀ x, foldedSetIterable iter X.env x = pure x := by intro _; rfl) :
    PS X (.Assign [.Name y py] (.DictComp kx vx [⟨tg, iter, ifs, 0⟩] scope pos) spos) (tAsg (tDc wi gt tt tk tv (own.map (·.2))) (gName i)) := by
  refine ⟨fun pins s σ H D I h => ?_⟩
  rw [exec_Assign_Name_used _ _ _ _ hsw]
  refine wpAny_bind (wpAny_standAt (wpAny_bind ?_))
  show wpAny _ X.A (do let _ ← comprehension (.DictComp kx vx [⟨tg, iter, ifs, 0⟩] scope pos) scope X.env (firstIterPos [⟨tg, iter, ifs, 0⟩] pos) newDict false (eval iter X.env) (some (assign (.Name y py) X.env))) _ _ s
  have h : tDc wi gt tt tk tv (own.map (·.2)) σ H (fun x H1 => gName i x σ H1 D.nx) := h
  refine wpAny_bind (thn (dc_core (Qf := fun _ s' => SP X pins D .next s') hc hN I hi ok hg ht hk he hs h fun L C s' m H' I' q hn f => ?_) fun _ s' hq => wpAny_pure (wpAny_pure hq))
  show wpAny _ _ (assign (.Name y py) X.env (.ref L)) _ _ _
  refine wpAny_assign_Name (store_ok2 (v := V.ref L) I' hN hy (.inl hyl) rfl (fun s2 I2 ⟨a, sb, ha⟩ => ?_) (.inr hyl))
  obtain ⟨f0, f1, f2, f3, f4, f5⟩ := f
  have haC : C ≠ a := by
    rcases ha with z | z
    · rw [z]; exact f1
    · exact fun e => f4 y a z e.symm
  refine ⟨m, hn.sameBut sb haC, fun h3 sb3 => ?_⟩
  exact ⟨_, H', I2.turned (t' := s2.toks) (fun b o hb e => (sb3.2 b hb).trans e) f0 f1 f3 f4 f5, q⟩
variable {F : Cf} {W : WX} {fi : ISem} {gs : GSem} {g : BSem} {fk fe : ESem} {e : Expr} {f : ESem}
theorem dn_dcomp (hc : X.calm = true) (hN : X.N.Nodup) (hi : DI F W X tg iter fi) (ok : BlkOk X.N X.env.scope scope own) (ho : GOk F gt gs) (hw : Inside gt (own.map (·.2)))
    (hg : ∀ (s : Shared) (H : Hp) (C : Addr) (cl : List (Str × Addr)) (fp : List Addr), PG (X.blk s H scope (compEnvC scope cl C X.env) fp) tg gt) (ht : ∀ (s : Shared) (H : Hp) (C : Addr) (cl : List (Str × Addr)) (fp : List Addr), DTs F (X.blk s H scope (compEnvC scope cl C X.env) fp) ifs g)
    (hk : ∀ (s : Shared) (H : Hp) (C : Addr) (cl : List (Str × Addr)) (fp : List Addr), DE F W0 (X.blk s H scope (compEnvC scope cl C X.env) fp) kx fk)
    (he : ∀ (s : Shared) (H : Hp) (C : Addr) (cl : List (Str × Addr)) (fp : List Addr), DE F W0 (X.blk s H scope (compEnvC scope cl C X.env) fp) vx fe) (hs : ∀ x, foldedSetIterable iter X.env x = pure x := by intro _; rfl) :
    DN F W X (.DictComp kx vx [⟨tg, iter, ifs, 0⟩] scope pos) (eDComp (own.map (·.2)) gs fi g fk fe) := .of (pe_dc hc hN hi ok hg ht hk he hs) fun σ H Q h => t_dcomp ho hw h
/-- y = {..} -/
theorem ds_ownDComp (hc : X.calm = true) (hN : X.N.Nodup) (hy : X.N[i]? = some y) (hyl : X.env.scope.names.lookup y = some .local)
    (hsw : swapsWith (.DictComp kx vx [⟨tg, iter, ifs, 0⟩] scope pos) (some (.Name y py)) spos.line X.env = pure true) (hi : DI F W X tg iter fi) (ok : BlkOk X.N X.env.scope scope own) (ho : GOk F gt gs) (hw : Inside gt (own.map (·.2)))
    (hg : ∀ (s : Shared) (H : Hp) (C : Addr) (cl : List (Str × Addr)) (fp : List Addr), PG (X.blk s H scope (compEnvC scope cl C X.env) fp) tg gt) (ht : ∀ (s : Shared) (H : Hp) (C : Addr) (cl : List (Str × Addr)) (fp : List Addr), DTs F (X.blk s H scope (compEnvC scope cl C X.env) fp) ifs g)
    (hk : ∀ (s : Shared) (H : Hp) (C : Addr) (cl : List (Str × Addr)) (fp : List Addr), DE F W0 (X.blk s H scope (compEnvC scope cl C X.env) fp) kx fk)
    (he : ∀ (s : Shared) (H : Hp) (C : Addr) (cl : List (Str × Addr)) (fp : List Addr), DE F W0 (X.blk s H scope (compEnvC scope cl C X.env) fp) vx fe) (hs : ∀ x, foldedSetIterable iter X.env x = pure x := by intro _; rfl) :
    DS F W X (.Assign [.Name y py] (.DictComp kx vx [⟨tg, iter, ifs, 0⟩] scope pos) spos) (sOwn i (eDComp (own.map (·.2)) gs fi g fk fe)) := .of (ps_setDc hc hN hy hyl hsw hi ok hg ht hk he hs) fun Dn σ H h => t_dcomp ho hw (t_own h)
/-- the new object is not counted any more -/
theorem lessB {B : Addr → Prop} {env : En} {σ : L2.St} {H : Hp} {a : Addr} (k : EnvOk F (fun b => B b ∨ b = a) env σ H) (ap : ∀ (s : Sl) (i : Nat) (d : D), env[i]? = some s → s.lent = some d → σ[i]? ≠ some (some (V.ref a))) : EnvOk F B env σ H := by
  have less : ∀ b, Os B env σ b → Os (fun b => B b ∨ b = a) env σ b := fun b z => z.elim (fun z => .inl (.inl z)) .inr
  refine ⟨k.len, fun i s ov h1 h2 => ?_, k.apart, fun b z => k.trk b (.inl z)⟩
  have w := k.ok i s ov h1 h2
  cases s with
  | un => trivial
  | val d =>
    obtain ⟨v, e, w⟩ := w
    exact ⟨v, e, w.anti less⟩
  | own d =>
    obtain ⟨v, e, n, w⟩ := w
    exact ⟨v, e, fun z => n (.inl z), w.anti less⟩
  | mt d =>
    obtain ⟨v, e, n, w⟩ := w
    refine ⟨v, e, n.elim id fun z => ?_, w.anti less⟩
    exact absurd (by rw [h2, e, z]) (ap _ i d h1 rfl)
  | br d =>
    obtain ⟨v, e, n, w⟩ := w
    refine ⟨v, e, n.elim id fun z => ?_, w.anti less⟩
    exact absurd (by rw [h2, e, z]) (ap _ i d h1 rfl)
  | ex ns ds =>
    obtain ⟨a, dd, fs, e1, e2, o, hx, q, dv⟩ := w
    exact ⟨a, dd, fs, e1, e2, fun z => o (less _ z), hx, q, dv.anti less⟩
/-- a new object as a value: a dict is locked -/
def eLk (f : ESem) : ESem := fun env => (f env).bind fun d e1 => .ok (lockD d) e1
theorem DN.deK (p : DN F W X e f) : DE F W X e (eLk f) := ⟨fun pins s σ H Q I h => by
  have q : TN' F W f σ H fun v H1 => Q v H1 ∨ ∃ a kvs, v = .ref a ∧ H1 a = some (.dK kvs) ∧ ∀ od, Q (.ref a) (upd H1 a (.frz od (.dK kvs))) := by
    obtain ⟨B, env, k, p0⟩ := h
    refine ⟨B, env, k, ?_⟩
    have p0 : Post F W B σ env H (fun d e' H' => ∀ v, Den F (Os B e' σ) H' v d → Q v H') ((f env).bind fun d e1 => .ok (lockD d) e1) := p0
    cases hf : f env with
    | stuck =>
      rw [hf] at p0
      exact p0.elim
    | exc c ns es e1 =>
      rw [hf] at p0
      exact p0
    | ok d e1 =>
      rw [hf] at p0
      have p0 : ∀ H', Ext env σ H e1 σ H' → EnvOk F B e1 σ H' → ∀ v, Den F (Os B e1 σ) H' v (lockD d) → Q v H' := p0
      intro H1 x1 k1 a ha fr
      have plain : lockD d = d → Q (.ref a) H1 := fun el => by
        have p2 := p0 H1 x1 k1 (.ref a)
        rw [el] at p2
        exact p2 fr.den
      cases d with
      | dct ks ds =>
        have w := fr.bod
        cases w with
        | @dct _ kvs _ _ h1 h2 h3 =>
          refine .inr ⟨a, kvs, rfl, h1, fun od => ?_⟩
          have k2 := fr.ok.turn (o := .frz od (.dK kvs)) fr.apart
          have nO : ¬ Os B e1 σ a := fun z => z.elim fr.nb fun ⟨j, dj, g1, g2⟩ => fr.apart _ j dj g1 rfl g2
          have d2 : Dens F (Os (fun b => B b ∨ b = a) e1 σ) (upd H1 a (.frz od (.dK kvs))) (kvs.map (·.2)) ds := h3.mono fun b o n e => ⟨by rw [upd_ne (fun z => n (.inl (.inr z)))]; exact e, n⟩
          have xx : Ext env σ H e1 σ (upd H1 a (.frz od (.dK kvs))) := ⟨fun b o n1 n2 e => by rw [upd_ne (ne_of_none e ha)]; exact x1.keep b o n1 n2 e, x1.own, x1.mt, x1.br, fun b o e => by rw [upd_ne (ne_of_none e ha)]; exact x1.dom b o e⟩
          exact p0 _ xx (lessB k2 fr.apart) _ (.ob (.dcl upd_same h2 (d2.anti fun b z => z.elim (fun z => .inl (.inl z)) .inr)) nO)
      | _ => exact .inl (plain rfl)
  refine wpAny_mono (p.run pins s σ H _ I q) (fun u s1 ⟨v, H1, I1, r, q1⟩ => ?_) fun _ _ z => z
  rcases q1 with q1 | ⟨a, kvs, rfl, ha, q1⟩
  · exact ⟨v, H1, I1, r, q1⟩
  · obtain ⟨od, I2⟩ := I1.lock ha True.intro
    exact ⟨_, _, I2, r, q1 od⟩⟩
end

/-! ### walks over a list, a tuple, a dict -/
def keyV : Key → D
  | .inl i => .int i
  | .inr x => .str x
def itemsA : D → Option (List D)
  | .tup ds => some ds
  | .lst ds => some ds
  | .dcl ks _ => some (ks.map keyV)
  | _ => none
def iAny (fe : ESem) : ISem := fun env => (fe env).bind fun d e1 => lift (itemsA d) e1
def iAnyT (K : PySem.W.Frag) (tl : TE) : TI := fun σ H R => tl σ H fun x H1 => ∃ a, x = .ref a ∧ (((∃ xs, SqL K H1 a xs) ∧ R (Itl K a) H1) ∨ ((∃ xs, SqT K H1 a xs) ∧ R (Itt K a) H1) ∨ ∃ o kvs, H1 a = some (.frz o (.dK kvs)) ∧ R (Itk a o kvs) H1)
section
variable {X : Cx} {tg e : Expr} {tl : TE} {F : Cf} {W : WX} {fe : ESem}
theorem pi_any (hl : PE X e tl) : PI X tg e (iAnyT X.K tl) := by
  refine ⟨fun pins s σ H R I h => ?_⟩
  refine thn (hl.run pins s σ H _ I h) fun v s1 ⟨x, H1, I1, r1, a, ea, q⟩ => ?_
  subst ea
  cases r1
  rcases q with ⟨⟨xs, hq⟩, q⟩ | ⟨⟨xs, hq⟩, q⟩ | ⟨o, kvs, hd, q⟩
  · obtain ⟨its, rv, p, hz⟩ := I1.list hq
    refine wpAny_pyIter_list p.isList ?_
    refine ⟨s1.heap.objs.size, [s1.heap.objs.size], _, _, H1, rfl, I1.kept (t' := s1.toks) fun b o e => Heap.get?_push_of_some _ e, turn_list a _, ⟨_, Heap.get?_push_size _ rfl, rfl, rfl⟩, fun b hb => ?_, q⟩
    have e : b = s1.heap.objs.size := by simpa using hb
    subst e
    exact I1.fpOk (Nat.le_refl _) (I1.hok.fresh (Nat.le_refl _))
  · obtain ⟨its, rv, p, hz⟩ := I1.tuple hq
    refine wpAny_pyIter_tuple (show s1.heap.IsTuple a its.toArray from p) ?_
    refine ⟨s1.heap.objs.size, [s1.heap.objs.size], _, _, H1, rfl, I1.kept (t' := s1.toks) fun b o e => Heap.get?_push_of_some _ e, turn_tuple a _, ⟨_, Heap.get?_push_size _ rfl, rfl, rfl⟩, fun b hb => ?_, q⟩
    have e : b = s1.heap.objs.size := by simpa using hb
    subst e
    exact I1.fpOk (Nat.le_refl _) (I1.hok.fresh (Nat.le_refl _))
  · obtain ⟨hs, hgd, hx, es, ep, vs, hdt, hsz, kv, hm⟩ := I1.frzK hd
    refine iter_keys hs hgd hx hdt (pi_one (tk := s1.toks) I1 _ (turn_keys _ hdt) ⟨_, Heap.get?_push_size _ rfl, rfl, ?_⟩ q)
    rw [hsz] <;> rfl
theorem seqs_k {O : Addr → Prop} {H : Hp} {a : Addr} {o : Obj} {kvs : List (Key × V)} (r : H a = some (.frz o (.dK kvs))) (n : ¬ O a) : Seqs F O H (Itk a o kvs) ((kvs.map (·.1)).map keyV) := fun O' H' hk tr i => by
  have r' := (hk _ _ n r).1
  refine ⟨fun d hd => ?_, fun hi => ⟨r', by rw [List.length_map, List.length_map] at hi; exact hi⟩⟩
  rw [List.getElem?_map, List.getElem?_map] at hd
  have hlt : i < kvs.length := by
    by_cases q : i < kvs.length
    · exact q
    · rw [List.getElem?_eq_none (by omega)] at hd
      cases hd
  refine ⟨⟨r', hlt⟩, fun x H2 hy => ?_⟩
  obtain ⟨rfl, k, v, hkv, rfl⟩ := hy
  rw [hkv] at hd
  cases hd
  refine ⟨Same.refl _, ?_⟩
  cases k with
  | inl i => exact .int i
  | inr x => exact .str x
theorem di_any (hK : X.K = F.K) (he : DE F W X e fe) : DI F W X tg e (iAny fe) := .of (pi_any he) fun σ H R ⟨B, env, k, p⟩ => by
  rw [hK]
  refine ⟨B, env, k, p.split.imp fun d e1 H1 x1 k1 p1 v dv => ?_⟩
  obtain ⟨ds, hds, q⟩ := Post.lift (e := e1) k1 p1
  cases d with
  | lst ds' =>
    cases hds
    obtain ⟨a, xs, rfl, so, dd⟩ := seq_of dv rfl
    cases so with
    | lst r n d1 => exact ⟨a, rfl, .inl ⟨⟨xs, .inl r⟩, q _ (seqs_l r n d1)⟩⟩
  | tup ds' =>
    cases hds
    obtain ⟨a, xs, rfl, so, dd⟩ := seq_of dv rfl
    cases so with
    | tup r n d1 => exact ⟨a, rfl, .inr (.inl ⟨⟨xs, .inl r⟩, q _ (seqs_t (fun O' H' hk => .inl (rd_keep hk n r)) d1)⟩)⟩
    | tupK h d1 => exact ⟨a, rfl, .inr (.inl ⟨⟨xs, h H1⟩, q _ (seqs_t (fun O' H' hk => h H') d1)⟩)⟩
  | dcl ks ds' =>
    cases hds
    cases dv with
    | ob w n =>
      cases w with
      | dcl e3 e4 dd =>
        subst e4
        exact ⟨_, rfl, .inr (.inr ⟨_, _, e3, q _ (seqs_k e3 n)⟩)⟩
  | _ => cases hds
end
end Dl

/-! D21: displays of dicts by ** alone. -/
namespace Dl
open PySem PySem.Spec PyProof.Rows L2

section
variable {prog : Program} {w : World} {K : Type} [DecidableEq K] {knd : KeyKind prog w K} {A : Around} {E : Value → Shared → Prop} {s : Shared}
theorem wpAny_dictPut_pairs {d : Addr} {kvs : List (K × Value)} {k : K} {key v : Value} {Q : Unit → Shared → Prop} (hkey : knd.is k key = true) (hm : s.heap.DictOf knd d kvs)
    (hQ : ∀ h', h'.DictOf knd d (stored kvs k v) → Heap.SameBut d s.heap h' → Q () { s with heap := h' })
    (hsz : kvs.length ≤ sizeLine) :
    wpAny (model prog w) A (dictPut d (knd.hash k) key v) Q E s := by
  obtain ⟨o, es, ep, ho, hc, hd, hk, hp, hn⟩ := hm
  have hes : es.size ≤ sizeLine := by have e1 := hp.length; have e2 : es.toList.length = es.size := by simp
                                      omega
  unfold dictPut
  refine wpAny_bind (wpAny_dictFind_of hkey ho hd hk ?_)
  have hidx : (es.findIdx? fun e => knd.is k e.key) = kvs.findIdx? fun kv => decide (kv.1 = k) := by
    rw [← hp.findIdx k]; obtain ⟨l⟩ := es; simp
  cases hi : es.findIdx? fun e => knd.is k e.key with
  | some i =>
    refine wpAny_updateDict ho hd (hQ _ ⟨_, _, ep, Heap.get?_update_self _ ho (Obj.isFreed_of_dict (Obj.data_mapDict hd _)),
      hc.mapDict _, Obj.data_mapDict hd _, hk.modify _ _, ?_, ?_⟩ (Heap.SameBut.update ..))
    · rw [stored, if_pos (any_of_findIdx_some (hidx ▸ hi))]
      have hl : (es.toList.findIdx? fun e => knd.is k e.key) = some i := by rw [← hi]; obtain ⟨l⟩ := es; simp
      have := hp.modify hn hl v
      obtain ⟨l⟩ := es
      simpa using this
    · rw [stored, if_pos (any_of_findIdx_some (hidx ▸ hi)), keys_map_store]; exact hn
  | none =>
    have hnot : k ∉ kvs.map (·.1) := not_mem_of_findIdx_none (hidx ▸ hi)
    have hany : ¬ (kvs.any fun kv => decide (kv.1 = k)) = true := by
      rw [List.any_eq_true]; rintro ⟨kv, hkv, he⟩
      exact hnot (List.mem_map.mpr ⟨kv, hkv, of_decide_eq_true he⟩)
    refine wpAny_updateDictKeys (hz := hes) ho hd (hQ _ ⟨_, _, ep + 1, Heap.get?_update_self _ ho (Obj.isFreed_of_dict (Obj.data_mapDictKeys hd _)),
      hc.mapDictKeys _, Obj.data_mapDictKeys hd _, hk.push hkey _, ?_, ?_⟩ (Heap.SameBut.update ..))
    · rw [stored, if_neg hany]
      have := hp.append hkey (knd.hash k) v
      obtain ⟨l⟩ := es
      simpa using this
    · rw [stored, if_neg hany, List.map_append, List.nodup_append]
      refine ⟨hn, by simp, ?_⟩
      intro a ha b hb
      simp only [List.map_cons, List.map_nil, List.mem_singleton] at hb
      subst hb
      exact fun e => hnot (e ▸ ha)
theorem wpAny_mergeMapping {d o : Addr} {kvs more : List (K × Value)} {Q : Unit → Shared → Prop} (hdo : d ≠ o) (hoS : (o == sysModules) = false)
    (hd : s.heap.DictOf knd d kvs) (ho : s.heap.DictOf knd o more)
    (hQ : ∀ h', h'.DictOf knd d (merged kvs more) → h'.DictOf knd o more → Heap.SameBut d s.heap h' → Q () { s with heap := h' })
    (hsz : kvs.length + more.length ≤ sizeLine) :
    wpAny (model prog w) A (mergeMapping d (.ref o) false) Q E s := by
  obtain ⟨od, esd, epd, hod, hcd, hdd, hkd, hpd, hnd⟩ := id hd
  obtain ⟨oo, eso, epo, hoo, hco, hdo', hko, hpo, hno⟩ := id ho
  have hlen : more.length = eso.size := by rw [← hpo.length]; simp
  have loop : wpAny (model prog w) A (do
      let l ← dictEntries o
      let epoch ← dictEpoch o
      forIn (List.range l.size) PUnit.unit fun i (_ : PUnit) => (do
          let l' ← dictEntries o
          match l'[i]? with
            | some e => do
              holding [e.key, e.val] (dictPut d e.hash e.key e.val)
              let ep' ← dictEpoch o
              if (ep' != epoch) = true then do
                  (unsupported "dict.changed-during-merge" : Sem PUnit)
                  pure (ForInStep.yield PUnit.unit)
                else pure (ForInStep.yield PUnit.unit)
            | _ => do
              (unsupported "dict.changed-during-merge" : Sem PUnit)
              pure (ForInStep.yield PUnit.unit) : Sem (ForInStep PUnit))
      pure ()) Q E s := by
    refine wpAny_bind (wpAny_dictEntries hoo hdo' ?_)
    refine wpAny_bind (wpAny_dictEpoch hoo hdo' ?_)
    refine wpAny_bind ?_
    rw [List.range_eq_range']
    refine wpAny_forIn_list _
      (fun rest _ s' => ∃ h' i, s' = { s with heap := h' } ∧ rest = List.range' i (eso.size - i) ∧ i ≤ eso.size ∧ h'.DictOf knd d (merged kvs (more.take i)) ∧ h'.get? o = some oo ∧ Heap.SameBut d s.heap h')
      _ ?_ ?_ _ _ ⟨s.heap, 0, rfl, by simp, Nat.zero_le _, by simpa [merged] using hd, hoo, Heap.SameBut.refl _ _⟩
    · rintro x rest b s' ⟨h', i, rfl, hr, hi, hd', hoo', hs'⟩
      have hlt : i < eso.size := by
        rcases Nat.lt_or_ge i eso.size with h | h
        · exact h
        · rw [Nat.sub_eq_zero_of_le h] at hr; simp at hr
      obtain ⟨rfl, hrest⟩ : x = i ∧ rest = List.range' (i + 1) (eso.size - (i + 1)) := by
        have e : eso.size - i = (eso.size - (i + 1)) + 1 := by omega
        rw [e, List.range'_succ] at hr
        injection hr with h1 h2
        exact ⟨h1, h2⟩
      refine wpAny_bind (wpAny_dictEntries hoo' hdo' ?_)
      rw [Array.getElem?_eq_getElem hlt]
      obtain ⟨kv, hkv⟩ : ∃ kv, more[x]? = some kv := ⟨more[x]'(by rw [hlen]; exact hlt), List.getElem?_eq_getElem _⟩
      obtain ⟨k, v⟩ := kv
      obtain ⟨hkey, hval⟩ := hpo.get? (e := eso[x]) (by simp [hlt]) hkv
      obtain ⟨k', hkey', hhash⟩ := hko eso[x] (Array.getElem_mem hlt)
      obtain rfl : k' = k := knd.inj _ _ _ hkey' hkey
      show wpAny _ _ (holding [eso[x].key, eso[x].val] (dictPut d eso[x].hash eso[x].key eso[x].val) >>= _) _ _ _
      rw [hhash, hval]
      have hmx : (merged kvs (more.take x)).length ≤ sizeLine := by
        have e1 := merged_length_le kvs (more.take x)
        have e2 : (more.take x).length ≤ more.length := by rw [List.length_take]; omega
        omega
      refine wpAny_bind (wpAny_holding (wpAny_dictPut_pairs (hsz := hmx) hkey hd' fun h'' hd'' hs'' => ?_))
      have hoo'' : h''.get? o = some oo := (hs''.2 o (Ne.symm hdo)).trans hoo'
      refine wpAny_bind (wpAny_dictEpoch hoo'' hdo' ?_)
      rw [if_neg (by simp)]
      exact wpAny_pure ⟨h'', x + 1, rfl, hrest, hlt, by rw [merged_take_succ kvs more x (k', v) hkv]; exact hd'', hoo'', hs'.trans hs''⟩
    · rintro b s' ⟨h', i, rfl, hr, hi, hd', hoo', hs'⟩
      have hin : i = eso.size := by
        rcases Nat.lt_or_ge i eso.size with h | h
        · have e : eso.size - i = (eso.size - (i + 1)) + 1 := by omega
          rw [e, List.range'_succ] at hr; exact nomatch hr
        · exact Nat.le_antisymm hi h
      refine wpAny_pure (hQ h' ?_ ⟨oo, eso, epo, hoo', hco, hdo', hko, hpo, hno⟩ hs')
      rw [hin, ← hlen, List.take_length] at hd'; exact hd'
  have guard : (forIn eso PUnit.unit fun e (_ : PUnit) => (match e.key with
      | .ref a => do
        let r ← specialOf e.key (Str.ofString "__eq__")
        if (r != some (Value.builtin "object.__eq__")) = true then
            if (Array.filter (fun x => x.hash == e.hash) eso).size > 1 then do
              (unsupported "dict.merge-into-an-empty-dict:keys-of-equal-hash" : Sem PUnit)
              pure (ForInStep.yield PUnit.unit)
            else pure (ForInStep.yield PUnit.unit)
          else pure (ForInStep.yield PUnit.unit)
      | _ => pure (ForInStep.yield PUnit.unit) : Sem (ForInStep PUnit))) = pure PUnit.unit := by
    rw [← Array.forIn_toList]
    refine forIn_yield_id _ fun e he c => ?_
    obtain ⟨k, hkey, _⟩ := hko e (Array.mem_toList_iff.mp he)
    have hb := knd.byValue k _ hkey
    cases hq : e.key with
    | ref a =>
      rw [hq] at hb
      exact absurd hb Bool.false_ne_true
    | _ => rfl
  unfold mergeMapping
  simp only [bind_assoc, pure_bind, Bool.false_eq_true, if_false]
  refine wpAny_bind (wpAny_isInstance ho.typeIs isSubtype_dict_dict ?_)
  rw [if_pos rfl]
  refine wpAny_bind (wpAny_specialOf ho.typeIs F.slot_dict_iter.lookup ?_)
  have e1 : (some (Value.builtin "dict.__iter__") == some (Value.builtin "dict.__iter__")) = true := by decide +kernel
  simp only [e1]
  rw [hoS, if_neg Bool.false_ne_true]
  refine wpAny_bind (wpAny_dictEntries hod hdd ?_)
  split
  · refine wpAny_bind (wpAny_dictEntries hoo hdo' ?_)
    exact wpAny_bind (wpAny_of_eq guard loop)
  · exact loop
end

section
variable {X : Cx} {pins : List (Addr × Obj)} {σ : L2.St} {H : Hp} {s : Shared} {E : Value → Shared → Prop} {A : Around}
theorem mergeK_length (kvs more : List (Key × V)) : (mergeK kvs more).length ≤ kvs.length + more.length := by
  unfold mergeK
  induction more generalizing kvs with
  | nil => simp
  | cons p r ih =>
    rw [List.foldl_cons, List.length_cons]
    have h1 := ih (putK kvs p.1 p.2)
    have h2 := length_putK kvs p.1 p.2
    omega
theorem d_merge {d a : Addr} {kvs more : List (Key × V)} {Q : Unit → Shared → Prop} (I : Inv X pins σ H s) (hd : H d = some (.dK kvs)) (ha : Rd H a (.dK more)) (hne : d ≠ a) (hz : kvs.length + more.length ≤ sizeLine)
    (h : ∀ s', Inv X pins σ (upd H d (.dK (mergeK kvs more))) s' → Q () s') : wpAny (model X.prog X.w) A (mergeMapping d (.ref a) false) Q E s := by
  obtain ⟨z1, h1, vs, rel, dd⟩ := dk_of I.hok hd
  obtain ⟨z2, h2, ws, rel2, dd2⟩ := dk_rd I.hok ha
  have hl : vs.length + ws.length ≤ sizeLine := by rw [← rel.length, ← rel2.length]; exact hz
  refine wpAny_mergeMapping hne h2 dd dd2 (fun h' d1 d2 sb => ?_) hl
  have he : ∃ q, h'.get? d = some q := let ⟨q, _, _, hq, _⟩ := d1; ⟨q, hq⟩
  exact h _ (d_write (t' := s.toks) I (by rw [hd]; exact True.intro) sb he (dk_new (Nat.le_trans (mergeK_length _ _) hz) h1 (KV.merge rel2 rel) d1))
end
/-- {**e} -/
def tStar (te : TE) : TE := fun σ H Q => ∀ p, H p = none → te σ (upd H p (.dK [])) fun x H1 => ∃ a more, x = .ref a ∧ p ≠ a ∧ Rd H1 a (.dK more) ∧ H1 p = some (.dK []) ∧ more.length ≤ 1000000 ∧ Q (.ref p) (upd H1 p (.dK (mergeK [] more)))
/-- {**e, **e2} -/
def tStar2 (te te2 : TE) : TE := fun σ H Q => ∀ p, H p = none → te σ (upd H p (.dK [])) fun x H1 => ∃ a more, x = .ref a ∧ p ≠ a ∧ Rd H1 a (.dK more) ∧ H1 p = some (.dK []) ∧ more.length ≤ 1000000 ∧
  te2 σ (upd H1 p (.dK (mergeK [] more))) fun y H2 => ∃ b more2, y = .ref b ∧ p ≠ b ∧ Rd H2 b (.dK more2) ∧ H2 p = some (.dK (mergeK [] more)) ∧ more2.length ≤ 1000000 ∧ Q (.ref p) (upd H2 p (.dK (mergeK (mergeK [] more) more2)))
section
variable {X : Cx} {e e2 : Expr} {te te2 : TE} {pos : Pos}
theorem pe_star (he : PE X e te) (hs : eval (.Dict [none] [e] pos) X.env = (do standAt pos; dictDisplay [(none, do let x ← eval e X.env; standAt pos; pure x)]) := by rfl) : PE X (.Dict [none] [e] pos) (tStar te) := by
  refine ⟨fun pins s σ H Q I h => ?_⟩
  rw [hs]
  refine wpAny_bind (wpAny_standAt ?_)
  unfold dictDisplay
  simp only [List.forIn_cons, List.forIn_nil, pure_bind, bind_assoc]
  refine wpAny_bind (wpAny_pure ?_)
  refine wpAny_bind ?_
  refine wpAny_bind (wpAny_alloc ?_)
  have hp : H s.heap.objs.size = none := I.hok.fresh (Nat.le_refl _)
  have I1 : Inv X pins σ (upd H s.heap.objs.size (.dK [])) { s with heap := s.heap.push { cls := .type "dict", data := .dict #[] } } := I.laid (t' := s.toks) (fun b o e => Heap.get?_push_of_some _ e) (Nat.le_refl _) (dk_empty s.heap I.big)
  refine wpAny_bind (wpAny_holding (wpAny_bind (thn (he.run pins _ σ _ _ I1 (h _ hp)) fun u s1 ⟨x, H1, I2, rx, a, more, ex, hne, ha, hd, hz, q⟩ => wpAny_bind (wpAny_standAt (wpAny_pure ?_)))))
  subst ex
  obtain rfl : u = Value.ref a := rx
  refine wpAny_bind (wpAny_onRaise (wpAny_tryCatch (wpAny_onRaise (wpAny_holding (d_merge I2 hd ha hne (by rw [sizeLine_eq]; simp; omega) fun s2 I3 => ?_)))))
  exact wpAny_pure (wpAny_bind (wpAny_pure (wpAny_bind (wpAny_pure (wpAny_pure ⟨.ref s.heap.objs.size, _, I3, rfl, q⟩)))))
theorem pe_star2 (he : PE X e te) (he2 : PE X e2 te2) (hs : eval (.Dict [none, none] [e, e2] pos) X.env = (do standAt pos; dictDisplay [(none, do let x ← eval e X.env; standAt pos; pure x), (none, do let x ← eval e2 X.env; standAt pos; pure x)]) := by rfl) : PE X (.Dict [none, none] [e, e2] pos) (tStar2 te te2) := by
  refine ⟨fun pins s σ H Q I h => ?_⟩
  rw [hs]
  refine wpAny_bind (wpAny_standAt ?_)
  unfold dictDisplay
  simp only [List.forIn_cons, List.forIn_nil, pure_bind, bind_assoc]
  refine wpAny_bind (wpAny_pure ?_)
  refine wpAny_bind ?_
  refine wpAny_bind (wpAny_alloc ?_)
  have hp : H s.heap.objs.size = none := I.hok.fresh (Nat.le_refl _)
  have I1 : Inv X pins σ (upd H s.heap.objs.size (.dK [])) { s with heap := s.heap.push { cls := .type "dict", data := .dict #[] } } := I.laid (t' := s.toks) (fun b o e => Heap.get?_push_of_some _ e) (Nat.le_refl _) (dk_empty s.heap I.big)
  refine wpAny_bind (wpAny_holding (wpAny_bind (thn (he.run pins _ σ _ _ I1 (h _ hp)) fun u s1 ⟨x, H1, I2, rx, a, more, ex, hne, ha, hd, hz, q⟩ => wpAny_bind (wpAny_standAt (wpAny_pure ?_)))))
  subst ex
  obtain rfl : u = Value.ref a := rx
  refine wpAny_bind (wpAny_onRaise (wpAny_tryCatch (wpAny_onRaise (wpAny_holding (d_merge I2 hd ha hne (by rw [sizeLine_eq]; simp; omega) fun s2 I3 => ?_)))))
  refine wpAny_pure ?_
  simp only [List.isEmpty_nil, if_true, pure_bind, bind_assoc]
  refine wpAny_bind (wpAny_holding (wpAny_bind (thn (he2.run pins _ σ _ _ I3 q) fun u s3 ⟨y, H2, I4, ry, b, more2, ey, hne2, hb, hd2, hz2, q2⟩ => wpAny_bind (wpAny_standAt (wpAny_pure ?_)))))
  subst ey
  obtain rfl : u = Value.ref b := ry
  have hl := mergeK_length [] more
  refine wpAny_bind (wpAny_onRaise (wpAny_tryCatch (wpAny_onRaise (wpAny_holding (d_merge I4 hd2 hb hne2 (by rw [sizeLine_eq]; simp at hl; omega) fun s4 I5 => ?_)))))
  exact wpAny_pure ⟨.ref s.heap.objs.size, _, I5, rfl, q2⟩
end

/-! ### with data -/
def mergeP : List Key → List D → List Key × List D → List Key × List D
  | k :: ks, d :: ds, acc => mergeP ks ds (putP acc.1 acc.2 k d)
  | _, _, acc => acc
def dctOf : D → Option (List Key × List D)
  | .dct ks ds => some (ks, ds)
  | .dcl ks ds => some (ks, ds)
  | _ => none
def eStar (f : ESem) : ESem := fun env => (f env).bind fun d e1 => match dctOf d with
  | some (ks, ds) => if decide (ks.length ≤ 1000000) = true then .ok (.dct (mergeP ks ds ([], [])).1 (mergeP ks ds ([], [])).2) e1 else .stuck
  | none => .stuck
theorem merge_den {F : Cf} {O : Addr → Prop} {H : Hp} : ∀ {more : List (Key × V)} {ds : List D} {kvs : List (Key × V)} {es : List D}, Dens F O H (more.map (·.2)) ds → Dens F O H (kvs.map (·.2)) es →
    (mergeK kvs more).map (·.1) = (mergeP (more.map (·.1)) ds (kvs.map (·.1), es)).1 ∧ Dens F O H ((mergeK kvs more).map (·.2)) (mergeP (more.map (·.1)) ds (kvs.map (·.1), es)).2
  | [], _, kvs, es, .nil, h => ⟨rfl, h⟩
  | (k, v) :: more, _, kvs, es, .cons (d := d) a r, h => by
    obtain ⟨h1, h2, _⟩ := put_pair k a h
    have ih := merge_den (kvs := putK kvs k v) (es := (putP (kvs.map (·.1)) es k d).2) r h2
    rw [h1] at ih
    exact ih
section
variable {F : Cf} {W : WX} {X : Cx} {e : Expr} {f : ESem} {pos : Pos}
/-- behind the walk with a new object at p: it is not counted any more -/
theorem TN_new {o : HO} {B : Addr → Prop} {env : En} {σ : L2.St} {H : Hp} {p : Addr} (k : EnvOk F B env σ H) (hp : H p = none) : EnvOk F (fun b => B b ∨ b = p) env σ (upd H p o) ∧ ¬ B p := ⟨k.more hp, fun z => by
  obtain ⟨u, hu⟩ := k.trk p z
  rw [hp] at hu
  cases hu⟩
/-- the slots do not know it -/
theorem apartN {B : Addr → Prop} {env e3 : En} {σ σ3 : L2.St} {H H3 : Hp} {p : Addr} {H0 : Hp} (k : EnvOk F B env σ H0) (hp : H0 p = none) (x : Ext env σ H e3 σ3 H3) (k3 : EnvOk F (fun b => B b ∨ b = p) e3 σ3 H3) : ∀ (s : Sl) (i : Nat) (d : D), e3[i]? = some s → s.lent = some d → σ3[i]? ≠ some (some (V.ref p)) := fun s i d h1 h2 h3 => by
  cases s with
  | un => cases h2
  | val d => cases h2
  | ex ns ds => cases h2
  | own d =>
    obtain ⟨a, e4, n, _⟩ := k3.ok i _ _ h1 h3
    cases e4
    exact n (.inr rfl)
  | mt d =>
    obtain ⟨⟨d0, g0⟩, g1⟩ := x.mt i d h1
    rw [h3] at g1
    obtain ⟨a, e4, _, w⟩ := k.ok i _ _ g0 g1.symm
    cases e4
    obtain ⟨u, hu⟩ := w.some
    rw [hp] at hu
    cases hu
  | br d =>
    obtain ⟨⟨d0, g0⟩, g1⟩ := x.br i d h1
    rw [h3] at g1
    obtain ⟨a, e4, _, w⟩ := k.ok i _ _ g0 g1.symm
    cases e4
    obtain ⟨u, hu⟩ := w.some
    rw [hp] at hu
    cases hu
theorem dctOf_den {O : Addr → Prop} {H : Hp} {v : V} {d : D} {ks : List Key} {ds : List D} (h : Den F O H v d) (e : dctOf d = some (ks, ds)) : ∃ a more, v = .ref a ∧ ¬ O a ∧ Rd H a (.dK more) ∧ more.map (·.1) = ks ∧ Dens F O H (more.map (·.2)) ds := by
  cases d with
  | dct ks' ds' =>
    cases e
    cases h with
    | ob w n =>
      cases w with
      | dct e1 e2 dd => exact ⟨_, _, rfl, n, .inl e1, e2, dd⟩
  | dcl ks' ds' =>
    cases e
    cases h with
    | ob w n =>
      cases w with
      | dcl e1 e2 dd => exact ⟨_, _, rfl, n, .inr ⟨_, e1⟩, e2, dd⟩
  | _ => cases e
theorem dn_star (he : DE F W X e f) (hs : eval (.Dict [none] [e] pos) X.env = (do standAt pos; dictDisplay [(none, do let x ← eval e X.env; standAt pos; pure x)]) := by rfl) : DN F W X (.Dict [none] [e] pos) (eStar f) := .of (pe_star he hs) fun σ H Q ⟨B, env, k, p0⟩ => by
  intro p hp
  have sm : Same H (upd H p (.dK [])) := same_new hp
  obtain ⟨kB, nB⟩ := TN_new (o := .dK []) k hp
  have x0 : Ext env σ H env σ (upd H p (.dK [])) := Ext.new sm
  have p0 : Post F W B σ env H (fun d e' H' => ∀ q, H q = none → Fresh F B e' σ H' q d → Q (.ref q) H') ((f env).bind fun d e1 => match dctOf d with
    | some (ks, ds) => if decide (ks.length ≤ 1000000) = true then .ok (.dct (mergeP ks ds ([], [])).1 (mergeP ks ds ([], [])).2) e1 else .stuck
    | none => .stuck) := p0
  refine ⟨_, env, kB, ?_⟩
  cases hf : f env with
  | stuck =>
    rw [hf] at p0
    exact p0.elim
  | exc c ns es e1 =>
    rw [hf] at p0
    intro dx H1 x1 k1 ex
    have xx := x0.trans x1
    refine p0 dx H1 xx (lessB k1 (apartN k hp x1 k1)) ?_
    rcases ex with ex | ⟨a, fs, g1, g2, g3, g4, g5⟩
    · exact .inl ex
    · exact .inr ⟨a, fs, g1, fun z => g2 (z.elim (fun z => .inl (.inl z)) .inr), g3, g4, g5.anti fun b z => z.elim (fun z => .inl (.inl z)) .inr⟩
  | ok d e1 =>
    rw [hf] at p0
    intro H1 x1 k1 v dv
    have p0 : Post F W B σ env H (fun d e' H' => ∀ q, H q = none → Fresh F B e' σ H' q d → Q (.ref q) H') (match dctOf d with
      | some (ks, ds) => if decide (ks.length ≤ 1000000) = true then .ok (.dct (mergeP ks ds ([], [])).1 (mergeP ks ds ([], [])).2) e1 else .stuck
      | none => .stuck) := p0
    cases hd : dctOf d with
    | none =>
      rw [hd] at p0
      exact p0.elim
    | some kd =>
      obtain ⟨ks, ds⟩ := kd
      rw [hd] at p0
      have p0 : Post F W B σ env H (fun d e' H' => ∀ q, H q = none → Fresh F B e' σ H' q d → Q (.ref q) H') (if decide (ks.length ≤ 1000000) = true then .ok (.dct (mergeP ks ds ([], [])).1 (mergeP ks ds ([], [])).2) e1 else .stuck) := p0
      by_cases hz : decide (ks.length ≤ 1000000) = true
      case neg =>
        rw [if_neg hz] at p0
        exact p0.elim
      rw [if_pos hz] at p0
      obtain ⟨a, more, rfl, n, ha, hks, dd⟩ := dctOf_den dv hd
      subst hks
      have ap := apartN k hp x1 k1
      have hpa : p ≠ a := fun z => n (.inl (.inr z.symm))
      have hp1 : H1 p = some (.dK []) := x1.keep p _ (fun ⟨j, dj, g1, g2⟩ => kB.ownB ⟨j, dj, g1, g2⟩ (.inr rfl)) (fun ⟨j, dj, g1, g2⟩ => apartN k hp (Ext.refl env σ _) kB _ j dj g1 rfl g2) upd_same
      refine ⟨a, more, rfl, hpa, ha, hp1, by have := of_decide_eq_true hz; rw [List.length_map] at this; exact this, ?_⟩
      have k2 := k1.turn (o := .dK (mergeK [] more)) ap
      obtain ⟨m1, m2⟩ := merge_den (kvs := []) (es := []) dd .nil
      have d2 : Dens F (Os (fun b => B b ∨ b = p) e1 σ) (upd H1 p (.dK (mergeK [] more))) ((mergeK [] more).map (·.2)) (mergeP (more.map (·.1)) ds ([], [])).2 := m2.mono fun b o n e => ⟨by rw [upd_ne (fun z => n (.inl (.inr z)))]; exact e, n⟩
      have xx : Ext env σ H e1 σ (upd H1 p (.dK (mergeK [] more))) := by
        have y := x0.trans x1
        exact ⟨fun b o n1 n2 e => by rw [upd_ne (ne_of_none e hp)]; exact y.keep b o n1 n2 e, y.own, y.mt, y.br, fun b o e => by rw [upd_ne (ne_of_none e hp)]; exact y.dom b o e⟩
      exact p0 _ xx (lessB k2 ap) p hp ⟨k2, nB, ap, .dct upd_same m1 d2⟩
end
end Dl

/-! D22: repr; defs that are called where no repr runs; small things. -/
namespace Dl
open PySem PySem.Spec PyProof.Rows L2

/-- a promise for calls where no repr is under way -/
structure FnOkG (P : Program) (w : World) (K : PySem.W.Frag) (mg : Str → Option Value) (base : Heap) (CX : CXT) (k : Nat) (f : Addr) (fd : FuncData) (ps : List Str) (sp : Sp) : Prop where
  len : ∀ vs H Q E, sp vs H Q E → vs.length = ps.length
  run : ∀ (A : Around) (outer : List Env) (s : Shared) (H : Hp) (args : Args) (us : List Value) (vs : List V) (Q : VK) (E : XK), Room k A → A.guards = some [] → Env0 P w K mg base A outer s H → BindsTo s fd args (ps.zip us) → Vals vs us → sp vs H Q E →
    codeAny (model P w) A (.call (.ref f) args) (CR CX outer P w H s Q E) s
theorem FnOkG.of {P : Program} {w : World} {K : PySem.W.Frag} {mg : Str → Option Value} {base : Heap} {CX : CXT} {k : Nat} {f : Addr} {fd : FuncData} {ps : List Str} {sp : Sp} (F : FnOk P w K mg base CX k f fd ps sp) : FnOkG P w K mg base CX k f fd ps sp :=
  ⟨F.len, fun A outer s H args us vs Q E hr _ => F.run A outer s H args us vs Q E hr⟩
theorem FnOkG.mono {P : Program} {w : World} {K : PySem.W.Frag} {mg : Str → Option Value} {base : Heap} {CX : CXT} {j k : Nat} {f : Addr} {fd : FuncData} {ps : List Str} {sp : Sp} (F : FnOkG P w K mg base CX j f fd ps sp) (h : j ≤ k) : FnOkG P w K mg base CX k f fd ps sp :=
  ⟨F.len, fun A outer s H args us vs Q E hr => F.run A outer s H args us vs Q E (hr.mono h)⟩
section
variable {P : Program} {w : World} {K : PySem.W.Frag} {mg : Str → Option Value} {base : Heap}
theorem fn_okG {CE : Str → Addr} {x qual : Str} {st : Stmt} {f : Addr} {fd : FuncData} {N ps : List Str} {k : Nat} {ms : List Mode} {g : SSem} (Fu : Fun K x qual st f fd) (S : FnScope N ps (defScope st)) (hm : ms.length = ps.length) (hn : ms.length ≤ N.length)
    (hbody : ∀ (cdv : Value) (A : Around) (outer : List Env) (s : Shared) (H : Hp) (E : XK), Room k (A.deeper (PyProof.Rows.envOfC qual (defScope st) s.heap.objs.size f cdv)) → A.guards = some [] →
      DSs ⟨K, CE, none⟩ (WE' E) (cxOf (L2.CX P w) P w K mg base N qual (defScope st) f cdv A outer s H E) (defBody st) g) : FnOkG P w K mg base (L2.CX P w) (k + 1) f fd ps (spF ⟨K, CE, none⟩ ms (fnOf ms N.length g)) := by
  obtain ⟨oc, od, kV, doc, pm, an, cdv, ct, osl, rfl, lk, hcd⟩ := Fu.ex
  have len : ∀ vs H Q E, spF ⟨K, CE, none⟩ ms (fnOf ms N.length g) vs H Q E → vs.length = ps.length := fun vs H Q E ⟨B, ds, t, r, _⟩ => by rw [r.len.1, hm]
  refine ⟨len, fun A outer s H args us vs Q E hr hG e0 hb r hsp => ?_⟩
  have hl := len _ _ _ _ hsp
  have KX : K.In s.heap := e0.mod.kin.keeps fun b o e => (e0.bs b o e).1
  have lim : s.heap.NoLimit := e0.mod.nolimit.keeps fun b o e => (e0.bs b o e).1
  have hkind : ∀ y ∈ ps.zip us, (defScope st).names.lookup y.1 = some .local ∨ ((defScope st).names.lookup y.1 = some .cell ∧ ((cellsFrom (s.heap.objs.size + 1) (defScope st).names []).lookup y.1).isSome = true) := fun ⟨n, v⟩ hy => by
    rcases S.par n (List.of_mem_zip hy).1 with q | q
    · exact .inl q
    · exact .inr ⟨q, PySem.W.cellsFrom_some _ _ _ (.inl q)⟩
  refine codeAny_call_function hr.depth (KX _ _ lk) rfl S.co S.gen rfl (PySem.W.codeRec_of KX hcd) (hb _ _ _ _ ?_)
  refine wpAny_newFunctionEnv_cells S.kind hkind fun env he s1 x => ?_
  subst he
  refine ⟨lim.keeps x.toInCall.keep, codeAny_func ?_⟩
  have I : Inv (cxOf (L2.CX P w) P w K mg base N qual (defScope st) f cdv A outer s H E) [] (start N vs) H s1 := inv_start S hr.hd e0 hl r x
  refine wpAny_mono ((hbody cdv A outer s H E (hr.deeper _) hG).run [] s1 (start N vs) H _ I (fn_sp hn hsp)) (fun fl s' hs => ?_) fun e s' hs => hs
  have fin : ∀ {σ' : L2.St} {H' : Hp} {v : V} {u : Value}, Inv (cxOf (L2.CX P w) P w K mg base N qual (defScope st) f cdv A outer s H E) [] σ' H' s' → RelV v u → Q v H' → L2.CE outer P w H s Q u s' :=
    fun {σ' H' v u} J rv q => ⟨v, H', J.os, J.bare, J.base, J.hok, rv, q⟩
  cases fl with
  | ret u =>
    obtain ⟨v, σ', H', J, rv, q⟩ := hs
    exact fin J rv q
  | next =>
    obtain ⟨σ', H', J, q⟩ := hs
    exact fin (v := V.non) (u := Value.none) J rfl q
  | brk =>
    obtain ⟨_, _, _, q⟩ := hs
    exact False.elim q
  | cont =>
    obtain ⟨_, _, _, q⟩ := hs
    exact False.elim q
end
section
variable {F : Cf} {W : WX} {X : Cx} {e : Expr} {es : List Expr} {g : GSemA} {ms : List Mode} {f : FSem} {pos p : Pos} {k : Nat} {fA : Addr} {fd : FuncData} {ps : List Str} {x : Str}
theorem d_callG (tk : Takes X W) (hG : X.A.guards = some []) (G : FnOkG X.prog X.w X.K X.mg X.base (L2.CX X.prog X.w) k fA fd ps (spF F ms f)) (hr : Room k X.A) (hg : Gl X x) (hm : X.mg x = some (.ref fA)) (hk : PySem.W.keepIn X.K (.ref fA) = true) (hb : Binds X.K fd ps [])
    (ha : DG F W X (e :: es) g) (hdb : (x == ("__debug__" : Str)) = false := by decide) (he : starEach (e :: es) X.env = (false, eval e X.env) :: starEach es X.env := by rfl) (hpl : (backTo pos (starEach es X.env)).any (·.1) = false := by rfl) :
    DE F W X (.Call (.Name x p) (e :: es) [] pos) (eCall ms f g) := by
  refine ⟨fun pins s σ H Q I h => ?_⟩
  refine wpAny_Call_Name_kw (ld_glob I hg hm ?_ hdb)
  refine PySem.W.callWith_K (h₀ := X.base) I.ok.mod.kin hk (thn (ha.run pos pins s σ H _ I (t_call h)) fun us s1 ⟨vs, H1, I1, r, q⟩ => ⟨I1.kIn, ?_⟩) he hpl
  have hl : us.length = ps.length := by rw [← r.length]; exact G.len _ _ _ _ q
  have b := hb s1 us I1.kIn (by rw [List.append_nil]; exact hl)
  rw [List.append_nil] at b
  refine wpAny_call (codeAny_mono (G.run X.A X.stack s1 H1 ⟨us, []⟩ us vs Q (WE W σ) hr hG I1.env0 b r q) fun r s' hq => ?_)
  cases r with
  | error e => exact (passAt tk σ) pins H1 s1 e s' I1 hq
  | ok fl =>
    cases fl with
    | ret u => exact I1.after hq
    | next => exact False.elim hq
    | brk => exact False.elim hq
    | cont => exact False.elim hq

/-! ### repr -/
/-- data that repr shows: its text -/
def reprOf (d : D) : Option Str := (toPy d).bind fun q => if (q.showable && !q.hasDict && decide (q.depth ≤ 20) && decide (q.shown.length ≤ 1000000)) = true then some q.shown else none
def gRepr (d : D) : Option D := (reprOf d).map D.str
theorem one_repr {A : Around} {pins : List (Addr × Obj)} {σ : L2.St} {H : Hp} {s : Shared} {u : Value} {v : V} {q : PyData} {Q : VK} {E : Value → Shared → Prop} (hG : A.guards = some []) (hu : A.units + 30 < cLine) (I : Inv X pins σ H s) (hp : Dp X.K H v q) (r : RelV v u)
    (h1 : q.showable = true) (h2 : q.hasDict = false) (h3 : q.depth ≤ 20) (h4 : q.shown.length ≤ 1000000) (h : Q (.str q.shown) H) : wpAny (model X.prog X.w) A (call (.builtin "repr") [u]) (EP X pins σ Q) E s := by
  obtain ⟨as, rd⟩ := hp.reads I q v u r
  have hz : q.shown.length ≤ sizeLine := by rw [sizeLine_eq]; omega
  cases rd with
  | none =>
    refine PySem.P.repr_of_none ⟨.str _, H, I.tok _, ⟨_, rfl⟩, ?_⟩
    rw [PyData.shown_none] at h
    exact h
  | bool b =>
    refine PySem.P.repr_of_bool ⟨.str _, H, I.tok _, ⟨_, rfl⟩, ?_⟩
    rw [PyData.shown_bool] at h
    exact h
  | int i t =>
    have hi : i.natAbs.log2 < 1920 := by
      have h5 : decide (i.natAbs.log2 < 1920) = true := by simpa [PyData.showable] using h1
      exact of_decide_eq_true h5
    refine PySem.P.repr_of_int hi ⟨.str _, H, I.tok _, ⟨_, rfl⟩, ?_⟩
    rw [PyData.shown_int] at h
    exact h
  | str x t =>
    refine PySem.P.repr_of_str ⟨.str _, H, I.tok _, ⟨_, rfl⟩, ?_⟩ ?_
    · rw [PyData.shown_str] at h
      exact h
    · rw [PyData.shown_str] at hz
      exact hz
  | list a b c d =>
    exact repr_of_reads' (.list a b c d) h1 (PyData.noDict_hsm h2) hG (by omega) (fun _ _ e => e) (fun h' u tk kk => ⟨.str _, H, I.kept kk, ⟨_, rfl⟩, h⟩) hz
  | tuple a b c d =>
    exact repr_of_reads' (.tuple a b c d) h1 (PyData.noDict_hsm h2) hG (by omega) (fun _ _ e => e) (fun h' u tk kk => ⟨.str _, H, I.kept kk, ⟨_, rfl⟩, h⟩) hz
  | dict a b c d e => simp [PyData.hasDict] at h2
end
theorem law_callG {P : Program} {w : World} {K : PySem.W.Frag} {mg mb : Str → Option Value} {CX : CXT} {k : Nat} {fa a : Addr} {fd : FuncData} {x : Str} {sp : Sp} {s₁ : Shared} {vs : List Value} {ns : List Int}
    (KX : K.In s₁.heap) (hns : s₁.heap.Ns mainGlobals mg) (hb : s₁.heap.Ns builtinsNs mb) (hbb : ∀ x : Str, x ≠ "__name__" → mb x = bootBuiltins x) (hlim : s₁.heap.NoLimit) (hg : s₁.gens = #[])
    (ha : s₁.heap.get? a = some { cls := .type "list", data := .seq vs.toArray }) (hi : IntsAre vs ns) (hl : ns.length ≤ sizeLine) (hr : Room k callerA)
    (F : ∀ base : Heap, K.In base → base.Ns mainGlobals mg → FnOkG P w K mg base CX k fa fd [x] sp) (hbind : ∀ (s : Shared) (u : Value), K.In s.heap → BindsTo s fd ⟨[u], []⟩ [(x, u)])
    (hsp : ∀ H : Hp, Only H → SqL K H a (ns.map V.int) → sp [.ref a] H (fun v _ => v = .bl true) fun _ _ _ => False)
    (hCX : ∀ H e s', CX [] H s₁ (fun _ _ _ => False) e s' → False) :
    codeAny (model P w) callerA (.call (.ref fa) ⟨[.ref a], []⟩) (fun r s' => r = .ok (.ret (.bool true)) ∧ OldK s₁.heap s'.heap ∧ s'.os = s₁.os ∧ AllBare s'.gens) s₁ := by
  have rv := vals_ints hi
  have lenV := hi.length
  -- from an abstract heap in which nothing but the script may be tracked
  have core : ∀ H : Hp, Only H → SqL K H a (ns.map V.int) → HOk P w H s₁.heap → (∀ b, H b ≠ none → b = a) → (H a ≠ none → K.lookup a = none) →
      codeAny (model P w) callerA (.call (.ref fa) ⟨[.ref a], []⟩) (fun r s' => r = .ok (.ret (.bool true)) ∧ OldK s₁.heap s'.heap ∧ s'.os = s₁.os ∧ AllBare s'.gens) s₁ := by
    intro H hO hS hok hA hK
    have base_of : ∀ {b : Addr} {o : Obj}, s₁.heap.get? b = some o → H b = none → (hidT s₁.heap H).get? b = some o := fun e n => hidT_get e n
    have noA : ∀ {b : Addr} {o : Obj} {es : Array DictEntry} {ep : Nat}, s₁.heap.get? b = some o → o.data = .dict es ep → H b = none := fun {b o es ep} e d => by
      cases q : H b with
      | none => rfl
      | some u =>
        have e' : b = a := hA b (by rw [q]; simp)
        subst e'
        rw [ha] at e; cases e
        have d' : Data.seq vs.toArray _ = Data.dict es ep := d
        cases d'
    have nsK : ∀ {b : Addr} {m : Str → Option Value}, s₁.heap.Ns b m → (hidT s₁.heap H).Ns b m := fun {b m} ⟨o, es, ep, e, d, r⟩ => ⟨o, es, ep, base_of e (noA e d), d, r⟩
    have hKb : K.In (hidT s₁.heap H) := fun b o e => base_of (KX b o e) (by
      cases q : H b with
      | none => rfl
      | some u =>
        have e' : b = a := hA b (by rw [q]; simp)
        subst e'
        rw [hK (by rw [q]; simp)] at e; cases e)
    have hM : Mod K mg (hidT s₁.heap H) := ⟨hKb, nsK hns, ⟨mb, nsK hb, hbb⟩, let ⟨mc, h1, h2⟩ := hlim; ⟨mc, nsK h1, h2⟩⟩
    have e0 : Env0 P w K mg (hidT s₁.heap H) callerA [] s₁ H := ⟨rfl, hM, fun b o e => of_hidT e, Nat.le_of_eq (hidT_size _ _), trivial, fun b hb => absurd (show b ∈ ([] : List Addr) from hb) (by simp), hok, .of_eq hg⟩
    refine codeAny_mono ((F _ hKb (nsK hns)).run callerA [] s₁ H ⟨[.ref a], []⟩ [.ref a] [.ref a] _ _ hr rfl e0 (hbind s₁ (.ref a) KX) (.cons rfl .nil) (hsp H hO hS)) fun r s' h => ?_
    cases r with
    | error e => exact (hCX H e s' h).elim
    | ok fl =>
      cases fl with
      | next => exact False.elim h
      | brk => exact False.elim h
      | cont => exact False.elim h
      | ret u =>
        obtain ⟨v, H', os, bare, un, hok', r', q⟩ := h
        have q' : v = .bl true := q
        subst q'
        obtain rfl : u = Value.bool true := r'
        refine ⟨rfl, OldK.of_keep fun b o e => ?_, os, bare⟩
        cases q : H b with
        | none => exact un.keep b o e q (by intro z; exact absurd (show b ∈ ([] : List Addr) from z) (by simp)) (by simp)
        | some u =>
          rcases hO b with z | ⟨ob, xs, z⟩
          · rw [q] at z; cases z
          · have z2 := un.frzs b ob _ z
            obtain ⟨e1, _⟩ := hok b _ z
            obtain ⟨e2, _⟩ := hok' b _ z2
            rw [e] at e1; cases e1
            exact e2
  cases hk : K.lookup a with
  | some o =>
    -- the script is one of the module's own objects
    have e := KX a o hk
    rw [ha] at e
    cases e
    refine core (fun _ => none) (fun _ => .inl rfl) (.inr ⟨_, vs.toArray, _, hk, rfl, rfl, rfl, by rw [List.size_toArray, lenV]; exact hl, by simpa using rv⟩) (fun b u z => by have z' : (none : Option HO) = some u := z; cases z') (fun b z => absurd rfl z) fun z => absurd rfl z
  | none =>
    refine core (fun b => if b = a then some (.frz { cls := .type "list", data := .seq vs.toArray } (.lst (ns.map V.int))) else none) (fun b => ?_) (.inl (.inr ⟨{ cls := .type "list", data := .seq vs.toArray }, if_pos rfl⟩)) (fun b u z => ?_) (fun b z => ?_) fun _ => hk
    · by_cases hb : b = a
      · exact .inr ⟨_, _, if_pos hb⟩
      · exact .inl (if_neg hb)
    · by_cases hb : b = a
      · have z' := (if_pos hb).symm.trans z
        cases z'
        subst hb
        exact ⟨ha, by rw [List.length_map]; exact hl, vs, _, rv, ha⟩
      · have z' := (if_neg hb).symm.trans z
        cases z'
    · by_cases hb : b = a
      · exact hb
      · exact absurd (if_neg hb) z

/-- a law: F gives the written part, the function object, the promise over every base -/
theorem walk_ofG {l : PySem.W.OpenLaw} {n k : Nat} {q : Program} {loose : List Str} {XP : (Str → Option Value) → Heap → Prop} {YP : World → Heap → Prop} {d : DefRec} {CX : World → CXT} {x : Str}
    (hn : l.most = some n) (hn2 : n ≤ sizeLine) (hdf : d.params.defaults = []) (hr : Room k callerA)
    (F : ∀ (w : World) (mg : Str → Option Value) (fa : Addr) (h : Heap), YP w h → h.Ns mainGlobals mg → mg d.name = some (.ref fa) →
      ∃ (K : PySem.W.Frag) (fd : FuncData) (sp : Sp), K.In h ∧ (∀ (s : Shared) (u : Value), K.In s.heap → BindsTo s fd ⟨[u], []⟩ [(x, u)]) ∧
        (∀ (H : Hp) (a : Addr) (ns : List Int), ns.length ≤ n → Only H → SqL K H a (ns.map V.int) → sp [.ref a] H (fun v _ => v = .bl true) fun _ _ _ => False) ∧
        ∀ base : Heap, K.In base → base.Ns mainGlobals mg → FnOkG l.prog w K mg base (CX w) k fa fd [x] sp)
    (hCX : ∀ (w : World) (H : Hp) (s : Shared) (e : Value) (s' : Shared), CX w [] H s (fun _ _ _ => False) e s' → False) :
    PySem.W.WalkO q loose XP YP l.row.toRowW d [] (fun f vs => PySem.call f vs) := by
  refine Att.attach_call hn hdf fun w s₀ s₁ mg mb fa o pm cd doc a vs ns G Y ho hd hcd hmg hobj hints hlen hg => ?_
  obtain ⟨K, fd, sp, KX, hb, hsp, hF⟩ := F w mg fa _ Y G.T.g hmg
  exact law_callG KX G.T.g G.T.b G.T.builtins G.T.nolimit hg hobj hints (Nat.le_trans hlen hn2) hr hF hb (fun H hO hS => hsp H a ns hlen hO hS) fun H e s' => hCX w H s₁ e s'
end Dl

/-! D23: small operations. -/
namespace Dl
open PySem PySem.Spec PyProof.Rows L2
section
variable {F : Cf} {W : WX} {X : Cx} {a b e o : Expr} {fa fb fe fo : ESem} {pos p p1 p2 p3 cpos apos : Pos}
/-- repr(e) -/
def rRepr (K : PySem.W.Frag) : List V → Hp → VK → Prop := fun xs H Q => ∃ v q, xs = [v] ∧ Dp K H v q ∧ q.showable = true ∧ q.hasDict = false ∧ q.depth ≤ 20 ∧ q.shown.length ≤ 1000000 ∧ Q (.str q.shown) H
theorem call_repr (hG : X.A.guards = some []) (hu : X.A.units + 30 < cLine) : CallR X (.builtin "repr") (rRepr X.K) := by
  intro pins s σ H xs us Q I r h
  obtain ⟨v, q, rfl, hp, h1, h2, h3, h4, hq⟩ := h
  obtain ⟨u, rfl, ru⟩ := vals1 r
  exact one_repr hG hu I hp ru h1 h2 h3 h4 hq
theorem ok_repr : OkUP F (fun x H Q => rRepr F.K [x] H Q) gRepr := fun O H x dx dz Q t h e q => by
  obtain ⟨z, hz, rfl⟩ := Option.map_eq_some_iff.mp e
  obtain ⟨pd, h1, h2⟩ := Option.bind_eq_some_iff.mp hz
  split at h2
  · rename_i hc
    cases h2
    simp only [Bool.and_eq_true, Bool.not_eq_true', decide_eq_true_eq] at hc
    exact ⟨x, pd, rfl, denP_py h h1, hc.1.1.1, hc.1.1.2, hc.1.2, hc.2, q _ H (Same.refl H) (.str _)⟩
  · cases h2
theorem d_repr (hK : X.K = F.K) (hG : X.A.guards = some []) (hu : X.A.units + 30 < cLine) (hg : Gl X "repr") (hm : X.mg "repr" = none) (h : DE F W X e fe)
    (he : starEach [e] X.env = (false, eval e X.env) :: starEach [] X.env := by rfl) (hpl : (backTo pos (starEach [] X.env)).any (·.1) = false := by rfl) : DE F W X (.Call (.Name "repr" p) [e] [] pos) (eUn gRepr fe) :=
  .of (pe_callB (call_repr hG hu) hg hm boot_repr (pa_cons h pa_nil he) (by decide) (by decide) he hpl) fun σ H Q ⟨B, env, k, p0⟩ => ⟨B, env, k, p0.split.imp fun d e1 H1 x1 k1 p1 v dv => by
    obtain ⟨z, hz, q⟩ := t_lift (P := fun _ => True) k1 p1
    rw [hK]
    exact ok_repr _ H1 v d z Q (fun a => k1.trkO) (.inl dv) hz q⟩
/-- x is True -/
def gIsB : D → D → Option D
  | .bl x, .bl y => some (.bl (decide (x = y)))
  | _, _ => none
def gNotB : D → D → Option D
  | .bl x, .bl y => some (.bl (!decide (x = y)))
  | _, _ => none
theorem ok_isB : OkR F rIsB gIsB := fun O H x y dx dy dz Q t a b e q => by
  unfold gIsB at e
  split at e
  · cases e
    exact ⟨_, _, den_bl a, den_bl b, q _ H (Same.refl H) (.bl _)⟩
  · cases e
theorem ok_notB : OkR F rNotB gNotB := fun O H x y dx dy dz Q t a b e q => by
  unfold gNotB at e
  split at e
  · cases e
    exact ⟨_, _, den_bl a, den_bl b, q _ H (Same.refl H) (.bl _)⟩
  · cases e
/-- xs.count(k), whole numbers -/
def gCount : D → D → Option D
  | .lst ds, .int k => (toInts ds).map fun ns => .int (ns.count k : Nat)
  | _, _ => none
def eBM (T : String) (g : D → D → Option D) (fo fe : ESem) : ESem := fun env => (fo env).bind fun x e1 => if tyD T x = true then (fe e1).bind fun y e2 => lift (g x y) e2 else .stuck
theorem tyD_den {O : Addr → Prop} {H : Hp} {v : V} {d : D} {T : String} (h : Den F O H v d) (e : tyD T d = true) : tyV F.K T v H := by
  cases h with
  | ob w n => exact tyD_V w e
  | tupK _ _ => cases e
  | lstK _ _ => cases e
  | _ => cases e
theorem t_bm {r : V → List V → Hp → VK → Prop} {g : D → D → Option D} {T : String} (hr : OkR F (fun x y H Q => r x [y] H Q) g) {σ : L2.St} {H : Hp} {Q : VK} (h : Dl.T F W (eBM T g fo fe) σ H Q) : tBM F.K T r (Dl.T F W fo) (tCons (Dl.T F W fe) tNil) σ H Q := by
  obtain ⟨B, env, k, p⟩ := h
  refine ⟨B, env, k, p.split.imp fun x e1 H1 x1 k1 p1 v dv => ?_⟩
  by_cases ht : tyD T x = true
  · rw [if_pos ht] at p1
    refine ⟨tyD_den dv ht, B, e1, k1, p1.split.imp fun y e2 H2 x2 k2 p2 u du => ?_⟩
    obtain ⟨z, hz, q⟩ := t_lift (P := fun _ => True) k2 p2
    exact hr _ H2 v u x y z Q (fun a => k2.trkO) (x2.den k1 dv) du hz q
  · rw [if_neg ht] at p1
    exact p1.elim
theorem ok_count : OkR F (fun x y H Q => rCntI F.K x [y] H Q) gCount := fun O H x y dx dy dz Q t a b e q => by
  unfold gCount at e
  split at e
  · obtain ⟨ns, h1, h2⟩ := Option.map_eq_some_iff.mp e
    subst h2
    obtain ⟨l, xs, rfl, hs, dd⟩ := DenP.lst (.inl a)
    have ev := intsV h1 dd
    subst ev
    exact ⟨l, ns, _, rfl, by rw [den_int b], SqL.of hs, q _ H (Same.refl H) (.int _)⟩
  · cases e
theorem d_count (hK : X.K = F.K) (ho : DE F W X o fo) (he : DE F W X e fe) (hbase : attributeBase o "count" X.env (eval o X.env) = eval o X.env := by rfl)
    (hfew : ((backTo cpos (starEach [e] X.env)).all (fun x => !x.1) && (backToKw cpos (keywordEach [] X.env)).all (fun x => x.1.isSome)
      && decide (([e] : List Expr).length + ([] : List Keyword).length + (if ([] : List Keyword).isEmpty then 0 else 1) < 30)) = true := by rfl)
    (hline : (apos.endLine == cpos.line) = true := by rfl) (hs : starEach [e] X.env = (false, eval e X.env) :: starEach [] X.env := by rfl) (hplain : (backTo cpos (starEach [] X.env)).any (·.1) = false := by rfl) :
    DE F W X (.Call (.Attribute o "count" apos) [e] [] cpos) (eBM "list" gCount fo fe) :=
  .of (pe_bm PySem.F.plainAttrs_list PySem.F.slot_list_count PySem.F.type_list_count mt_lcount ho (pa_cons he pa_nil hs) hbase hfew hline hs hplain) fun σ H Q h => by
    rw [hK]
    exact t_bm ok_count h
/-- isinstance(x, (A, B)) -/
theorem de_isi2 {c1 c2 : Str} {T1 T2 : String} {n0 : Nat} (hK : X.K = F.K) (hg : Gl X "isinstance") (hm : X.mg "isinstance" = none) (hg1 : Gl X c1) (hm1 : X.mg c1 = none) (hv1 : bootBuiltins c1 = some (.type T1)) (hg2 : Gl X c2) (hm2 : X.mg c2 = none) (hv2 : bootBuiltins c2 = some (.type T2)) (ha : DE F W X a fa)
    (hn1 : c1 ≠ "__name__" := by decide) (hdb1 : (c1 == ("__debug__" : Str)) = false := by decide) (hn2 : c2 ≠ "__name__" := by decide) (hdb2 : (c2 == ("__debug__" : Str)) = false := by decide)
    (he : starEach [a, .Tuple [.Name c1 p1, .Name c2 p2] n0 p3] X.env = (false, eval a X.env) :: starEach [.Tuple [.Name c1 p1, .Name c2 p2] n0 p3] X.env := by rfl) (hpl : (backTo pos (starEach [.Tuple [.Name c1 p1, .Name c2 p2] n0 p3] X.env)).any (·.1) = false := by rfl)
    (hs : starEach [.Tuple [.Name c1 p1, .Name c2 p2] n0 p3] X.env = (false, eval (.Tuple [.Name c1 p1, .Name c2 p2] n0 p3) X.env) :: starEach [] X.env := by rfl)
    (hs1 : starEach [.Name c1 p1, .Name c2 p2] X.env = (false, eval (.Name c1 p1) X.env) :: starEach [.Name c2 p2] X.env := by rfl) (hs2 : starEach [.Name c2 p2] X.env = (false, eval (.Name c2 p2) X.env) :: starEach [] X.env := by rfl) :
    DE F W X (.Call (.Name "isinstance" p) [a, .Tuple [.Name c1 p1, .Name c2 p2] n0 p3] [] pos) (eUn (gIsi2 T1 T2) fa) :=
  .of (pe_callB call_isiT hg hm (by decide +kernel) (pa_cons ha (pa_cons (pe_tup (pa_cons (pe_bltn (v := .ty T1) hg1 hm1 hv1 rfl hn1 hdb1) (pa_cons (pe_bltn (v := .ty T2) hg2 hm2 hv2 rfl hn2 hdb2) pa_nil hs2) hs1)) pa_nil hs) he) (by decide) (by decide) he hpl) fun σ H Q ⟨B, env, k, p0⟩ => ⟨B, env, k, p0.split.imp fun d e1 H1 x1 k1 p1 v dv => by
    obtain ⟨z, hz, q⟩ := t_lift (P := fun _ => True) k1 p1
    obtain ⟨n, e2, e3⟩ := Option.bind_eq_some_iff.mp hz
    obtain ⟨b, e4, e5⟩ := Option.bind_eq_some_iff.mp e3
    rw [hK]
    refine ⟨by show 2 ≤ sizeLine; decide, fun tp htp => ?_⟩
    have sm : Same H1 (upd H1 tp (.tup [.ty T1, .ty T2])) := same_new htp
    have ty := ty_den (.inl (dv.grow sm)) e2
    have fin : ∀ r, z = .bl r → PySem.W.kitAny F.K (.type n) [.type T1, .type T2] = some r → rIsiT F.K [v, .ref tp] (upd H1 tp (.tup [.ty T1, .ty T2])) Q := fun r ez hk => by
      subst ez
      exact ⟨v, tp, [.ty T1, .ty T2], .type n, [.type T1, .type T2], r, rfl, upd_same, .cons (.ty T1) (.cons (.ty T2) .nil), ty, hk, q _ _ sm (.bl r)⟩
    cases b with
    | true =>
      have ez : z = .bl true := by
        rw [if_pos rfl] at e5
        exact (Option.some.inj e5).symm
      exact fin true ez (kitAny_cons (kit_ty e4) (fun z => by cases z) fun _ => rfl)
    | false =>
      rw [if_neg Bool.false_ne_true] at e5
      obtain ⟨r, e6, e7⟩ := Option.map_eq_some_iff.mp e5
      refine fin r e7.symm (kitAny_cons (kit_ty e4) (fun _ => ?_) fun z => by cases z)
      cases r with
      | true => exact kitAny_cons (kit_ty e6) (fun z => by cases z) fun _ => rfl
      | false => exact kitAny_cons (kit_ty e6) (fun _ => kitAny_nil) fun z => by cases z⟩
end
end Dl

/-! D24: promises in short. -/
namespace Dl
open PySem PySem.Spec PyProof.Rows L2
/-- a def's promise with all that a call of it needs -/
structure FnB (P : Program) (w : World) (K : PySem.W.Frag) (mg : Str → Option Value) (base : Heap) (k : Nat) (f : Addr) (ps : List Str) (sp : Sp) : Prop where
  ex : ∃ fd, FnOk P w K mg base (L2.CX P w) k f fd ps sp ∧ Binds K fd ps []
  kp : PySem.W.keepIn K (.ref f) = true
structure FnBI (P : Program) (w : World) (K : PySem.W.Frag) (mg : Str → Option Value) (base : Heap) (k : Nat) (f : Addr) (ps : List Str) (sp : Sp) : Prop where
  ex : ∃ fd, FnI P w K mg base (L2.CX P w) k f fd ps sp ∧ Binds K fd ps []
  kp : PySem.W.keepIn K (.ref f) = true
structure FnBG (P : Program) (w : World) (K : PySem.W.Frag) (mg : Str → Option Value) (base : Heap) (k : Nat) (f : Addr) (ps : List Str) (sp : Sp) : Prop where
  ex : ∃ fd, FnOkG P w K mg base (L2.CX P w) k f fd ps sp ∧ Binds K fd ps []
  kp : PySem.W.keepIn K (.ref f) = true
section
variable {P : Program} {w : World} {K : PySem.W.Frag} {mg : Str → Option Value} {base : Heap} {k j : Nat} {f : Addr} {ps : List Str} {sp : Sp}
theorem FnBI.b (h : FnBI P w K mg base k f ps sp) : FnB P w K mg base k f ps sp := ⟨let ⟨fd, a, b⟩ := h.ex; ⟨fd, a.ok, b⟩, h.kp⟩
theorem FnB.g (h : FnB P w K mg base k f ps sp) : FnBG P w K mg base k f ps sp := ⟨let ⟨fd, a, b⟩ := h.ex; ⟨fd, .of a, b⟩, h.kp⟩
/-- a def, by its body -/
theorem fn_b {CE : Str → Addr} {x qual : Str} {st : Stmt} {N : List Str} {ms : List Mode} {g : SSem} (Fu : ∃ fd, Fun K x qual st f fd) (S : FnScope N ps (defScope st)) (hm : ms.length = ps.length) (hn : ms.length ≤ N.length)
    (hb : ∀ (kV doc pm : Value) (an : Option Addr) (cdv ct : Value) (us : List Value), us.length = ps.length → bindArgs (PySem.W.fnOf x qual (defArgs st) (defBody st) (defScope st) .none kV doc pm an cdv ct) ⟨us, []⟩ = pure (ps.zip us))
    (hbody : ∀ (cdv : Value) (A : Around) (outer : List Env) (s : Shared) (H : Hp) (E : XK), Room k (A.deeper (PyProof.Rows.envOfC qual (defScope st) s.heap.objs.size f cdv)) →
      DSs ⟨K, CE, none⟩ (WE' E) (cxOf (L2.CX P w) P w K mg base N qual (defScope st) f cdv A outer s H E) (defBody st) g) : FnB P w K mg base (k + 1) f ps (spF ⟨K, CE, none⟩ ms (fnOf ms N.length g)) := by
  obtain ⟨fd, Fu⟩ := Fu
  exact ⟨⟨fd, fn_ok Fu S hm hn hbody, Fu.binds hb⟩, Fu.kp⟩
theorem fn_bI {CE : Str → Addr} {x qual : Str} {st : Stmt} {N : List Str} {ms : List Mode} {g : SSem} (Fu : ∃ fd, Fun K x qual st f fd) (S : FnScope N ps (defScope st)) (hm : ms.length = ps.length) (hn : ms.length ≤ N.length)
    (hb : ∀ (kV doc pm : Value) (an : Option Addr) (cdv ct : Value) (us : List Value), us.length = ps.length → bindArgs (PySem.W.fnOf x qual (defArgs st) (defBody st) (defScope st) .none kV doc pm an cdv ct) ⟨us, []⟩ = pure (ps.zip us))
    (hbody : ∀ (cdv : Value) (A : Around) (outer : List Env) (s : Shared) (H : Hp) (E : XK), L2H.RoomH k (A.deeper (PyProof.Rows.envOfC qual (defScope st) s.heap.objs.size f cdv)) →
      DSs ⟨K, CE, none⟩ (WE' E) (cxI (L2.CX P w) P w K mg base N qual (defScope st) f cdv A outer s H E) (defBody st) g) : FnBI P w K mg base (k + 1) f ps (spF ⟨K, CE, none⟩ ms (fnOf ms N.length g)) := by
  obtain ⟨fd, Fu⟩ := Fu
  exact ⟨⟨fd, fn_okI Fu S hm hn hbody, Fu.binds hb⟩, Fu.kp⟩
theorem fn_bG {CE : Str → Addr} {x qual : Str} {st : Stmt} {N : List Str} {ms : List Mode} {g : SSem} (Fu : ∃ fd, Fun K x qual st f fd) (S : FnScope N ps (defScope st)) (hm : ms.length = ps.length) (hn : ms.length ≤ N.length)
    (hb : ∀ (kV doc pm : Value) (an : Option Addr) (cdv ct : Value) (us : List Value), us.length = ps.length → bindArgs (PySem.W.fnOf x qual (defArgs st) (defBody st) (defScope st) .none kV doc pm an cdv ct) ⟨us, []⟩ = pure (ps.zip us))
    (hbody : ∀ (cdv : Value) (A : Around) (outer : List Env) (s : Shared) (H : Hp) (E : XK), Room k (A.deeper (PyProof.Rows.envOfC qual (defScope st) s.heap.objs.size f cdv)) → A.guards = some [] →
      DSs ⟨K, CE, none⟩ (WE' E) (cxOf (L2.CX P w) P w K mg base N qual (defScope st) f cdv A outer s H E) (defBody st) g) : FnBG P w K mg base (k + 1) f ps (spF ⟨K, CE, none⟩ ms (fnOf ms N.length g)) := by
  obtain ⟨fd, Fu⟩ := Fu
  exact ⟨⟨fd, fn_okG Fu S hm hn hbody, Fu.binds hb⟩, Fu.kp⟩
end
section
variable {F : Cf} {W : WX} {X : Cx} {e o : Expr} {es : List Expr} {fe : ESem} {g : GSemA} {h : ASem} {ms : List Mode} {f : FSem} {pos p apos : Pos} {j k n : Nat} {fA : Addr} {ps : List Str} {x m c : Str} {dp : Disp}
theorem c_call (tk : Takes X W) (G : FnB X.prog X.w X.K X.mg X.base j fA ps (spF F ms f)) (hj : j ≤ k) (hr : Room k X.A) (hm : X.mg x = some (.ref fA)) (hg : Gl X x)
    (ha : DG F W X (e :: es) g) (hdb : (x == ("__debug__" : Str)) = false := by decide) (he : starEach (e :: es) X.env = (false, eval e X.env) :: starEach es X.env := by rfl) (hpl : (backTo pos (starEach es X.env)).any (·.1) = false := by rfl) :
    DE F W X (.Call (.Name x p) (e :: es) [] pos) (eCall ms f g) := by
  obtain ⟨fd, a, b⟩ := G.ex
  exact d_call tk (a.mono hj) hr hg hm G.kp b ha hdb he hpl
theorem c_callG (tk : Takes X W) (hG : X.A.guards = some []) (G : FnBG X.prog X.w X.K X.mg X.base j fA ps (spF F ms f)) (hj : j ≤ k) (hr : Room k X.A) (hm : X.mg x = some (.ref fA)) (hg : Gl X x)
    (ha : DG F W X (e :: es) g) (hdb : (x == ("__debug__" : Str)) = false := by decide) (he : starEach (e :: es) X.env = (false, eval e X.env) :: starEach es X.env := by rfl) (hpl : (backTo pos (starEach es X.env)).any (·.1) = false := by rfl) :
    DE F W X (.Call (.Name x p) (e :: es) [] pos) (eCall ms f g) := by
  obtain ⟨fd, a, b⟩ := G.ex
  exact d_callG tk hG (a.mono hj) hr hg hm G.kp b ha hdb he hpl
theorem c_callI (hK : X.K = F.K) (G : FnBI X.prog X.w X.K X.mg X.base j fA ps (spF ⟨F.K, F.CE, none⟩ ms f)) (hj : j ≤ k) (hr : L2H.RoomH k X.A) (hm : X.mg x = some (.ref fA)) (hg : Gl X x)
    (ha : DG F W0 X (e :: es) g) (hdb : (x == ("__debug__" : Str)) = false := by decide) (he : starEach (e :: es) X.env = (false, eval e X.env) :: starEach es X.env := by rfl) (hpl : (backTo pos (starEach es X.env)).any (·.1) = false := by rfl) :
    DE F W0 X (.Call (.Name x p) (e :: es) [] pos) (eCall ms f g) := by
  obtain ⟨fd, a, b⟩ := G.ex
  exact d_callI hK (a.mono hj) hr hg hm G.kp b ha hdb he hpl
theorem c_make (tk : Takes X W) (M : Mk X.K (F.CE c) fA) (G : FnB X.prog X.w X.K X.mg X.base j fA ps (spF F (iniM n) f)) (hj : j + 1 ≤ k) (hr : Room k X.A) (hm : X.mg x = some (.ref (F.CE c))) (hg : Gl X x)
    (ha : DA F W X (e :: es) h) (hdb : (x == ("__debug__" : Str)) = false := by decide) (he : starEach (e :: es) X.env = (false, eval e X.env) :: starEach es X.env := by rfl) (hpl : (backTo pos (starEach es X.env)).any (·.1) = false := by rfl) :
    DE F W X (.Call (.Name x p) (e :: es) [] pos) (eMake c n f h) := by
  obtain ⟨fd, a, b⟩ := G.ex
  exact d_make tk M a (hr.mono hj) hg hm b ha hdb he hpl
/-- a class's method -/
theorem methOk (cl : Cls X.K (F.CE c)) (hm : Meth X.K (F.CE c) m fA) (G : FnB X.prog X.w X.K X.mg X.base j fA ps (spF F ms f)) (hj : j ≤ k) (hr : Room k X.A) : MethOk F X c m ms f := by
  obtain ⟨fd, a, b⟩ := G.ex
  exact ⟨cl, k, fA, fd, ps, hm, a.mono hj, hr, b⟩
end
end Dl

namespace Dl
open PySem PySem.Spec PyProof.Rows L2
/-! ### comparisons as tests -/
section
variable {F : Cf} {W : WX} {X : Cx} {a b c e : Expr} {fa fb fc f : ESem} {pos : Pos} {i : Nat}
/-- a boolean expression as a test -/
def bT (f : ESem) : BSem := fun env => (f env).bind fun d e1 => match d with | .bl b => .ok b e1 | _ => .stuck
theorem t_test {σ : L2.St} {H : Hp} {Q : Bool → Hp → Prop} (h : TB F W (bT f) σ H Q) : T F W f σ H fun x H' => ∃ k, x = .bl k ∧ Q k H' := by
  obtain ⟨B, env, k, p⟩ := h
  refine ⟨B, env, k, p.split.imp fun d e1 H1 x1 k1 p1 v dv => ?_⟩
  cases d with
  | bl b =>
    have ev : v = .bl b := by
      cases dv with
      | bl _ => rfl
      | ob w' n => cases w'
    exact ⟨b, ev, p1 H1 (Ext.refl _ _ _) k1⟩
  | _ => exact p1.elim
theorem dt_cmp {op : CmpOp} {r : R2} {g : D → D → Option D} (ho : OpR X (compareOp op) r) (hr : OkR F r g) (ha : DE F W X a fa) (hb : DE F W X b fb) (hm : behindInMarks op b = false) : DT F W X (.Compare a [op] [b] pos) (bT (eBin g fa fb)) :=
  .of (pt_cmpR ho ha hb hm) fun _ _ _ h => t_op hr (t_test h)
theorem dt_cmpL {op : CmpOp} {r : R2} {g : D → D → Option D} (ho : OpR X (compareOp op) r) (hr : OkRP F r g) (ha : PE X a (tVar i)) (hb : DE F W X b fb) (hm : behindInMarks op b = false) : DT F W X (.Compare a [op] [b] pos) (bT (eBinL g i fb)) :=
  .of (pt_cmpR ho ha hb hm) fun _ _ _ h => t_opL hr (t_test h)
theorem dt_cmpR {op : CmpOp} {r : R2} {g : D → D → Option D} (ho : OpR X (compareOp op) r) (hr : OkRP F r g) (ha : DE F W X a fa) (hb : PE X b (tVar i)) (hm : behindInMarks op b = false) : DT F W X (.Compare a [op] [b] pos) (bT (eBinR g fa i)) :=
  .of (pt_cmpR ho ha hb hm) fun _ _ _ h => t_opR hr (t_test h)
theorem t_chain {r r' : R2} {g g' : D → D → Option D} (hr : OkR F r g) (hr' : OkR F r' g') {σ : L2.St} {H : Hp} {Q : VK} (h : T F W (eChain g g' fa fb fc) σ H Q) : tChain r r' (T F W fa) (T F W fb) (T F W fc) σ H Q := by
  obtain ⟨B, env, k, p⟩ := h
  refine ⟨B, env, k, p.split.imp fun x e1 H1 x1 k1 p1 v dv => ⟨B, e1, k1, p1.split.imp fun y e2 H2 x2 k2 p2 u du => ?_⟩⟩
  obtain ⟨z, hz, q⟩ := Post.lift (e := e2) k2 p2.split
  refine hr _ H2 v u x y z _ (fun a => k2.trkO) (x2.den k1 dv) du hz fun v' H3 hs w => ?_
  have k3 := k2.grow hs
  have p3 : Post F W B σ e2 H3 _ _ := Post.ext (o := match z with
    | .bl true => (fc e2).bind fun w e4 => lift (g' y w) e4
    | .bl false => .ok (.bl false) e2
    | _ => .stuck) q (Ext.new hs)
  cases z with
  | bl c =>
    have ev : v' = .bl c := by
      cases w with
      | bl c => rfl
      | ob w' n => cases w'
    subst ev
    refine ⟨c, rfl, ?_⟩
    cases c with
    | false => exact p3 H3 (Ext.refl _ _ _) k3 _ (.bl false)
    | true =>
      refine ⟨B, e2, k3, Post.imp (Post.split p3) fun w e4 H4 x4 k4 p4 v4 dv4 => ?_⟩
      obtain ⟨z4, hz4, q4⟩ := t_lift (P := fun _ => True) k4 p4
      exact hr' _ H4 u v4 y w z4 Q (fun a => k4.trkO) (x4.den k3 (du.grow hs)) dv4 hz4 q4
  | _ => exact False.elim p3

theorem dt_chain {op op' : CmpOp} {r r' : R2} {g g' : D → D → Option D} (ho : OpR X (compareOp op) r) (ho' : OpR X (compareOp op') r') (hr : OkR F r g) (hr' : OkR F r' g') (ha : DE F W X a fa) (hb : DE F W X b fb) (hc : DE F W X c fc)
    (hm : lastMarks [op, op'] [b, c] = false) : DT F W X (.Compare a [op, op'] [b, c] pos) (bT (eChain g g' fa fb fc)) := .of (pt_chain ho ho' ha hb hc hm) fun σ H Q h => t_chain hr hr' (t_test h)
theorem dt_din (hu : X.A.units + 1 < cLine) (ha : DE F W X a fa) (hb : DE F W X b fb) (h1 : behindInMarks .In b = false := by rfl) : DT F W X (.Compare a [.In] [b] pos) (bT (eBin (gDIn false) fa fb)) := .of (pt_cmp (pc_din hu ha hb) h1) fun σ H Q h => t_op (r := rDIn false) (ok_din false).ok (t_test h)
theorem dt_dinP (hu : X.A.units + 1 < cLine) (ha : DE F W X a fa) (hb : PE X b (tVar i)) (h1 : behindInMarks .In b = false := by rfl) : DT F W X (.Compare a [.In] [b] pos) (bT (eBinR (gDIn false) fa i)) := .of (pt_cmp (pc_din hu ha hb) h1) fun σ H Q h => t_opR (r := rDIn false) (ok_din false) (t_test h)
theorem dt_dnotin (hu : X.A.units + 1 < cLine) (ha : DE F W X a fa) (hb : DE F W X b fb) (h1 : behindInMarks .NotIn b = false := by rfl) : DT F W X (.Compare a [.NotIn] [b] pos) (bT (eBin (gDIn true) fa fb)) := .of (pt_cmp (pc_dnotin hu ha hb) h1) fun σ H Q h => t_op (r := rDIn true) (ok_din true).ok (t_test h)
theorem dt_dnotinP (hu : X.A.units + 1 < cLine) (ha : DE F W X a fa) (hb : PE X b (tVar i)) (h1 : behindInMarks .NotIn b = false := by rfl) : DT F W X (.Compare a [.NotIn] [b] pos) (bT (eBinR (gDIn true) fa i)) := .of (pt_cmp (pc_dnotin hu ha hb) h1) fun σ H Q h => t_opR (r := rDIn true) (ok_din true) (t_test h)
end
end Dl

namespace Dl
open PySem PySem.Spec PyProof.Rows L2
/-! ### what a printed derivation leans on -/
theorem hu65 {k : Nat} {A : Around} (hr : Room k A) : A.units + 65 < cLine := by have := hr.un; omega
theorem hu64 {k : Nat} {A : Around} (hr : Room k A) : A.units + 64 < cLine := by have := hr.un; omega
theorem hu30 {k : Nat} {A : Around} (hr : Room k A) : A.units + 30 < cLine := by have := hr.un; omega
theorem hu64H {k : Nat} {A : Around} (hr : L2H.RoomH k A) : A.units + 64 < cLine := by have := hr.un; omega
theorem hu65H {k : Nat} {A : Around} (hr : L2H.RoomH k A) : A.units + 65 < cLine := by have := hr.un; omega
theorem hu_ofH {k : Nat} {A : Around} (hr : L2H.RoomH k A) : A.units + 1 < cLine := by have := hr.un; omega
/-- a method by the class's name -/
def dispL (l : List (Str × FSem)) : Disp := fun c => l.lookup c
section
variable {F : Cf} {W : WX} {X : Cx} {m : Str} {ms : List Mode}
theorem disp_nil : ∀ c f, dispL [] c = some f → MethOk F X c m ms f := fun c f h => nomatch h
theorem disp_cons {c0 : Str} {f0 : FSem} {l : List (Str × FSem)} (h : MethOk F X c0 m ms f0) (r : ∀ c f, dispL l c = some f → MethOk F X c m ms f) : ∀ c f, dispL ((c0, f0) :: l) c = some f → MethOk F X c m ms f := fun c f e => by
  unfold dispL at e
  rw [List.lookup_cons] at e
  by_cases hc : (c == c0) = true
  · rw [hc] at e
    have := eq_of_beq hc
    subst this
    cases e
    exact h
  · rw [Bool.eq_false_iff.mpr hc] at e
    exact r c f e
end
section
variable {F : Cf} {W : WX} {X : Cx} {e e2 : Expr} {es : List Expr} {body : List Stmt} {fe fe2 : ESem} {g : GSemA} {ms : List Mode} {f : FSem} {pos p p0 p1 apos : Pos} {j k i : Nat} {fA f2 Dc : Addr} {ps : List Str} {m : Str} {cs : List Str}
theorem c_prop {pr : Addr} (hK : X.K = F.K) (he : DE F W X e fe) (hT : ∀ c ∈ cs, Cls F.K (F.CE c) ∧ PropOf F.K (F.CE c) m pr fA) (G : FnB X.prog X.w X.K X.mg X.base j fA ps (spF F [.v] f)) (hj : j + 1 ≤ k) (hr : Room k X.A)
    (hab : attributeBase e m X.env (eval e X.env) = eval e X.env := by rfl) : DE F W X (.Attribute e m pos) (eGet cs f fe) := by
  obtain ⟨fd, a, b⟩ := G.ex
  exact d_prop he (fun c hc => ⟨hK ▸ (hT c hc).1, hK ▸ (hT c hc).2⟩) a (hr.mono hj) b hab
theorem c_lenO (hK : X.K = F.K) (he : DE F W X e fe) (hT : ∀ c ∈ cs, PySem.W.findIn F.K (.ref (F.CE c)) "__len__" = some (some (.ref fA)) ∧ PySem.W.isFn F.K (.ref fA) = true) (G : FnB X.prog X.w X.K X.mg X.base j fA ps (spF F [.v] f)) (hj : j + 1 ≤ k) (hr : Room k X.A) (hm : X.mg "len" = none) (hg : Gl X "len")
    (hs : starEach [e] X.env = (false, eval e X.env) :: starEach [] X.env := by rfl) (hpl : (backTo pos (starEach [] X.env)).any (·.1) = false := by rfl) : DE F W X (.Call (.Name "len" p) [e] [] pos) (eLenO cs f fe) := by
  obtain ⟨fd, a, b⟩ := G.ex
  exact d_lenO hg hm he (fun c hc => ⟨hK ▸ (hT c hc).1, hK ▸ (hT c hc).2⟩) a (hr.mono hj) b hs hpl
theorem c_sup (hK : X.K = F.K) (tk : Takes X W) (S : SupX X Dc i) (hT : ∀ c ∈ cs, SupM F.K (F.CE c) Dc m f2) (G : FnB X.prog X.w X.K X.mg X.base j f2 ps (spF F ms f)) (hj : j ≤ k) (hr : Room k X.A)
    (ha : DG F W X (e :: es) g) (hat : (m == ("__class__" : Str)) = false := by decide) (hst : starEach (e :: es) X.env = (false, eval e X.env) :: starEach es X.env := by rfl) (hpl : (backTo pos (starEach es X.env)).any (·.1) = false := by rfl)
    (he : eval (.Call (.Attribute (.Call (.Name "super" p0) [] [] p1) m apos) (e :: es) [] pos) X.env = (do
      let ov ← attributeBase (.Call (.Name "super" p0) [] [] p1) m X.env (eval (.Call (.Name "super" p0) [] [] p1) X.env)
      standAt apos.atName
      let (f, first) ← holding [ov] (getMethod ov m (pure false))
      callWith pos f first (backTo pos (starEach (e :: es) X.env)) []) := by rfl) :
    DEA F W X body (.Call (.Attribute (.Call (.Name "super" p0) [] [] p1) m apos) (e :: es) [] pos) (eSup cs i ms f g) := by
  obtain ⟨fd, a, b⟩ := G.ex
  exact d_sup hK tk S hT (a.mono hj) hr b ha hat hst hpl he
end
section
variable {P : Program} {w : World} {K : PySem.W.Frag} {mg : Str → Option Value} {base : Heap}
/-- a def with super(), as a bundle -/
theorem fn_bS {CE : Str → Addr} {x qual : Str} {st : Stmt} {f D : Addr} {N ps : List Str} {k : Nat} {ms : List Mode} {g : SSem} (Fu : ∃ fd, FunS K P x qual st f fd D) (S : NdefX.NScope N ps ["__class__"] (defScope st)) (hm : ms.length = ps.length)
    (hks : (defScope st).names.lookup ("super" : Str) = some .globalImplicit) (hfree : mg "super" = none) (htop : (P.main.scope.names.lookup ("super" : Str)).isSome = false) (hp : ∃ ar : PySem.Arg, ((defArgs st).posonlyargs ++ (defArgs st).args).head? = some ar ∧ ps[0]? = some ar.arg)
    (hb : ∀ (kV doc pm : Value) (an : Option Addr) (cdv ct : Value) (cc : Addr) (us : List Value), us.length = ps.length → bindArgs (PySem.W.fnX x qual (defArgs st) (defBody st) (defScope st) [("__class__", cc)] .none kV doc pm an cdv ct) ⟨us, []⟩ = pure (ps.zip us))
    (hbody : ∀ (cc c : Addr) (A : Around) (outer : List Env) (s : Shared) (H : Hp) (E : XK), Room k (A.deeper (NdefX.envF (nfS x qual st cc c) f s.heap.objs.size)) →
      SupX (cxS (L2.CX P w) P w K mg base N x qual st cc c f A outer s H E) D 0 →
      DSsA ⟨K, CE, none⟩ (WE' E) (cxS (L2.CX P w) P w K mg base N x qual st cc c f A outer s H E) (defBody st) (defBody st) g) : FnB P w K mg base (k + 1) f ps (spF ⟨K, CE, none⟩ ms (fnOf ms N.length g)) := by
  obtain ⟨fd, Fu⟩ := Fu
  exact ⟨⟨fd, fn_okS Fu S hm hks hfree htop hp hbody, Fu.binds hb⟩, Fu.kp⟩
end
/-- a class's statement -/
def memOf (s : Stmt) (j : Nat) : Stmt := match s with
  | .ClassDef _ _ _ body _ _ _ _ _ _ _ => body.getD j (.Pass ⟨0, 0, 0, 0⟩)
  | _ => .Pass ⟨0, 0, 0, 0⟩
/-- a class's own method -/
def Ma (K : PySem.W.Frag) (c m : Str) : Addr := match PySem.W.findIn K (.ref (He.ga K c)) m with
  | some (some (.ref a)) => a
  | _ => 0
section
variable {F : Cf} {W : WX} {X : Cx} {e : Expr} {fe : ESem} {pos : Pos} {i : Nat}
/-- x op= e -/
def sAug (i : Nat) (g : D → D → Option D) (fe : ESem) : SSem := fun env => match env[i]? with
  | some (.val dx) => (fe env).then fun dy e1 => (lift (g dx dy) e1).then fun dz e2 => .nx (e2.set i (.val dz))
  | _ => .stuck
theorem ds_aug {x : Str} {op : Operator} {r : R2} {g : D → D → Option D} {pos' : Pos} (hN : X.N.Nodup) (hi : X.N[i]? = some x) (hx : Loc X.env.scope x) (ho : OpR X (inplaceOp op) r) (hr : OkR F r g) (he : DE F W X e fe)
    (hf : X.fn x = true ∨ X.env.scope.names.lookup x = some .local := by first | exact .inl rfl | exact .inr rfl | assumption) : DS F W X (.AugAssign (.Name x pos') op e pos) (sAug i g fe) := .of (ps_aug hN hi hx he ho hf) fun Dn σ H ⟨B, env, k, p⟩ => by
  unfold sAug at p
  split at p
  · rename_i d hd
    obtain ⟨ov, e1, v, rfl, w⟩ := k.slot hd
    refine ⟨v, e1, B, env, k, (PostS.split p).imp fun dy e1 H1 x1 k1 p1 u du => ?_⟩
    have p1 := PostS.split p1
    obtain ⟨z, hz, q⟩ := Post.lift (e := e1) k1 p1
    refine hr _ H1 v u d dy z _ (fun a => k1.trkO) (x1.den k w) du hz fun v' H3 hs dz => ?_
    have k3 := k1.grow hs
    obtain ⟨k4, x4⟩ := store_val i k3 dz
    exact q _ _ ((Ext.new hs).trans x4) k4
  · exact p.elim
end
/-- a property's getter -/
def Pg (K : PySem.W.Frag) (c m : Str) : Addr := match PySem.W.recIn K (Ma K c m) "property" with
  | some (.ref g :: _) => g
  | _ => 0
/-- a comprehension's names -/
def blkB (N : List Str) (sc scope : Scope) (own : List (Str × Nat)) : Bool :=
  scope.names.all (fun y => decide (scope.names.lookup y.1 = some y.2) && (!decide (y.2 = .free) || (decide (sc.names.lookup y.1 = some .cell) || decide (sc.names.lookup y.1 = some .free))) && (!(decide (y.2 = .local) || decide (y.2 = .cell)) || (own.any (fun p => p.1 == y.1) || !N.contains y.1)))
theorem blk_ok {N : List Str} {sc scope : Scope} (own : List (Str × Nat)) (h1 : scope.kind = .function) (h2 : own.all (fun p => decide (N[p.2]? = some p.1)) = true) (h : blkB N sc scope own = true) : BlkOk N sc scope own := by
  have h := List.all_eq_true.mp h
  simp only [Bool.and_eq_true, Bool.or_eq_true, Bool.not_eq_true', decide_eq_true_eq, decide_eq_false_iff_not] at h
  refine ⟨h1, fun y hy => (h y hy).1.1, fun p hp => by simpa using List.all_eq_true.mp h2 p hp, fun y hy e => ((h y hy).1.2).resolve_left fun z => z e, fun y hy e => ?_⟩
  rcases (h y hy).2 with z | z | z
  · rcases e with e | e <;> simp [e] at z
  · obtain ⟨p, hp, e⟩ := List.any_eq_true.mp z
    exact .inl (List.mem_map.mpr ⟨p, hp, eq_of_beq e⟩)
  · exact .inr (by simpa using z)
end Dl

namespace Dl
open PySem PySem.Spec PyProof.Rows L2
/-! ### clauses by the exception's name -/
def testL (l : List (Str × Bool)) : Str → Option Bool := fun c => l.lookup c
theorem lookup_mem {α : Type} : ∀ {l : List (Str × α)} {c : Str} {b : α}, l.lookup c = some b → (c, b) ∈ l
  | [], _, _, h => nomatch h
  | (c0, b0) :: l, c, b, h => by
    rw [List.lookup_cons] at h
    by_cases hc : (c == c0) = true
    · rw [hc] at h
      have e := eq_of_beq hc
      subst e
      cases h
      exact List.mem_cons_self
    · rw [Bool.eq_false_iff.mpr hc] at h
      exact List.mem_cons_of_mem _ (lookup_mem h)
theorem test_of {l : List (Str × Bool)} {Q : Str → Bool → Prop} (h : ∀ p ∈ l, Q p.1 p.2) : ∀ c b, testL l c = some b → Q c b := fun c b e => h _ (lookup_mem e)
theorem roomH_mark {k : Nat} {A : Around} {e : Option Value} (hr : Room k A) : L2H.RoomH k (A.mark e) := ⟨hr.dp, hr.un⟩
theorem hu64m {k : Nat} {A : Around} {e : Option Value} (hr : Room k A) : (A.mark e).units + 64 < cLine := hr.units
end Dl

namespace Dl
open PySem PySem.Spec PyProof.Rows L2
/-! ### a def whose answer is a new object that nobody else knows -/
def spN (F : Cf) (n : Nat) (f : List D → Option D) : Sp := fun vs H Q E => ∃ B ds, (∀ a, B a → ∃ o, H a = some o) ∧ Dens F B H vs ds ∧ ds.length = n ∧ match f ds with
  | some d => ∀ p H', Same H H' → H p = none → Bod F (fun a => B a ∨ a = p) H' p d → Q (.ref p) H'
  | none => False
def TSN (F : Cf) (f : ESem) : TS := fun Dn σ H => ∃ B env, EnvOk F B env σ H ∧ match f env with
  | .ok d e' => ∀ σ' H' p, Ext env σ H e' σ' H' → H p = none → Fresh F B e' σ' H' p d → Dn.rt (.ref p) H'
  | _ => False
def nSeq (fa : SSem) (g : ESem) : ESem := fun env => match fa env with
  | .nx e => g e
  | _ => .stuck
def fnOfN (n N : Nat) (g : ESem) : List D → Option D := fun ds => if ds.length = n then match g (mkEnv (List.replicate n .v) ds N) with
    | .ok d _ => some d
    | _ => none
  else none
section
variable {F : Cf} {W : WX} {X : Cx} {e : Expr} {fe : ESem} {st : Stmt} {rest : List Stmt} {fa : SSem} {g : ESem} {pos : Pos}
theorem dsn_ret (he : DN F W X e fe) : PSs X [.Return (some e) pos] (TSN F fe) := pss_one ⟨fun pins s σ H Dn I ⟨B, env, k, p⟩ => (ps_ret he).run pins s σ H Dn I ⟨B, env, k, by
  cases hf : fe env with
  | ok d e' => rw [hf] at p; exact fun H' x k1 q hq fr => p σ H' q x hq fr
  | exc c ns ds e' => rw [hf] at p; exact p.elim
  | stuck => rw [hf] at p; exact p.elim⟩⟩
theorem dsn_cons (h1 : DS F W X st fa) (h2 : PSs X rest (TSN F g)) : PSs X (st :: rest) (TSN F (nSeq fa g)) := ⟨fun pins s σ H Dn I ⟨B, env, k, p⟩ => (pss_cons h1 h2).run pins s σ H Dn I ⟨B, env, k, by
  unfold nSeq at p
  cases hf : fa env with
  | nx e1 =>
    simp only [hf] at p
    intro σ' H' x k1
    refine ⟨B, e1, k1, ?_⟩
    cases hg : g e1 with
    | ok d e2 =>
      simp only [hg] at p ⊢
      intro σ2 H2 q x2 hq fr
      refine p σ2 H2 q (x.trans x2) ?_ fr
      cases h0 : H q with
      | none => rfl
      | some o =>
        obtain ⟨o', h'⟩ := x.dom q o h0
        rw [hq] at h'
        cases h'
    | exc c ns ds e' => simp only [hg] at p
    | stuck => simp only [hg] at p
  | _ => simp only [hf] at p⟩⟩
theorem argsVN {B : Addr → Prop} {H : Hp} : ∀ {vs : List V} {ds : List D}, Dens F B H vs ds → ArgsOk F B H (List.replicate ds.length .v) vs ds
  | _, _, .nil => .nil
  | _, _, .cons a r => .v a (argsVN r)
theorem lentVN : ∀ (n : Nat) (vs : List V), lentA (List.replicate n .v) vs = []
  | 0, _ => rfl
  | n + 1, [] => rfl
  | n + 1, v :: vs => lentVN n vs
end
section
variable {P : Program} {w : World} {K : PySem.W.Frag} {mg : Str → Option Value} {base : Heap}
theorem fn_spN {CE : Str → Addr} {N : List Str} {n : Nat} {g : ESem} {vs : List V} {H : Hp} {Q : VK} {E : XK} (hn : n ≤ N.length) (h : spN ⟨K, CE, none⟩ n (fnOfN n N.length g) vs H Q E) : TSN ⟨K, CE, none⟩ g { nx := fun _ H' => Q .non H', rt := Q } (start N vs) H := by
  obtain ⟨B, ds, t, r, hl, q⟩ := h
  subst hl
  have r' := argsVN r
  have k0 := start_ok (N := N) t r' (by rw [lentVN]; exact List.nodup_nil) (by rw [List.length_replicate]; exact hn)
  refine ⟨B, _, k0, ?_⟩
  unfold fnOfN at q
  rw [if_pos rfl] at q
  cases hg : g (mkEnv (List.replicate ds.length .v) ds N.length) with
  | ok d e =>
    simp only [hg] at q ⊢
    intro σ' H' p x hp fr
    have hv : ∀ i : Nat, (List.replicate ds.length Mode.v)[i]? ≠ some .m ∧ (List.replicate ds.length Mode.v)[i]? ≠ some .b := fun i => by
      constructor <;> intro z <;> have z := List.mem_of_getElem? z <;> have z := List.eq_of_mem_replicate z <;> cases z
    refine q p H' (fun a o h => x.keep a o (fun ⟨i, d, h1, _⟩ => ?_) (fun ⟨i, d, h1, _⟩ => ?_) h) hp (fr.bod.anti fun a z => .inl z)
    · rcases mkEnv_get r' h1 with h | ⟨v, d, _, _, ⟨_, h, _⟩ | ⟨_, h, _⟩ | ⟨_, h, _⟩⟩ <;> cases h
    · rcases mkEnv_get r' h1 with h | ⟨v, d, _, _, ⟨_, h, _⟩ | ⟨hm, h, _⟩ | ⟨_, h, _⟩⟩
      · cases h
      · cases h
      · exact (hv i).1 hm
      · cases h
  | exc c ns ds e' => simp only [hg] at q
  | stuck => simp only [hg] at q
theorem spN_len {F : Cf} {n : Nat} {f : List D → Option D} {vs : List V} {H : Hp} {Q : VK} {E : XK} (h : spN F n f vs H Q E) : vs.length = n := by
  obtain ⟨B, ds, t, r, hl, _⟩ := h
  rw [r.length, hl]
theorem fn_bN {CE : Str → Addr} {x qual : Str} {st : Stmt} {f : Addr} {N ps : List Str} {k n : Nat} {g : ESem} (Fu : ∃ fd, Fun K x qual st f fd) (S : FnScope N ps (defScope st)) (hm : n = ps.length) (hn : n ≤ N.length)
    (hb : ∀ (kV doc pm : Value) (an : Option Addr) (cdv ct : Value) (us : List Value), us.length = ps.length → bindArgs (PySem.W.fnOf x qual (defArgs st) (defBody st) (defScope st) .none kV doc pm an cdv ct) ⟨us, []⟩ = pure (ps.zip us))
    (hbody : ∀ (cdv : Value) (A : Around) (outer : List Env) (s : Shared) (H : Hp) (E : XK), Room k (A.deeper (PyProof.Rows.envOfC qual (defScope st) s.heap.objs.size f cdv)) →
      PSs (cxOf (L2.CX P w) P w K mg base N qual (defScope st) f cdv A outer s H E) (defBody st) (TSN ⟨K, CE, none⟩ g)) : FnB P w K mg base (k + 1) f ps (spN ⟨K, CE, none⟩ n (fnOfN n N.length g)) := by
  obtain ⟨fd, Fu⟩ := Fu
  exact ⟨⟨fd, Fu.okX S (fun vs H Q E h => by rw [spN_len h, hm]) fun cdv A outer s H vs Q E hr h => ⟨_, hbody cdv A outer s H E hr, fn_spN hn h⟩, Fu.binds hb⟩, Fu.kp⟩
end
section
variable {F : Cf} {W : WX} {X : Cx} {e : Expr} {es : List Expr} {h : ASem} {f : List D → Option D} {pos p : Pos} {j k n : Nat} {fA : Addr} {ps : List Str} {x : Str}
def eCallN (n : Nat) (f : List D → Option D) (h : ASem) : ESem := fun env => (h env).bind fun ds e1 => if ds.length = n then lift (f ds) e1 else .stuck
theorem dn_call (tk : Takes X W) (G : FnB X.prog X.w X.K X.mg X.base j fA ps (spN F n f)) (hj : j ≤ k) (hr : Room k X.A) (hm : X.mg x = some (.ref fA)) (hg : Gl X x)
    (ha : DA F W X (e :: es) h) (hdb : (x == ("__debug__" : Str)) = false := by decide) (he : starEach (e :: es) X.env = (false, eval e X.env) :: starEach es X.env := by rfl) (hpl : (backTo pos (starEach es X.env)).any (·.1) = false := by rfl) :
    DN F W X (.Call (.Name x p) (e :: es) [] pos) (eCallN n f h) := by
  obtain ⟨fd, a, b⟩ := G.ex
  refine .of (pe_callS (a.mono hj) hr hg hm G.kp b (fun σ => passAt tk σ) ha hdb he hpl) fun σ H Q ⟨B, env, k0, p0⟩ => ?_
  refine ⟨B, env, k0, (Post.split p0).imp fun ds e1 H1 x1 k1 p1 vs dvs => ?_⟩
  by_cases hl : ds.length = n
  case neg => rw [if_neg hl] at p1; exact p1.elim
  rw [if_pos hl] at p1
  obtain ⟨d, hf, q⟩ := Post.lift (e := e1) k1 p1
  refine ⟨Os B e1 σ, ds, fun a => k1.trkO, dvs, hl, ?_⟩
  rw [hf]
  intro q0 H' sm hq w
  have p2 : Post F W B σ e1 H1 (fun d e' H' => ∀ p, H p = none → Fresh F B e' σ H' p d → Q (.ref p) H') (.ok d e1) := by
    have := p1
    rw [hf] at this
    exact this
  obtain ⟨o, ho⟩ := w.some
  have sm2 : Same (upd H1 q0 o) H' := fun a u hu => by
    by_cases hz : a = q0
    · subst hz
      rw [upd_same] at hu
      cases hu
      exact ho
    · rw [upd_ne hz] at hu
      exact sm a u hu
  have hq0 : H q0 = none := by
    cases h0 : H q0 with
    | none => rfl
    | some o =>
      obtain ⟨o', h'⟩ := x1.dom q0 o h0
      rw [hq] at h'
      cases h'
  refine p2 H' (Ext.new sm) (k1.grow sm) q0 hq0 ⟨(k1.more hq (o := o)).grow sm2, fun z => ?_, fun s i d h1 h2 h3 => ?_, w.anti fun a z => ?_⟩
  · obtain ⟨u, hu⟩ := k1.trk _ z
    rw [hq] at hu
    cases hu
  · have w := k1.ok i s _ h1 h3
    cases s with
    | un => cases h2
    | val d => cases h2
    | ex ns ds => cases h2
    | _ =>
      obtain ⟨a, e1, _, w⟩ := w
      cases e1
      obtain ⟨u, hu⟩ := w.some
      rw [hq] at hu
      cases hu
  · rcases z with (z | z) | z
    · exact .inl (.inl z)
    · exact .inr z
    · exact .inl (.inr z)
end
end Dl

namespace SrtO
open PySem PyProof.Rows Srt
section
variable {prog : Program} {w : World} {A : Around} {E : Value → Shared → Prop} {s : Shared}
/-- a tuple's items -/
theorem collect_tup {l : Addr} {vs : List Value} {Q : List Value → Shared → Prop} {o : Obj} {n : Nat} (ho : s.heap.get? l = some o) (hc : o.cls = .type "tuple") (hd : o.data = .seq vs.toArray n)
    (h : Q vs { s with heap := (s.heap.push (seqObj "list" #[] 0)).update s.heap.objs.size (Obj.mapSeq (· ++ vs.toArray)) }) (hsz : vs.length ≤ sizeLine) :
    wpAny (model prog w) A (collect (.ref l)) Q E s := by
  unfold collect
  refine wpAny_bind (wpAny_runValue (codeAny_builtin entry_proto_collect' ?_))
  show wpAny _ _ (do again (.builtin "list.__iadd__" ⟨[← newList [], .ref l], []⟩)) _ _ s
  refine wpAny_bind (wpAny_newList (wpAny_pure ⟨Code.quiet_builtin _ (by decide +kernel), codeAny_builtin entry_list_iadd' ?_⟩))
  show wpAny _ _ (Builtin.List.listExtendWith (.ref s.heap.objs.size) (.ref l) (.ref s.heap.objs.size)) _ _ { s with heap := s.heap.push (seqObj "list" #[] 0) }
  unfold Builtin.List.listExtendWith
  have ho' : (s.heap.push (seqObj "list" #[] 0)).get? l = some o := Heap.get?_push_of_some _ ho
  refine wpAny_bind (wpAny_typeOf (T := "tuple") ⟨o, ho', hc⟩ ?_)
  have ht : (Value.type "tuple" == Value.type "tuple") = true := by rfl
  rw [if_pos (by rw [ht]; simp)]
  refine wpAny_bind (listItems_at ho' hd ?_)
  refine wpAny_bind (listItems_at (xs := #[]) (n := 0) (Heap.get?_push_size _ rfl) rfl ?_)
  rw [if_neg (by simp)]
  refine wpAny_bind (listUpdate_at (xs := #[]) (n := 0) (Heap.get?_push_size _ rfl) rfl ?_ (Nat.zero_le _) (by show (#[] ++ vs.toArray).size ≤ sizeLine + 1; simp only [Array.size_append, List.size_toArray, List.length_nil]; omega))
  refine wpAny_pure ?_
  show wpAny (model prog w) A (do
      let o ← load s.heap.objs.size
      match o.data with
      | .seq xs _ => pure xs.toList
      | _ => unsupported "internal:collect") Q E { s with heap := (s.heap.push (seqObj "list" #[] 0)).update s.heap.objs.size (Obj.mapSeq (· ++ vs.toArray)) }
  refine wpAny_bind (wpAny_load (get?_update_seq (Heap.get?_push_size _ rfl) _) ?_)
  show wpAny _ _ (pure ((#[] : Array Value) ++ vs.toArray).toList) Q E _
  rw [show ((#[] : Array Value) ++ vs.toArray).toList = vs by simp]
  exact wpAny_pure h
theorem sorted_tupO {l : Addr} {vs : List Value} {ltv : Value → Value → Bool} {Q : Value → Shared → Prop} (O : Swo ltv) {o : Obj} {n : Nat} (ho : s.heap.get? l = some o) (hc : o.cls = .type "tuple") (hd : o.data = .seq vs.toArray n) (hz : vs.length ≤ sizeLine)
    (hS : 2 ≤ vs.length → ∀ (h₁ : Heap) (a : Addr), h₁.get? a = some (seqObj "list" vs.toArray 0) → (∀ b o, s.heap.get? b = some o → b ≠ a ∧ h₁.get? b = some o) → SortableO prog w A.in1.in1 { s with heap := h₁ } a vs ltv)
    (h : ∀ out : List Value, Srtd ltv out → Stb ltv out vs → Q (.ref (s.heap.objs.size + 1)) { s with heap := sortedAll s.heap vs out.toArray }) :
    wpAny (model prog w) A (call (.builtin "sorted") [.ref l]) Q E s := by
  refine Calls.call_function_entry kind_sorted plain_sorted entry_sorted (args_sorted1 _) ?_
  unfold Builtin.«sorted»
  refine wpAny_bind (m := checkCount "sorted" 1 1 _) (wpAny_pure ?_)
  refine wpAny_bind (collect_tup ho hc hd ?_ hz)
  refine wpAny_bind (wpAny_newList ?_ hz)
  have hsz : ((s.heap.push (seqObj "list" #[] 0)).update s.heap.objs.size (Obj.mapSeq (· ++ vs.toArray))).objs.size = s.heap.objs.size + 1 := by
    rw [Heap.size_update, size_push']
  have hoL : (((s.heap.push (seqObj "list" #[] 0)).update s.heap.objs.size (Obj.mapSeq (· ++ vs.toArray))).push (seqObj "list" vs.toArray 0)).get? (s.heap.objs.size + 1) = some (seqObj "list" vs.toArray 0) := by
    rw [← hsz]; exact Heap.get?_push_size _ rfl
  have keep : ∀ b o, s.heap.get? b = some o → b ≠ s.heap.objs.size + 1 ∧ (((s.heap.push (seqObj "list" #[] 0)).update s.heap.objs.size (Obj.mapSeq (· ++ vs.toArray))).push (seqObj "list" vs.toArray 0)).get? b = some o := fun b o q => by
    have hlt : b < s.heap.objs.size := Heap.lt_size q
    refine ⟨Nat.ne_of_lt (Nat.lt_succ_of_lt hlt), Heap.get?_push_of_some _ ?_⟩
    rw [Heap.get?_update_ne _ _ _ _ (Nat.ne_of_lt hlt)]
    exact Heap.get?_push_of_some _ q
  show wpAny _ _ _ _ _ { s with heap := ((s.heap.push (seqObj "list" #[] 0)).update s.heap.objs.size (Obj.mapSeq (· ++ vs.toArray))).push (seqObj "list" vs.toArray 0) }
  rw [hsz]
  refine wpAny_bind (wpAny_holding (wpAny_call_entry slot_list_sort ⟨_, hoL, rfl⟩ entry_list_sort (list_sort_ord O hoL hz (fun h2 => hS h2 _ _ hoL keep) fun out hs hb => ⟨_, rfl, ?_⟩) (args_list_sort _)))
  exact wpAny_pure ⟨_, rfl, h out hs hb⟩
end
end SrtO
namespace Dl
open PySem PySem.Spec PyProof.Rows L2
section
variable {F : Cf} {X : Cx}
def rSortedT0 (K : PySem.W.Frag) : List V → Hp → VK → Prop := fun vs H Q => ∃ (a : Addr) (ns : List Int), vs = [V.ref a] ∧ SqT K H a (ns.map V.int) ∧
  ∀ (ns' : List Int) (p : Addr), ns'.Perm ns → ns'.Pairwise (· ≤ ·) → H p = none → Q (.ref p) (upd H p (.lst (ns'.map V.int)))
theorem cr_sortedT0 : CallR X (.builtin "sorted") (rSortedT0 X.K) := by
  intro pins s σ H vs us Q I r h
  obtain ⟨a, ns, rfl, hs, q⟩ := h
  obtain ⟨its, rv, ht, hz⟩ := I.tuple hs
  rw [Vals.ref1 r]
  have hi := rv.ints
  obtain ⟨o, ho, hc, n, hd⟩ := ht
  refine SrtO.sorted_tupO SrtO.swo_int ho hc hd (by rw [← rv.length]; exact hz) (fun h2 h₁ a' _ _ => SrtO.ints_sortable hi h2) fun out h1 h2 => ?_
  obtain ⟨k1, k2, k3⟩ := SrtO.ints_out hi h1 h2
  obtain ⟨ep, he'⟩ := PyProof.Rows.sortedAll_at s.heap its out.toArray
  have hlen : ((out.map SrtO.iv).map V.int).length ≤ sizeLine := by
    rw [List.length_map, k2.length_eq]
    rw [List.length_map] at hz
    exact hz
  exact ⟨.ref _, upd H (s.heap.objs.size + 1) (.lst ((out.map SrtO.iv).map V.int)), I.laid (t' := s.toks) (fun _ _ => PyProof.Rows.sortedAll_old) (Nat.le_succ _) ⟨hlen, out, ep, vals_of_ints k1, he'⟩, rfl, q _ _ k2 k3 (I.hok.fresh (Nat.le_succ _))⟩
def gSortedT : D → Option D
  | .tup ds => (toInts ds).map fun ns => .lst ((isort ns).map D.int)
  | _ => none
theorem ok_sortedT : OkUP F (fun x H Q => rSortedT0 F.K [x] H Q) gSortedT := fun O H x dx dz Q t h e q => by
  unfold gSortedT at e
  split at e
  · obtain ⟨ns, e1, e2⟩ := Option.map_eq_some_iff.mp e
    subst e2
    obtain ⟨p, xs, rfl, hs, dd⟩ := h.tup
    have ev := intsV e1 dd
    subst ev
    refine ⟨p, ns, rfl, hs, fun ns' l pm so hl => ?_⟩
    have en : ns' = isort ns := sorted_unique (pm.trans (isort_perm ns).symm) so (isort_sorted ns)
    subst en
    obtain ⟨sm, w⟩ := lay (F := F) (d := .lst ((isort ns).map D.int)) (o := .lst ((isort ns).map V.int)) t hl (.lst upd_same (dens_ints _))
    exact q _ _ sm w
  · cases e
end
end Dl

namespace Dl
open PySem PySem.Spec PyProof.Rows L2
/-! ### the head's facts: booleans over a part of the heap, function objects by where they stand -/
/-- the addresses an object names, closure cells too -/
def refsX (o : Obj) : List Addr := He.refsO o ++ match o.data with
  | .func fd => fd.closure.map (·.2)
  | _ => []
def growX (g : Addr → Option Obj) (as : List Addr) : List Addr := (as ++ as.flatMap fun a => match g a with
  | some o => refsX o
  | none => []).eraseDups
def asX (g : Addr → Option Obj) (more : List Addr) : Nat → List Addr
  | 0 => mainGlobals :: more
  | n + 1 => growX g (asX g more n)
structure HD where
  ad : PySem.W.Frag → Addr
  sup : Option Str
  name : Str
  qual : Str
  st : Stmt
abbrev HV : Type := Option (Str × Str × Arguments × FuncBody × Scope × Addr × List Str × Value × Addr)
def hv (K : PySem.W.Frag) (d : HD) : HV := match K.lookup (d.ad K) with
  | some ⟨_, _, .func fd, _⟩ => some (fd.name, fd.qualname, fd.params, fd.body, fd.scope, fd.globals, fd.closure.map (·.1), fd.defaults, fd.builtins)
  | _ => none
def HD.val (d : HD) : HV := some (d.name, d.qual, defArgs d.st, .stmts (defBody d.st), defScope d.st, mainGlobals, (match d.sup with | none => [] | some _ => [("__class__" : Str)]), .none, builtinsNs)
/-- code of a def of a file -/
def fileIn (K : PySem.W.Frag) (file : Str) : Value → Bool
  | .ref c => (match K.lookup c with
    | some ⟨_, _, .fields vs, _⟩ => (match (vs[2]? : Option Value) with
      | some (Value.str f _) => file == f
      | _ => false)
    | _ => false)
  | _ => false
def cellIn (K : PySem.W.Frag) (D cc : Addr) : Bool := match K.lookup cc with
  | some ⟨_, _, .cell (some (.ref D')), _⟩ => decide (D' = D)
  | _ => false
def HD.ok (K : PySem.W.Frag) (file : Str) (d : HD) : Bool := PySem.W.keepIn K (.ref (d.ad K)) && (match K.lookup (d.ad K) with
  | some ⟨_, _, .func fd, _⟩ => PySem.W.codeIn K fd.code d.qual && (match d.sup with
    | none => true
    | some C => fileIn K file fd.code && ((fd.closure.all fun p => cellIn K (He.ga K C) p.2) && PySem.W.isClsIn K (He.ga K C)))
  | _ => false)
section
variable {K : PySem.W.Frag} {d : HD} {file : Str}
theorem hd_fun (hs : d.sup = none) (e : hv K d = d.val) (c : d.ok K file = true) : ∃ fd, Fun K d.name d.qual d.st (d.ad K) fd := by
  obtain ⟨kp, c⟩ := He.ba c
  unfold hv at e
  cases q : K.lookup (d.ad K) with
  | none => rw [q] at c; cases c
  | some o =>
    obtain ⟨oc, od, dt, osl⟩ := o
    rw [q] at c e
    cases dt with
    | func fd =>
      obtain ⟨n1, n2, n3, n4, n5, n6, n7, n8, n9, n10, n11, n12, n13, n14, n15⟩ := fd
      have e2 : (some (n1, n2, n3, n4, n5, n6, n7.map (·.1), n8, n15) : HV) = d.val := e
      unfold HD.val at e2
      rw [hs] at e2
      simp only [Option.some.injEq, Prod.mk.injEq, List.map_eq_nil_iff] at e2
      obtain ⟨h1, h2, h3, h4, h5, h6, h7, h8, h9⟩ := e2
      subst h1 h2 h3 h4 h5 h6 h7 h8 h9
      exact ⟨_, ⟨oc, od, n9, n10, n11, n12, n13, n14, osl, rfl, q, (He.ba c).1⟩, kp⟩
    | _ => cases c
theorem hd_funS {P : Program} {C : Str} (hs : d.sup = some C) (hf : P.main.file = file) (e : hv K d = d.val) (c : d.ok K file = true) : ∃ fd, FunS K P d.name d.qual d.st (d.ad K) fd (He.ga K C) := by
  obtain ⟨kp, c⟩ := He.ba c
  unfold hv at e
  cases q : K.lookup (d.ad K) with
  | none => rw [q] at c; cases c
  | some o =>
    obtain ⟨oc, od, dt, osl⟩ := o
    rw [q] at c e
    cases dt with
    | func fd =>
      obtain ⟨n1, n2, n3, n4, n5, n6, n7, n8, n9, n10, n11, n12, n13, n14, n15⟩ := fd
      have e2 : (some (n1, n2, n3, n4, n5, n6, n7.map (·.1), n8, n15) : HV) = d.val := e
      unfold HD.val at e2
      rw [hs] at e2
      simp only [Option.some.injEq, Prod.mk.injEq] at e2
      obtain ⟨h1, h2, h3, h4, h5, h6, h7, h8, h9⟩ := e2
      subst h1 h2 h3 h4 h5 h6 h8 h9
      have c : (PySem.W.codeIn K n13 d.qual && (match d.sup with
        | none => true
        | some C => fileIn K file n13 && ((n7.all fun p => cellIn K (He.ga K C) p.2) && PySem.W.isClsIn K (He.ga K C)))) = true := c
      rw [hs] at c
      obtain ⟨c1, c⟩ := He.ba c
      obtain ⟨c2, c⟩ := He.ba c
      obtain ⟨c3, c4⟩ := He.ba c
      obtain ⟨x, cc, rfl⟩ : ∃ x cc, n7 = [(x, cc)] := by
        cases n7 with
        | nil => simp at h7
        | cons p r => cases r with
          | nil => exact ⟨p.1, p.2, rfl⟩
          | cons _ _ => simp at h7
      have ex : x = "__class__" := by
        simp only [List.map_cons, List.map_nil, List.cons.injEq, and_true] at h7
        exact h7
      subst ex
      cases n13 with
      | ref cd =>
        refine ⟨_, ⟨oc, od, n9, n10, n11, n12, cd, n14, osl, cc, rfl, q, c1, ?_, ?_⟩, kp, c4⟩
        · unfold fileIn at c2
          dsimp only at c2
          split at c2
          · rename_i vs _ hl
            split at c2
            · rename_i f t hv
              exact ⟨_, vs, f, t, hl, rfl, hv, by rw [hf]; exact c2⟩
            · cases c2
          · cases c2
        · have c3 : cellIn K (He.ga K C) cc = true := by simpa using c3
          unfold cellIn at c3
          split at c3
          · rename_i D' _ hl
            have := of_decide_eq_true c3
            subst this
            exact ⟨_, hl, rfl⟩
          · cases c3
      | _ => cases c2
    | _ => cases c
end
abbrev HA : Type := Bool × List HV
def obsX (file : Str) (fa : List (PySem.W.Frag → Bool)) (fn : List HD) (K : PySem.W.Frag) : HA := ((fa.all fun f => f K) && fn.all fun d => d.ok K file, fn.map fun d => hv K d)
def valX (fn : List HD) : HA := (true, fn.map HD.val)
def SaysX (file : Str) (fa : List (PySem.W.Frag → Bool)) (fn : List HD) (K : PySem.W.Frag) : Prop := obsX file fa fn K = valX fn
def obsXG (more : List Addr) (n : Nat) (file : Str) (fa : List (PySem.W.Frag → Bool)) (fn : List HD) (g : Addr → Option Obj) : HA := obsX file fa fn (He.frG g (asX g more n))
def hookX (more : List Addr) (n : Nat) (file : Str) (fa : List (PySem.W.Frag → Bool)) (fn : List HD) : PySem.W.Hook where
  α := HA
  obs := fun s => obsXG more n file fa fn s.heap.get?
  val := fun _ => valX fn
  says := fun _ h => ∃ K : PySem.W.Frag, K.In h ∧ SaysX file fa fn K
  of := fun _ _ e => ⟨_, He.frG_in, e⟩
  keeps := fun _ _ _ ⟨K, hK, c⟩ k => ⟨K, PySem.W.Frag.In.keeps hK k, c⟩
theorem obsXG_eq {more : List Addr} {n : Nat} {file : Str} {fa : List (PySem.W.Frag → Bool)} {fn : List HD} {g : Addr → Option Obj} {s : Shared} (h : ∀ a, g a = s.heap.get? a) : obsXG more n file fa fn g = (hookX more n file fa fn).obs s := by
  have e : g = s.heap.get? := funext h
  rw [e] <;> rfl
section
variable {file : Str} {fa : List (PySem.W.Frag → Bool)} {fn : List HD} {K : PySem.W.Frag}
theorem SaysX.fact (c : SaysX file fa fn K) (i : Nat) {f : PySem.W.Frag → Bool} (h : fa[i]? = some f := by rfl) : f K = true := by
  have c1 := (He.ba (show ((fa.all fun f => f K) && fn.all fun d => d.ok K file) = true from congrArg (fun z : HA => z.1) c)).1
  exact List.all_eq_true.mp c1 f (List.mem_of_getElem? h)
theorem SaysX.dat (c : SaysX file fa fn K) (i : Nat) {d : HD} (h : fn[i]? = some d) : hv K d = d.val ∧ d.ok K file = true := by
  have c2 := (He.ba (show ((fa.all fun f => f K) && fn.all fun d => d.ok K file) = true from congrArg (fun z : HA => z.1) c)).2
  have e : fn.map (fun d => hv K d) = fn.map HD.val := congrArg (fun z : HA => z.2) c
  have e2 : (fn.map fun d => hv K d)[i]? = (fn.map HD.val)[i]? := by rw [e]
  rw [List.getElem?_map, List.getElem?_map, h] at e2
  exact ⟨Option.some.inj e2, List.all_eq_true.mp c2 d (List.mem_of_getElem? h)⟩
theorem SaysX.def_ (c : SaysX file fa fn K) (i : Nat) {d : HD} (h : fn[i]? = some d := by rfl) (hs : d.sup = none := by rfl) : ∃ fd, Fun K d.name d.qual d.st (d.ad K) fd := hd_fun hs (c.dat i h).1 (c.dat i h).2
theorem SaysX.defS (c : SaysX file fa fn K) (i : Nat) {P : Program} (hf : P.main.file = file) {d : HD} (C : Str) (h : fn[i]? = some d := by rfl) (hs : d.sup = some C := by rfl) : ∃ fd, FunS K P d.name d.qual d.st (d.ad K) fd (He.ga K C) := hd_funS hs hf (c.dat i h).1 (c.dat i h).2
end
/-! ### facts as booleans -/
def b_oex (C : Str) (K : PySem.W.Frag) : Bool := (match K.lookup (He.ga K C) with
  | some ⟨.type "type", _, .cls cd, sl⟩ => (match cd.mro, sl.toList with
    | .ref C' :: bm, [_, _, _, _, some (.builtin n), _] => decide (C' = He.ga K C) && (decide (n = "ValueError.__new__") && (PySem.HandSPX.refsVE bm && (cd.hasDict && !cd.hasDel)))
    | _, _ => false)
  | _ => false) && (decide (PySem.W.findIn K (.ref (He.ga K C)) "__setattr__" = some (some (.builtin "object.__setattr__"))) && (decide (PySem.W.subIn K (.ref (He.ga K C)) (.type "BaseException") = some true) && (decide (PySem.W.typeIn K (.ref (He.ga K C)) = some (.type "type")) && PySem.W.keepIn K (.ref (He.ga K C)))))
theorem oex_ok {C : Str} {K : PySem.W.Frag} (h : b_oex C K = true) : OexC K (He.ga K C) := by
  obtain ⟨q, h⟩ := He.ba h
  obtain ⟨h1, h⟩ := He.ba h
  obtain ⟨h2, h⟩ := He.ba h
  obtain ⟨h3, h4⟩ := He.ba h
  refine ⟨?_, of_decide_eq_true h1, of_decide_eq_true h2, of_decide_eq_true h3, h4⟩
  split at q
  · rename_i dd cd sl ho
    split at q
    · rename_i C' bm k0 k1 k2 k3 n k5 hm hs
      simp only [Bool.and_eq_true, decide_eq_true_eq, Bool.not_eq_true'] at q
      obtain ⟨hC, hn, hr, hd, hdel⟩ := q
      subst hn
      obtain ⟨nm, bs, mro, ns, qn, hdct, sn, sub, ab, col, del⟩ := cd
      dsimp only at hm hdel hd
      subst hm hdel hd
      rw [hC] at ho
      have hsl : sl = #[k0, k1, k2, k3, some (.builtin "ValueError.__new__"), k5] := by
        obtain ⟨l⟩ := sl
        simp only at hs
        rw [hs]
      subst hsl
      exact ⟨nm, qn, ns, bs, bm, sn, sub, ab, col, dd, k0, k1, k2, k3, k5, ho, hr⟩
    · cases q
  · cases q

def b_mk (c own : Str) (K : PySem.W.Frag) : Bool := PySem.W.makesIn K (He.ga K c) && (decide (PySem.W.findIn K (.ref (He.ga K c)) "__init__" = some (some (.ref (Ma K own "__init__")))) && (PySem.W.isFn K (.ref (Ma K own "__init__")) && PySem.W.keepIn K (.ref (He.ga K c))))
def b_meth (c m own : Str) (K : PySem.W.Frag) : Bool := decide (PySem.W.findIn K (.ref (He.ga K c)) m = some (some (.ref (Ma K own m)))) && (PySem.W.isFn K (.ref (Ma K own m)) && PySem.W.keepIn K (.ref (Ma K own m)))
def b_cls (c : Str) (K : PySem.W.Frag) : Bool := (He.Fa.cls c).ok K
def b_fld (cs : List Str) (f : Str) (K : PySem.W.Frag) : Bool := cs.all fun c => b_cls c K && decide (PySem.W.findIn K (.ref (He.ga K c)) f = some none)
def b_prop (cs : List Str) (m own : Str) (K : PySem.W.Frag) : Bool := cs.all fun c => b_cls c K && (decide (PySem.W.findIn K (.ref (He.ga K c)) m = some (some (.ref (Ma K own m)))) && (decide (PySem.W.specialIn K (.ref (Ma K own m)) "__get__" = some (some (.builtin "property.__get__"))) && (decide (PySem.W.takesIn K (.ref (Ma K own m)) = some true) && (match PySem.W.recIn K (Ma K own m) "property" with
  | some (.ref _ :: _) => true
  | _ => false))))
def b_len (cs : List Str) (own : Str) (K : PySem.W.Frag) : Bool := cs.all fun c => decide (PySem.W.findIn K (.ref (He.ga K c)) "__len__" = some (some (.ref (Ma K own "__len__")))) && PySem.W.isFn K (.ref (Ma K own "__len__"))
def b_sup (cs : List Str) (C m own : Str) (K : PySem.W.Frag) : Bool := cs.all fun c => decide (PySem.W.nsIn K cStatics "thirdparty.any" = some none) && (decide (PySem.W.mroIn K (He.ga K c) (.ref (He.ga K C)) = some true) && (decide (PySem.W.ks_superIn K (He.ga K c) (He.ga K C) m = some (some (.ref (Ma K own m)))) && (decide (PySem.W.typeIn K (.ref (Ma K own m)) = some (.type "function")) && PySem.W.fnIn K (Ma K own m))))
def b_supI (c : Str) (K : PySem.W.Frag) : Bool := decide (PySem.W.nsIn K cStatics "thirdparty.any" = some none) && (decide (PySem.W.mroIn K (He.ga K c) (.ref (He.ga K c)) = some true) && (decide (PySem.W.ks_superIn K (He.ga K c) (He.ga K c) "__init__" = some (some (.builtin "ValueError.__init__"))) && decide (PySem.W.subIn K (.ref (He.ga K c)) (.type "ValueError") = some true)))
def b_noX (fl : List Str) (c : Str) (K : PySem.W.Frag) : Bool := fl.all fun f => decide (PySem.W.findIn K (.ref (He.ga K c)) f = some none)
def b_ini (c : Str) (K : PySem.W.Frag) : Bool := decide (PySem.W.findIn K (.ref (He.ga K c)) "__init__" = some (some (.ref (Ma K c "__init__")))) && decide (PySem.W.typeIn K (.ref (Ma K c "__init__")) = some (.type "function"))
def b_exm (l : List (Str × Bool)) (c : Str) (K : PySem.W.Frag) : Bool := l.all fun p => decide (PySem.W.exmOne K (.ref (He.ga K p.1)) (.ref (He.ga K c)) = some p.2)
def b_xf (l : List Str) (K : PySem.W.Frag) : Bool := l.all fun c => xfB K (He.ga K c)
def b_xn (l : List Str) (f : Str) (K : PySem.W.Frag) : Bool := l.all fun c => decide (PySem.W.findIn K (.ref (He.ga K c)) f = some none)
section
variable {K : PySem.W.Frag} {c C m own f : Str} {cs fl : List Str} {l : List (Str × Bool)}
theorem mk_okX (h : b_mk c own K = true) : Mk K (He.ga K c) (Ma K own "__init__") := by
  obtain ⟨h1, h⟩ := He.ba h
  obtain ⟨h2, h⟩ := He.ba h
  obtain ⟨h3, h4⟩ := He.ba h
  exact ⟨h1, of_decide_eq_true h2, h3, h4⟩
theorem meth_okX (h : b_meth c m own K = true) : Meth K (He.ga K c) m (Ma K own m) := by
  obtain ⟨h1, h⟩ := He.ba h
  obtain ⟨h3, h4⟩ := He.ba h
  exact ⟨of_decide_eq_true h1, h3, h4⟩
theorem fld_okX (h : b_fld cs f K = true) : ∀ c ∈ cs, Cls K (He.ga K c) ∧ NoAttr K (He.ga K c) f := fun c hc => by
  obtain ⟨h1, h2⟩ := He.ba (List.all_eq_true.mp h c hc)
  exact ⟨He.cls_ok h1, (of_decide_eq_true h2 : PySem.W.findIn K (.ref (He.ga K c)) f = some none)⟩
theorem prop_okX (h : b_prop cs m own K = true) : ∀ c ∈ cs, Cls K (He.ga K c) ∧ PropOf K (He.ga K c) m (Ma K own m) (Pg K own m) := fun c hc => by
  obtain ⟨h1, h⟩ := He.ba (List.all_eq_true.mp h c hc)
  obtain ⟨h2, h⟩ := He.ba h
  obtain ⟨h3, h⟩ := He.ba h
  obtain ⟨h4, h5⟩ := He.ba h
  refine ⟨He.cls_ok h1, of_decide_eq_true h2, of_decide_eq_true h3, of_decide_eq_true h4, ?_⟩
  split at h5
  · rename_i g rest e
    exact ⟨rest, by unfold Pg; rw [e]⟩
  · cases h5
theorem len_okX (h : b_len cs own K = true) : ∀ c ∈ cs, PySem.W.findIn K (.ref (He.ga K c)) "__len__" = some (some (.ref (Ma K own "__len__"))) ∧ PySem.W.isFn K (.ref (Ma K own "__len__")) = true := fun c hc => by
  obtain ⟨h1, h2⟩ := He.ba (List.all_eq_true.mp h c hc)
  exact ⟨of_decide_eq_true h1, h2⟩
theorem sup_okX (hm : (m == ("__class__" : Str)) = false) (h : b_sup cs C m own K = true) : ∀ c ∈ cs, SupM K (He.ga K c) (He.ga K C) m (Ma K own m) := fun c hc => by
  obtain ⟨h1, h⟩ := He.ba (List.all_eq_true.mp h c hc)
  obtain ⟨h2, h⟩ := He.ba h
  obtain ⟨h3, h⟩ := He.ba h
  obtain ⟨h4, h5⟩ := He.ba h
  exact ⟨of_decide_eq_true h1, of_decide_eq_true h2, of_decide_eq_true h3, of_decide_eq_true h4, h5, hm⟩
theorem supI_ok (h : b_supI c K = true) : SupI K (He.ga K c) (He.ga K c) := by
  obtain ⟨h1, h⟩ := He.ba h
  obtain ⟨h2, h⟩ := He.ba h
  obtain ⟨h3, h4⟩ := He.ba h
  exact ⟨of_decide_eq_true h1, of_decide_eq_true h2, of_decide_eq_true h3, of_decide_eq_true h4⟩
theorem noX_ok (h : b_noX fl c K = true) : ∀ f ∈ fl, PySem.W.findIn K (.ref (He.ga K c)) f = some none := fun f hf => of_decide_eq_true (List.all_eq_true.mp h f hf)
theorem ini_ok (h : b_ini c K = true) : PySem.W.findIn K (.ref (He.ga K c)) "__init__" = some (some (.ref (Ma K c "__init__"))) ∧ PySem.W.typeIn K (.ref (Ma K c "__init__")) = some (.type "function") := by
  obtain ⟨h1, h2⟩ := He.ba h
  exact ⟨of_decide_eq_true h1, of_decide_eq_true h2⟩
theorem exm_okX (h : b_exm l c K = true) : ∀ p ∈ l, PySem.W.exmOne K (.ref (He.ga K p.1)) (.ref (He.ga K c)) = some p.2 := fun p hp => of_decide_eq_true (List.all_eq_true.mp h p hp)
theorem xf_okX (h : b_xf cs K = true) : ∀ c ∈ cs, L2.XfC K (He.ga K c) := fun c hc => xfB_ok (List.all_eq_true.mp h c hc)
theorem xn_okX (h : b_xn cs f K = true) : ∀ c ∈ cs, PySem.W.findIn K (.ref (He.ga K c)) f = some none := fun c hc => of_decide_eq_true (List.all_eq_true.mp h c hc)
end
end Dl

namespace Dl
open PySem PySem.Spec PyProof.Rows L2
/-- the script, as data -/
theorem den_script {F : Cf} {O : Addr → Prop} {H : Hp} {a : Addr} {ns : List Int} (hO : Only H) (h : SqL F.K H a (ns.map V.int)) (n : ¬ O a) : Den F O H (.ref a) (.frz (ns.map D.int)) := by
  rcases h with (h | ⟨o, h⟩) | h
  · rcases hO a with z | ⟨o, xs, z⟩ <;> rw [h] at z <;> cases z
  · exact .ob (.lstz h (dens_ints ns)) n
  · exact .lstK (fun H' => .inr h) (dens_ints ns)
/-- the law's promise from its semantic function -/
theorem sp_script {K : PySem.W.Frag} {CE : Str → Addr} {f : FSem} {H : Hp} {a : Addr} {ns : List Int} (hO : Only H) (h : SqL K H a (ns.map V.int)) (hf : f [.frz (ns.map D.int)] = .ret (.bl true) []) :
    spF ⟨K, CE, none⟩ [.v] f [.ref a] H (fun v _ => v = .bl true) fun _ _ _ => False := by
  refine ⟨fun _ => False, [.frz (ns.map D.int)], fun a z => z.elim, .v (den_script (F := ⟨K, CE, none⟩) hO h (fun z => z)) .nil, List.nodup_nil, ?_⟩
  rw [hf]
  intro v H' _ dv _
  cases dv with
  | bl b => rfl
  | ob w n => cases w
/-- the law's own def: one function object for every base -/
theorem fn_bGA {P : Program} {w : World} {K : PySem.W.Frag} {mg : Str → Option Value} {CE : Str → Addr} {x qual : Str} {st : Stmt} {f : Addr} {N ps : List Str} {k : Nat} {ms : List Mode} {g : SSem} (Fu : ∃ fd, Fun K x qual st f fd) (S : FnScope N ps (defScope st)) (hm : ms.length = ps.length) (hn : ms.length ≤ N.length)
    (hb : ∀ (kV doc pm : Value) (an : Option Addr) (cdv ct : Value) (us : List Value), us.length = ps.length → bindArgs (PySem.W.fnOf x qual (defArgs st) (defBody st) (defScope st) .none kV doc pm an cdv ct) ⟨us, []⟩ = pure (ps.zip us))
    (hbody : ∀ (base : Heap) (cdv : Value) (A : Around) (outer : List Env) (s : Shared) (H : Hp) (E : XK), Room k (A.deeper (PyProof.Rows.envOfC qual (defScope st) s.heap.objs.size f cdv)) → A.guards = some [] →
      DSs ⟨K, CE, none⟩ (WE' E) (cxOf (L2.CX P w) P w K mg base N qual (defScope st) f cdv A outer s H E) (defBody st) g) : ∃ fd, (∀ base : Heap, FnOkG P w K mg base (L2.CX P w) (k + 1) f fd ps (spF ⟨K, CE, none⟩ ms (fnOf ms N.length g))) ∧ Binds K fd ps [] := by
  obtain ⟨fd, Fu⟩ := Fu
  exact ⟨fd, fun base => fn_okG Fu S hm hn (hbody base), Fu.binds hb⟩
theorem no_CX {P : Program} {w : World} {H : Hp} {s s' : Shared} {e : Value} (h : L2.CX P w [] H s (fun _ _ _ => False) e s') : False := by
  obtain ⟨_, _, _, _, _, _, _, _, _, _, _, _, h⟩ := h
  exact h
end Dl

/-! E1: what the semantic functions give on plain data: rules for working out code. -/
namespace Dl
open PySem PySem.Spec PyProof.Rows L2

/-! ### data -/
abbrev nD (n : Nat) : D := .int n
def tN (xs : List Nat) : D := .tup (xs.map nD)
def lN (xs : List Nat) : D := .lst (xs.map nD)
theorem nD_inj {a b : Nat} : nD a = nD b ↔ a = b := by simp only [nD, D.int.injEq]; omega
theorem map_nD_inj : ∀ {xs ys : List Nat}, xs.map nD = ys.map nD ↔ xs = ys
  | [], [] => by simp
  | [], _ :: _ => by simp
  | _ :: _, [] => by simp
  | x :: xs, y :: ys => by rw [List.map_cons, List.map_cons, List.cons.injEq, nD_inj, map_nD_inj (xs := xs) (ys := ys), List.cons.injEq]
theorem tN_inj {xs ys : List Nat} : tN xs = tN ys ↔ xs = ys := by simp [tN, map_nD_inj]
theorem lN_inj {xs ys : List Nat} : lN xs = lN ys ↔ xs = ys := by simp [lN, map_nD_inj]

/-! ### equality of plain data -/
def plainD : Nat → D → Prop
  | _, .int _ => True
  | _, .str x => PyData.strOk x = true
  | k + 1, .tup ds => ∀ d ∈ ds, plainD k d
  | k + 1, .lst ds => ∀ d ∈ ds, plainD k d
  | _, _ => False
theorem toPy_int (i : Int) : toPy (.int i) = some (.int i) := by rw [toPy]
theorem toPy_str (i : Str) : toPy (.str i) = some (.str i) := by rw [toPy]
theorem toPys_of {k : Nat} (ih : ∀ d, plainD k d → ∃ p, toPy d = some p ∧ p.canLay0 = true ∧ p.depth ≤ k) : ∀ ds : List D, (∀ d ∈ ds, plainD k d) → ∃ ps, toPys ds = some ps ∧ PyData.canLayAll0 ps = true ∧ PyData.depthAll ps ≤ k
  | [], _ => ⟨[], rfl, rfl, Nat.zero_le _⟩
  | d :: ds, h => by
    obtain ⟨p, h1, h2, h3⟩ := ih d (h d (by simp))
    obtain ⟨ps, g1, g2, g3⟩ := toPys_of ih ds fun x hx => h x (by simp [hx])
    refine ⟨p :: ps, ?_, ?_, ?_⟩
    · rw [toPys, h1, g1]; rfl
    · rw [PyData.canLayAll0, h2, g2]; rfl
    · rw [PyData.depthAll]; omega
theorem toPy_of : ∀ (k : Nat) (d : D), plainD k d → ∃ p, toPy d = some p ∧ p.canLay0 = true ∧ p.depth ≤ k := by
  intro k
  induction k with
  | zero =>
    intro d h
    cases d with
    | int i => exact ⟨.int i, by rw [toPy], rfl, by simp [PyData.depth]⟩
    | str x => exact ⟨.str x, by rw [toPy], by simpa [PyData.canLay0, plainD] using h, by simp [PyData.depth]⟩
    | _ => simp [plainD] at h
  | succ k ih =>
    intro d h
    cases d with
    | int i => exact ⟨.int i, by rw [toPy], rfl, by simp [PyData.depth]⟩
    | str x => exact ⟨.str x, by rw [toPy], by simpa [PyData.canLay0, plainD] using h, by simp [PyData.depth]⟩
    | tup ds =>
      obtain ⟨ps, g1, g2, g3⟩ := toPys_of ih ds h
      exact ⟨.tuple ps, by rw [toPy, g1]; rfl, by simpa [PyData.canLay0] using g2, by simp [PyData.depth]; omega⟩
    | lst ds =>
      obtain ⟨ps, g1, g2, g3⟩ := toPys_of ih ds h
      exact ⟨.list ps, by rw [toPy, g1]; rfl, by simpa [PyData.canLay0] using g2, by simp [PyData.depth]; omega⟩
    | _ => simp [plainD] at h
theorem toPys_cons {d : D} {ds : List D} {ps : List PyData} (h : toPys (d :: ds) = some ps) : ∃ p qs, ps = p :: qs ∧ toPy d = some p ∧ toPys ds = some qs := by
  rw [toPys] at h
  obtain ⟨p, h1, h⟩ := Option.bind_eq_some_iff.mp h
  obtain ⟨qs, h2, h⟩ := Option.bind_eq_some_iff.mp h
  cases h
  exact ⟨p, qs, rfl, h1, h2⟩
theorem eqvs_iff {k : Nat} (ih : ∀ d e p q, plainD k d → plainD k e → toPy d = some p → toPy e = some q → (PyData.eqv p q = true ↔ d = e)) : ∀ (ds es : List D) (ps qs : List PyData), (∀ d ∈ ds, plainD k d) → (∀ d ∈ es, plainD k d) → toPys ds = some ps → toPys es = some qs → (PyData.eqvAll ps qs = true ↔ ds = es)
  | [], [], _, _, _, _, h1, h2 => by rw [toPys] at h1 h2; cases h1; cases h2; simp [PyData.eqvAll]
  | [], e :: es, ps, qs, _, _, h1, h2 => by
    obtain ⟨q, r, rfl, _, _⟩ := toPys_cons h2
    rw [toPys] at h1; cases h1; simp [PyData.eqvAll]
  | d :: ds, [], ps, qs, _, _, h1, h2 => by
    obtain ⟨q, r, rfl, _, _⟩ := toPys_cons h1
    rw [toPys] at h2; cases h2; simp [PyData.eqvAll]
  | d :: ds, e :: es, ps, qs, a, b, h1, h2 => by
    obtain ⟨p, r, rfl, h3, h4⟩ := toPys_cons h1
    obtain ⟨q, t, rfl, h5, h6⟩ := toPys_cons h2
    have i1 := ih d e p q (a d (by simp)) (b e (by simp)) h3 h5
    have i2 := eqvs_iff ih ds es r t (fun x hx => a x (by simp [hx])) (fun x hx => b x (by simp [hx])) h4 h6
    rw [PyData.eqvAll, Bool.and_eq_true, i1, i2]
    simp
theorem toPy_tup {ds : List D} {p : PyData} (h : toPy (.tup ds) = some p) : ∃ ps, toPys ds = some ps ∧ p = .tuple ps := by
  rw [toPy] at h
  obtain ⟨ps, h1, h2⟩ := Option.map_eq_some_iff.mp h
  exact ⟨ps, h1, h2.symm⟩
theorem toPy_lst {ds : List D} {p : PyData} (h : toPy (.lst ds) = some p) : ∃ ps, toPys ds = some ps ∧ p = .list ps := by
  rw [toPy] at h
  obtain ⟨ps, h1, h2⟩ := Option.map_eq_some_iff.mp h
  exact ⟨ps, h1, h2.symm⟩
theorem eqv_iff : ∀ (k : Nat) (d e : D) (p q : PyData), plainD k d → plainD k e → toPy d = some p → toPy e = some q → (PyData.eqv p q = true ↔ d = e) := by
  intro k
  induction k with
  | zero =>
    intro d e p q h1 h2 h3 h4
    cases d <;> first | (simp [plainD] at h1; done) | skip
    all_goals cases e <;> first | (simp [plainD] at h2; done) | skip
    all_goals (simp only [toPy_int, toPy_str] at h3 h4; cases h3; cases h4; simp [PyData.eqv])
  | succ k ih =>
    intro d e p q h1 h2 h3 h4
    cases d <;> first | (simp [plainD] at h1; done) | skip
    all_goals cases e <;> first | (simp [plainD] at h2; done) | skip
    case tup.tup =>
      obtain ⟨ps, a1, rfl⟩ := toPy_tup h3
      obtain ⟨qs, b1, rfl⟩ := toPy_tup h4
      have := eqvs_iff ih _ _ _ _ h1 h2 a1 b1
      simpa [PyData.eqv] using this
    case lst.lst =>
      obtain ⟨ps, a1, rfl⟩ := toPy_lst h3
      obtain ⟨qs, b1, rfl⟩ := toPy_lst h4
      have := eqvs_iff ih _ _ _ _ h1 h2 a1 b1
      simpa [PyData.eqv] using this
    case tup.lst =>
      obtain ⟨ps, a1, rfl⟩ := toPy_tup h3
      obtain ⟨qs, b1, rfl⟩ := toPy_lst h4
      simp [PyData.eqv]
    case lst.tup =>
      obtain ⟨ps, a1, rfl⟩ := toPy_lst h3
      obtain ⟨qs, b1, rfl⟩ := toPy_tup h4
      simp [PyData.eqv]
    case tup.int => obtain ⟨ps, a1, rfl⟩ := toPy_tup h3; simp only [toPy_int, toPy_str] at h4; cases h4; simp [PyData.eqv]
    case tup.str => obtain ⟨ps, a1, rfl⟩ := toPy_tup h3; simp only [toPy_int, toPy_str] at h4; cases h4; simp [PyData.eqv]
    case lst.int => obtain ⟨ps, a1, rfl⟩ := toPy_lst h3; simp only [toPy_int, toPy_str] at h4; cases h4; simp [PyData.eqv]
    case lst.str => obtain ⟨ps, a1, rfl⟩ := toPy_lst h3; simp only [toPy_int, toPy_str] at h4; cases h4; simp [PyData.eqv]
    case int.tup => obtain ⟨ps, a1, rfl⟩ := toPy_tup h4; simp only [toPy_int, toPy_str] at h3; cases h3; simp [PyData.eqv]
    case str.tup => obtain ⟨ps, a1, rfl⟩ := toPy_tup h4; simp only [toPy_int, toPy_str] at h3; cases h3; simp [PyData.eqv]
    case int.lst => obtain ⟨ps, a1, rfl⟩ := toPy_lst h4; simp only [toPy_int, toPy_str] at h3; cases h3; simp [PyData.eqv]
    case str.lst => obtain ⟨ps, a1, rfl⟩ := toPy_lst h4; simp only [toPy_int, toPy_str] at h3; cases h3; simp [PyData.eqv]
    all_goals (simp only [toPy_int, toPy_str] at h3 h4; cases h3; cases h4; simp [PyData.eqv])
theorem pyOf_of {k : Nat} {d : D} (h : plainD k d) (hk : k ≤ 64) : ∃ p, pyOf d = some p ∧ toPy d = some p := by
  obtain ⟨p, h1, h2, h3⟩ := toPy_of k d h
  refine ⟨p, ?_, h1⟩
  have : SeqAt.shaped p = true := by
    unfold SeqAt.shaped
    rw [h2, Bool.true_and]
    exact decide_eq_true (by omega)
  unfold pyOf
  rw [h1]
  show (if SeqAt.shaped p = true then some p else none) = some p
  rw [if_pos this]
open Classical in
theorem gEq_of {k : Nat} {d e : D} (h : plainD k d) (g : plainD k e) (hk : k ≤ 64) : gEq d e = some (.bl (decide (d = e))) := by
  obtain ⟨p, h1, h2⟩ := pyOf_of h hk
  obtain ⟨q, g1, g2⟩ := pyOf_of g hk
  have := eqv_iff k d e p q h g h2 g2
  unfold gEq
  rw [h1, g1]
  show some (D.bl (PyData.eqv p q)) = _
  by_cases z : d = e
  · rw [decide_eq_true z, this.mpr z]
  · have : PyData.eqv p q = false := by
      cases hh : PyData.eqv p q with
      | false => rfl
      | true => exact absurd (this.mp hh) z
    rw [decide_eq_false z, this]
open Classical in
theorem gNe_of {k : Nat} {d e : D} (h : plainD k d) (g : plainD k e) (hk : k ≤ 64) : gNe d e = some (.bl (!decide (d = e))) := by
  have := gEq_of h g hk
  unfold gEq at this
  unfold gNe
  obtain ⟨p, h1, h2⟩ := pyOf_of h hk
  obtain ⟨q, g1, g2⟩ := pyOf_of g hk
  rw [h1, g1] at this ⊢
  have : some (D.bl (PyData.eqv p q)) = _ := this
  show some (D.bl (!PyData.eqv p q)) = _
  simp only [Option.some.injEq, D.bl.injEq] at this
  rw [this]
theorem any_eqv {k : Nat} {x : D} {p : PyData} (hx : plainD k x) (hp : toPy x = some p) : ∀ (ds : List D) (qs : List PyData), (∀ d ∈ ds, plainD k d) → toPys ds = some qs → ((qs.any fun z => PyData.eqv z p) = true ↔ x ∈ ds)
  | [], qs, _, h => by rw [toPys] at h; cases h; simp
  | d :: ds, qs, a, h => by
    obtain ⟨q, r, rfl, h3, h4⟩ := toPys_cons h
    have i1 := eqv_iff k d x q p (a d (by simp)) hx h3 hp
    have i2 := any_eqv hx hp ds r (fun y hy => a y (by simp [hy])) h4
    rw [List.any_cons, Bool.or_eq_true, i1, i2]
    simp [eq_comm]
open Classical in
theorem gIn_lst {k : Nat} {x : D} {ds : List D} {neg : Bool} (hx : plainD k x) (hd : ∀ d ∈ ds, plainD k d) (hk : k + 1 ≤ 64) : gIn neg x (.lst ds) = some (.bl (if neg then !decide (x ∈ ds) else decide (x ∈ ds))) := by
  obtain ⟨p, h1, h2⟩ := pyOf_of hx (by omega : k ≤ 64)
  have hl : plainD (k + 1) (.lst ds) := hd
  obtain ⟨q, g1, g2⟩ := pyOf_of hl hk
  obtain ⟨qs, g3, rfl⟩ := toPy_lst g2
  have := any_eqv hx h2 ds qs hd g3
  have e : (qs.any fun z => PyData.eqv z p) = decide (x ∈ ds) := by
    by_cases z : x ∈ ds
    · rw [decide_eq_true z, this.mpr z]
    · rw [decide_eq_false z]
      cases hh : (qs.any fun z => PyData.eqv z p) with
      | false => rfl
      | true => exact absurd (this.mp hh) z
  simp only [gIn]
  rw [h1, g1, ← e]
  rfl
theorem isInF_nD (x : Nat) : ∀ xs : List Nat, isInF (nD x) (xs.map nD) = decide (x ∈ xs)
  | [] => by simp [isInF]
  | y :: ys => by
    have := isInF_nD x ys
    unfold isInF at this ⊢
    rw [List.map_cons, List.any_cons, this]
    have e : eqF (nD y) (nD x) = decide (x = y) := by
      show ((y : Int) == (x : Int)) = _
      by_cases h : x = y
      · subst h; simp
      · have h' : (y : Int) ≠ x := by omega
        simp [h, h']
    rw [e]
    by_cases h : x = y <;> simp [h]
theorem flat_nD : ∀ xs : List Nat, (xs.map nD).all flatD = true
  | [] => rfl
  | x :: xs => by rw [List.map_cons, List.all_cons, flat_nD xs]; rfl
@[simp] theorem gIn_tN (neg : Bool) (x : Nat) (xs : List Nat) : gIn neg (nD x) (tN xs) = some (.bl (if neg then !decide (x ∈ xs) else decide (x ∈ xs))) := by
  unfold gIn tN
  simp only [flat_nD, isInF_nD]
  rfl
theorem plain_nD (k n : Nat) : plainD k (nD n) := by cases k <;> simp [plainD, nD]
theorem plain_int (k : Nat) (n : Int) : plainD k (.int n) := by cases k <;> simp [plainD]
theorem plain_tN (k : Nat) (xs : List Nat) : plainD (k + 1) (tN xs) := by
  unfold tN plainD
  intro d hd
  obtain ⟨x, _, rfl⟩ := List.mem_map.mp hd
  exact plain_nD _ _
theorem plain_lN (k : Nat) (xs : List Nat) : plainD (k + 1) (lN xs) := by
  unfold lN plainD
  intro d hd
  obtain ⟨x, _, rfl⟩ := List.mem_map.mp hd
  exact plain_nD _ _
@[simp] theorem gEq_int (a b : Int) : gEq (.int a) (.int b) = some (.bl (decide (a = b))) := by
  rw [gEq_of (plain_int 0 a) (plain_int 0 b) (by omega)]
  simp
@[simp] theorem gNe_int (a b : Int) : gNe (.int a) (.int b) = some (.bl (!decide (a = b))) := by
  rw [gNe_of (plain_int 0 a) (plain_int 0 b) (by omega)]
  simp
@[simp] theorem gEq_tN (a b : List Nat) : gEq (tN a) (tN b) = some (.bl (decide (a = b))) := by
  rw [gEq_of (plain_tN 0 a) (plain_tN 0 b) (by omega)]
  simp [tN_inj]
@[simp] theorem gNe_tN (a b : List Nat) : gNe (tN a) (tN b) = some (.bl (!decide (a = b))) := by
  rw [gNe_of (plain_tN 0 a) (plain_tN 0 b) (by omega)]
  simp [tN_inj]
end Dl

namespace Dl
open PySem PySem.Spec PyProof.Rows L2
section
variable {α β : Type} {a : α} {e env : En} {c : Str} {ns : List Str} {ds : List D} {d x y z : D} {fa fb : SSem} {fe fe2 fk fl fh : ESem} {g ga gb : BSem} {h : ASem} {i : Nat}
@[simp] theorem bind_ok' (k : α → En → Out β) : (Out.ok a e).bind k = k a e := (rfl)
@[simp] theorem bind_exc' (k : α → En → Out β) : (Out.exc c ns ds e : Out α).bind k = .exc c ns ds e := (rfl)
@[simp] theorem then_ok' (k : α → En → SOut) : (Out.ok a e).then k = k a e := (rfl)
@[simp] theorem then_exc' (k : α → En → SOut) : (Out.exc c ns ds e : Out α).then k = .exc c ns ds e := (rfl)
@[simp] theorem lift_some' : lift (some a) e = .ok a e := (rfl)
@[simp] theorem calm_ok' : (Out.ok a e).calm = .ok a e := (rfl)
@[simp] theorem seq_nx' (k : En → SOut) : (SOut.nx e).seq k = k e := (rfl)
@[simp] theorem seq_rt' (k : En → SOut) : (SOut.rt d e).seq k = .rt d e := (rfl)
@[simp] theorem seq_bk' (k : En → SOut) : (SOut.bk e).seq k = .bk e := (rfl)
@[simp] theorem seq_ct' (k : En → SOut) : (SOut.ct e).seq k = .ct e := (rfl)
@[simp] theorem seq_exc' (k : En → SOut) : (SOut.exc c ns ds e).seq k = .exc c ns ds e := (rfl)
@[simp] theorem sNil' : sNil env = .nx env := rfl
@[simp] theorem sSeq' : sSeq fa fb env = (fa env).seq fb := rfl
@[simp] theorem sBk' : sBk env = .bk env := rfl
@[simp] theorem sCt' : sCt env = .ct env := rfl
@[simp] theorem sExpr' : sExpr fe env = (fe env).then fun _ e1 => .nx e1 := rfl
@[simp] theorem sRet' : sRet fe env = (fe env).then fun d e1 => .rt d e1 := rfl
@[simp] theorem sRetN' : sRetN env = .rt .non env := rfl
@[simp] theorem sIf' : sIf g fa fb env = (g env).then fun b e1 => if b = true then fa e1 else fb e1 := rfl
@[simp] theorem sSet' : sSet i fe env = (fe env).then fun d e1 => .nx (e1.set i (.val d)) := rfl
@[simp] theorem sOwn' : sOwn i fe env = (fe env).then fun d e1 => .nx (e1.set i (.own d)) := rfl
@[simp] theorem eC' : eC d env = .ok d env := rfl
@[simp] theorem eBin' (o : D → D → Option D) : eBin o fe fe2 env = (fe env).bind fun x e1 => (fe2 e1).bind fun y e2 => lift (o x y) e2 := rfl
@[simp] theorem eUn' (o : D → Option D) : eUn o fe env = (fe env).bind fun x e1 => lift (o x) e1 := rfl
@[simp] theorem bT' : bT fe env = (fe env).bind fun d e1 => match d with | .bl b => .ok b e1 | _ => .stuck := rfl
@[simp] theorem bE' : bE fe env = (fe env).bind fun d e1 => lift (truth d) e1 := rfl
@[simp] theorem bNot' : bNot g env = (g env).bind fun b e1 => .ok (!b) e1 := rfl
@[simp] theorem bAnd' : bAnd ga gb env = (ga env).bind fun b e1 => if b = true then gb e1 else .ok false e1 := rfl
@[simp] theorem bOr' : bOr ga gb env = (ga env).bind fun b e1 => if b = true then .ok true e1 else gb e1 := rfl
@[simp] theorem eAnd' : eAnd fe fe2 env = (fe env).bind fun x e1 => (lift (truth x) e1).bind fun b e2 => if b = true then fe2 e2 else .ok x e2 := rfl
@[simp] theorem eOr' : eOr fe fe2 env = (fe env).bind fun x e1 => (lift (truth x) e1).bind fun b e2 => if b = true then .ok x e2 else fe2 e2 := rfl
@[simp] theorem eNot' : eNot fe env = (fe env).bind fun x e1 => (lift (truth x) e1).bind fun b e2 => .ok (.bl !b) e2 := rfl
@[simp] theorem eIf' : eIf g fe fe2 env = (g env).bind fun b e1 => if b = true then fe e1 else fe2 e1 := rfl
@[simp] theorem aNil' : aNil env = .ok [] env := rfl
@[simp] theorem aCons' : aCons fe h env = (fe env).bind fun x e1 => (h e1).bind fun xs e2 => .ok (x :: xs) e2 := rfl
@[simp] theorem eTup' : eTup h env = (h env).bind fun ds e1 => if small ds = true then .ok (.tup ds) e1 else .stuck := rfl
@[simp] theorem eLst' : eLst h env = (h env).bind fun ds e1 => if small ds = true then .ok (.lst ds) e1 else .stuck := rfl
@[simp] theorem truth_bl (b : Bool) : truth (.bl b) = some b := rfl
@[simp] theorem truth_int (b : Int) : truth (.int b) = some (b != 0) := rfl
@[simp] theorem truth_non : truth .non = some false := rfl
@[simp] theorem eVar' : eVar i env = match env[i]? with
  | some (.val d) => .ok d env
  | some (.own d) => .ok (lockD d) (env.set i (.val (lockD d)))
  | _ => .stuck := rfl
@[simp] theorem lockD_dct (ks : List Key) (ds : List D) : lockD (.dct ks ds) = .dcl ks ds := rfl
@[simp] theorem lockD_lst (ds : List D) : lockD (.lst ds) = .lst ds := rfl
@[simp] theorem lockD_tup (ds : List D) : lockD (.tup ds) = .tup ds := rfl
@[simp] theorem lockD_lN (xs : List Nat) : lockD (lN xs) = lN xs := rfl
@[simp] theorem lockD_tN (xs : List Nat) : lockD (tN xs) = tN xs := rfl
@[simp] theorem lockD_int (a : Int) : lockD (.int a) = .int a := rfl
@[simp] theorem lockD_ins (c : Str) (ns : List Str) (ds : List D) : lockD (.ins c ns ds) = .ins c ns ds := rfl
@[simp] theorem eChain' (o o' : D → D → Option D) {fc : ESem} : eChain o o' fe fe2 fc env = (fe env).bind fun x e1 => (fe2 e1).bind fun y e2 => (lift (o x y) e2).bind fun z e3 => match z with
  | .bl true => (fc e3).bind fun w e4 => lift (o' y w) e4
  | .bl false => .ok (.bl false) e3
  | _ => .stuck := rfl
@[simp] theorem gII' (o : Int → Int → Option D) (a b : Int) : gII o (.int a) (.int b) = o a b := rfl
@[simp] theorem gLt0' (a b : Int) : gLt0 (.int a) (.int b) = some (.bl (decide (a < b))) := rfl
@[simp] theorem gLe' (a b : Int) : gLe (.int a) (.int b) = some (.bl (decide (a ≤ b))) := rfl
@[simp] theorem gGt' (a b : Int) : gGt (.int a) (.int b) = some (.bl (decide (b < a))) := rfl
@[simp] theorem gGe' (a b : Int) : gGe (.int a) (.int b) = some (.bl (decide (b ≤ a))) := rfl
@[simp] theorem gSub' (a b : Int) : gSub (.int a) (.int b) = some (.int (a - b)) := rfl
@[simp] theorem gAdd' (a b : Int) : gAdd (.int a) (.int b) = some (.int (a + b)) := rfl
@[simp] theorem gNeg' (a : Int) : gNeg (.int a) = some (.int (-a)) := rfl
@[simp] theorem gAbs' (a : Int) : gAbs (.int a) = some (.int (if a < 0 then -a else a)) := rfl
@[simp] theorem gInt' (a : Int) : gInt (.int a) = some (.int a) := rfl
@[simp] theorem gMod' (a b : Int) : gMod (.int a) (.int b) = if decide (b ≠ 0) = true then some (.int (a.fmod b)) else none := rfl
@[simp] theorem gDiv' (a b : Int) : gDiv (.int a) (.int b) = if cDiv a b = true then some (.int (a.fdiv b)) else none := rfl
@[simp] theorem gMul' (a b : Int) : gMul (.int a) (.int b) = if cMul a b = true then some (.int (a * b)) else none := rfl
@[simp] theorem gMax2' (a b : Int) : gMax2 (.int a) (.int b) = some (.int (if b > a then b else a)) := rfl
@[simp] theorem gMin2' (a b : Int) : gMin2 (.int a) (.int b) = some (.int (if b < a then b else a)) := rfl
@[simp] theorem gIsN' (x : D) : gIsN x .non = some (.bl (isNon x)) := rfl
@[simp] theorem gNotN' (x : D) : gNotN x .non = some (.bl (!isNon x)) := rfl
@[simp] theorem isNon_int (a : Int) : isNon (.int a) = false := rfl
@[simp] theorem isNon_non : isNon .non = true := rfl
@[simp] theorem isNon_tup (a : List D) : isNon (.tup a) = false := rfl
@[simp] theorem isNon_lst (a : List D) : isNon (.lst a) = false := rfl
@[simp] theorem isNon_bl (a : Bool) : isNon (.bl a) = false := rfl
@[simp] theorem gNotB' (a b : Bool) : gNotB (.bl a) (.bl b) = some (.bl (!decide (a = b))) := rfl
@[simp] theorem gIsB' (a b : Bool) : gIsB (.bl a) (.bl b) = some (.bl (decide (a = b))) := rfl
@[simp] theorem gLen_lst (ds : List D) : gLen (.lst ds) = some (.int ds.length) := rfl
@[simp] theorem gLen_tup (ds : List D) : gLen (.tup ds) = some (.int ds.length) := rfl
@[simp] theorem gLen_tN (ds : List Nat) : gLen (tN ds) = some (.int ds.length) := by simp [tN, gLen]
@[simp] theorem gLen_lN (ds : List Nat) : gLen (lN ds) = some (.int ds.length) := by simp [lN, gLen]
@[simp] theorem gLen_dct (ks : List Key) (ds : List D) : gLen (.dct ks ds) = some (.int ks.length) := rfl
@[simp] theorem gLen_dcl (ks : List Key) (ds : List D) : gLen (.dcl ks ds) = some (.int ks.length) := rfl
@[simp] theorem gTupleOf_lst (ds : List D) : gTupleOf (.lst ds) = some (.tup ds) := rfl
@[simp] theorem gTupleOf_tup (ds : List D) : gTupleOf (.tup ds) = some (.tup ds) := rfl
@[simp] theorem gTupleOf_tN (ds : List Nat) : gTupleOf (tN ds) = some (tN ds) := rfl
@[simp] theorem gTupleOf_lN (ds : List Nat) : gTupleOf (lN ds) = some (tN ds) := rfl
@[simp] theorem gListOf_lst (ds : List D) : gListOf (.lst ds) = some (.lst ds) := rfl
@[simp] theorem gListOf_tup (ds : List D) : gListOf (.tup ds) = some (.lst ds) := rfl
@[simp] theorem gListOf_tN (ds : List Nat) : gListOf (tN ds) = some (lN ds) := rfl
@[simp] theorem gListOf_lN (ds : List Nat) : gListOf (lN ds) = some (lN ds) := rfl
@[simp] theorem g1' (o : D → Option D) : g1 o [x] = o x := rfl
@[simp] theorem g2' (o : D → D → Option D) : g2 o [x, y] = o x y := rfl
@[simp] theorem eCB' (o : List D → Option D) : eCB o h env = (h env).bind fun ds e1 => lift (o ds) e1 := rfl
@[simp] theorem slotD' : slotD env i = match env[i]? with
  | some (.val d) => some d
  | some s => s.lent
  | none => none := rfl
@[simp] theorem lent_own : (Sl.own d).lent = some d := rfl
@[simp] theorem lent_mt : (Sl.mt d).lent = some d := rfl
@[simp] theorem lent_br : (Sl.br d).lent = some d := rfl
@[simp] theorem lent_val : (Sl.val d).lent = none := rfl
@[simp] theorem lent_un : (Sl.un).lent = none := rfl
@[simp] theorem eBinL' (o : D → D → Option D) : eBinL o i fe env = (lift (slotD env i) env).bind fun _ _ => (fe env).bind fun y e1 => lift ((slotD e1 i).bind fun x => o x y) e1 := rfl
@[simp] theorem eBinR' (o : D → D → Option D) : eBinR o fe i env = (fe env).bind fun x e1 => lift ((slotD e1 i).bind fun y => o x y) e1 := rfl
@[simp] theorem eUnP' (o : D → Option D) : eUnP o i env = lift ((slotD env i).bind o) env := rfl
@[simp] theorem ourD' : ourD env i = match env[i]? with
  | some (.own d) => some d
  | some (.mt d) => some d
  | _ => none := rfl
/-! ### defs -/
@[simp] theorem gNil'' : gNil' env = .ok [] env := rfl
@[simp] theorem gE' {k : GSemA} : gE fe k env = (fe env).bind fun x e1 => (k e1).bind fun xs e2 => .ok (.d x :: xs) e2 := rfl
@[simp] theorem gL' {k : GSemA} : gL i k env = (lift ((env[i]?).bind Sl.lent) env).bind fun _ e1 => (k e1).bind fun xs e2 => .ok (.l i :: xs) e2 := rfl
@[simp] theorem mkEnv_v {ms : List Mode} {n : Nat} : mkEnv (.v :: ms) (d :: ds) (n + 1) = .val d :: mkEnv ms ds n := rfl
@[simp] theorem mkEnv_m {ms : List Mode} {n : Nat} : mkEnv (.m :: ms) (d :: ds) (n + 1) = .mt d :: mkEnv ms ds n := rfl
@[simp] theorem mkEnv_b {ms : List Mode} {n : Nat} : mkEnv (.b :: ms) (d :: ds) (n + 1) = .br d :: mkEnv ms ds n := rfl
@[simp] theorem mkEnv_0 {n : Nat} : mkEnv [] ds n = List.replicate n .un := by cases ds <;> rfl
@[simp] theorem fnOf' {ms : List Mode} {n : Nat} : fnOf ms n fa ds = if ds.length = ms.length then match fa (mkEnv ms ds n) with
    | .nx e => match outsOf ms e with | some o => .ret .non o | none => .stuck
    | .rt d e => match outsOf ms e with | some o => .ret d o | none => .stuck
    | .exc c ns es e => match outsOf ms e with | some o => .exc c ns es o | none => .stuck
    | _ => .stuck
  else .stuck := rfl
@[simp] theorem outsOf_0 : outsOf [] env = some [] := by cases env <;> rfl
@[simp] theorem outsOf_v {ms : List Mode} {s : Sl} : outsOf (.v :: ms) (s :: env) = outsOf ms env := rfl
@[simp] theorem outsOf_b {ms : List Mode} {s : Sl} : outsOf (.b :: ms) (s :: env) = outsOf ms env := rfl
@[simp] theorem outsOf_m {ms : List Mode} : outsOf (.m :: ms) (.mt d :: env) = (outsOf ms env).map (d :: ·) := rfl
/-- a call all of whose arguments are values -/
@[simp] theorem call1 {f : FSem} : apply [.v] f [.d x] env = match f [x] with
  | .ret d [] => .ok d env
  | .exc c ns es [] => .exc c ns es env
  | _ => .stuck := by
  simp only [apply, argsD, argD, slotsOf, List.nodup_nil, if_true, Option.bind, Option.map]
  cases f [x] with
  | ret d o => cases o <;> rfl
  | exc c ns es o => cases o <;> rfl
  | stuck => rfl
@[simp] theorem call0 {f : FSem} : apply [] f [] env = match f [] with
  | .ret d [] => .ok d env
  | .exc c ns es [] => .exc c ns es env
  | _ => .stuck := by
  simp only [apply, argsD, argD, slotsOf, List.nodup_nil, if_true, Option.bind, Option.map]
  cases f [] with
  | ret d o => cases o <;> rfl
  | exc c ns es o => cases o <;> rfl
  | stuck => rfl
@[simp] theorem call2 {f : FSem} : apply [.v, .v] f [.d x, .d y] env = match f [x, y] with
  | .ret d [] => .ok d env
  | .exc c ns es [] => .exc c ns es env
  | _ => .stuck := by
  simp only [apply, argsD, argD, slotsOf, List.nodup_nil, if_true, Option.bind, Option.map]
  cases f [x, y] with
  | ret d o => cases o <;> rfl
  | exc c ns es o => cases o <;> rfl
  | stuck => rfl
@[simp] theorem call3 {f : FSem} : apply [.v, .v, .v] f [.d x, .d y, .d z] env = match f [x, y, z] with
  | .ret d [] => .ok d env
  | .exc c ns es [] => .exc c ns es env
  | _ => .stuck := by
  simp only [apply, argsD, argD, slotsOf, List.nodup_nil, if_true, Option.bind, Option.map]
  cases f [x, y, z] with
  | ret d o => cases o <;> rfl
  | exc c ns es o => cases o <;> rfl
  | stuck => rfl
@[simp] theorem call4 {w : D} {f : FSem} : apply [.v, .v, .v, .v] f [.d x, .d y, .d z, .d w] env = match f [x, y, z, w] with
  | .ret d [] => .ok d env
  | .exc c ns es [] => .exc c ns es env
  | _ => .stuck := by
  simp only [apply, argsD, argD, slotsOf, List.nodup_nil, if_true, Option.bind, Option.map]
  cases f [x, y, z, w] with
  | ret d o => cases o <;> rfl
  | exc c ns es o => cases o <;> rfl
  | stuck => rfl
@[simp] theorem eCall' {ms : List Mode} {f : FSem} {k : GSemA} : eCall ms f k env = (k env).bind fun as e1 => apply ms f as e1 := rfl
end
end Dl

/-! E3: loops, comprehensions, defs: rules for what comes out. -/
namespace Dl
open PySem PySem.Spec PyProof.Rows L2
/-- the outcome is as Q says -/
structure Sat (Q : SOut → Prop) (o : SOut) : Prop where
  h : Q o
theorem sat_eq {Q : SOut → Prop} {o : SOut} : Sat Q o = Q o := propext ⟨fun h => h.h, fun h => ⟨h⟩⟩
/-- one turn of a loop: J if it goes on, P for what comes behind the loop -/
def Turn (J : En → Prop) (P : SOut → Prop) : SOut → Prop
  | .nx e => J e
  | .ct e => J e
  | .bk e => P (.nx e)
  | o => P o
/-- how a def ends -/
def Fin (ms : List Mode) (R : FOut → Prop) : SOut → Prop
  | .rt d e => ∃ outs, outsOf ms e = some outs ∧ R (.ret d outs)
  | .nx e => ∃ outs, outsOf ms e = some outs ∧ R (.ret .non outs)
  | .exc c ns es e => ∃ outs, outsOf ms e = some outs ∧ R (.exc c ns es outs)
  | _ => False
section
variable {Q : SOut → Prop} {J : En → Prop} {P : SOut → Prop} {R : FOut → Prop} {ms : List Mode} {e : En} {d : D} {c : Str} {ns : List Str} {es : List D}
@[simp] theorem sat_turn_nx : Sat (Turn J P) (.nx e) = J e := sat_eq
@[simp] theorem sat_turn_ct : Sat (Turn J P) (.ct e) = J e := sat_eq
@[simp] theorem sat_turn_bk : Sat (Turn J P) (.bk e) = Sat P (.nx e) := by rw [sat_eq, sat_eq]; rfl
@[simp] theorem sat_turn_rt : Sat (Turn J P) (.rt d e) = Sat P (.rt d e) := by rw [sat_eq, sat_eq]; rfl
@[simp] theorem sat_turn_exc : Sat (Turn J P) (.exc c ns es e) = Sat P (.exc c ns es e) := by rw [sat_eq, sat_eq]; rfl
@[simp] theorem sat_fin_rt : Sat (Fin ms R) (.rt d e) = ∃ outs, outsOf ms e = some outs ∧ R (.ret d outs) := by rw [sat_eq]; rfl
@[simp] theorem sat_fin_nx : Sat (Fin ms R) (.nx e) = ∃ outs, outsOf ms e = some outs ∧ R (.ret .non outs) := by rw [sat_eq]; rfl
@[simp] theorem sat_fin_exc : Sat (Fin ms R) (.exc c ns es e) = ∃ outs, outsOf ms e = some outs ∧ R (.exc c ns es outs) := by rw [sat_eq]; rfl
theorem fin_fn {n : Nat} {g : SSem} {ds : List D} (hl : ds.length = ms.length) (h : Sat (Fin ms R) (g (mkEnv ms ds n))) : R (fnOf ms n g ds) := by
  unfold fnOf
  rw [if_pos hl]
  have h := h.h
  revert h
  cases g (mkEnv ms ds n) with
  | nx e => intro ⟨o, h1, h2⟩; simp only [h1]; exact h2
  | rt d e => intro ⟨o, h1, h2⟩; simp only [h1]; exact h2
  | exc c ns es e => intro ⟨o, h1, h2⟩; simp only [h1]; exact h2
  | _ => exact fun h => h.elim
theorem ret_fn {n : Nat} {g : SSem} {ds outs : List D} (hl : ds.length = ms.length) (h : Sat (Fin ms (· = .ret d outs)) (g (mkEnv ms ds n))) : fnOf ms n g ds = .ret d outs := fin_fn (R := (· = .ret d outs)) hl h
theorem sat_imp {o : SOut} (h : Sat P o) (f : ∀ o, P o → Sat Q o) : Sat Q o := f o h.h
/-- what stands behind -/
def Beh (Q : SOut → Prop) (k : En → SOut) (o : SOut) : Prop := Q (o.seq k)
@[simp] theorem sat_beh_nx {k : En → SOut} : Sat (Beh Q k) (.nx e) = Sat Q (k e) := by rw [sat_eq, sat_eq]; rfl
@[simp] theorem sat_beh_rt {k : En → SOut} : Sat (Beh Q k) (.rt d e) = Sat Q (.rt d e) := by rw [sat_eq, sat_eq]; rfl
@[simp] theorem sat_beh_bk {k : En → SOut} : Sat (Beh Q k) (.bk e) = Sat Q (.bk e) := by rw [sat_eq, sat_eq]; rfl
@[simp] theorem sat_beh_ct {k : En → SOut} : Sat (Beh Q k) (.ct e) = Sat Q (.ct e) := by rw [sat_eq, sat_eq]; rfl
@[simp] theorem sat_beh_exc {k : En → SOut} : Sat (Beh Q k) (.exc c ns es e) = Sat Q (.exc c ns es e) := by rw [sat_eq, sat_eq]; rfl
theorem sat_seq {o : SOut} {k : En → SOut} (h : Sat (Beh Q k) o) : Sat Q (o.seq k) := ⟨h.h⟩

/-! ### for -/
theorem sat_for {α : Type} {en : α → D} {tg : GSem} {body : SSem} : ∀ {xs : List α} (I : List α → En → Prop) {e0 : En}, I [] e0 →
    (∀ done x rest, xs = done ++ x :: rest → ∀ e, I done e → ∃ e1, tg (en x) e = some e1 ∧ Sat (Turn (I (done ++ [x])) Q) (body e1)) →
    (∀ e, I xs e → Sat Q (.nx e)) → Sat Q (forL tg body (xs.map en) e0)
  | [], I, e0, h0, _, hend => hend e0 h0
  | x :: xs, I, e0, h0, hs, hend => by
    obtain ⟨e1, h1, h2⟩ := hs [] x xs rfl e0 h0
    rw [List.map_cons, forL, h1]
    have go : ∀ e2, I [x] e2 → Sat Q (forL tg body (xs.map en) e2) := fun e2 h => by
      refine sat_for (xs := xs) (fun done e => I (x :: done) e) h (fun done y rest he e h => ?_) hend
      exact hs (x :: done) y rest (by rw [he]; rfl) e h
    show Sat Q (match body e1 with | .nx e2 => forL tg body (xs.map en) e2 | .ct e2 => forL tg body (xs.map en) e2 | .bk e2 => .nx e2 | o => o)
    revert h2
    cases body e1 with
    | nx e2 => exact fun h => go e2 h.h
    | ct e2 => exact fun h => go e2 h.h
    | bk e2 => exact fun h => ⟨h.h⟩
    | _ => exact fun h => ⟨h.h⟩
theorem sat_for_seq {α : Type} {en : α → D} {tg : GSem} {body : SSem} {xs : List α} {k : En → SOut} (I : List α → En → Prop) {e0 : En} (h0 : I [] e0)
    (hs : ∀ done x rest, xs = done ++ x :: rest → ∀ e, I done e → ∃ e1, tg (en x) e = some e1 ∧ Sat (Turn (I (done ++ [x])) (Beh Q k)) (body e1))
    (hend : ∀ e, I xs e → Sat Q (k e)) : Sat Q ((forL tg body (xs.map en) e0).seq k) := sat_seq (sat_for I h0 hs fun e h => by rw [sat_beh_nx]; exact hend e h)

/-! ### while -/
theorem sat_while {g : BSem} {body : SSem} (I : Nat → En → Prop) (hs : ∀ m e, I m e → ∃ b e1, g e = .ok b e1 ∧ if b = true then Sat (Turn (fun e2 => ∃ m', m' < m ∧ I m' e2) Q) (body e1) else Sat Q (.nx e1)) : ∀ (n m : Nat) (e : En), m < n → I m e → Sat Q (whileF g body n e)
  | 0, m, e, h, _ => absurd h (Nat.not_lt_zero _)
  | n + 1, m, e, h, i => by
    obtain ⟨b, e1, h1, h2⟩ := hs m e i
    rw [whileF, h1, then_ok']
    cases b with
    | false => exact h2
    | true =>
      rw [if_pos rfl] at h2 ⊢
      revert h2
      cases body e1 with
      | nx e2 => exact fun ⟨m', h3, h4⟩ => sat_while I hs n m' e2 (by omega) h4
      | ct e2 => exact fun ⟨m', h3, h4⟩ => sat_while I hs n m' e2 (by omega) h4
      | bk e2 => exact fun h => ⟨h.h⟩
      | _ => exact fun h => ⟨h.h⟩
theorem sat_while_seq {g : BSem} {body : SSem} {k : En → SOut} {e : En} (I : Nat → En → Prop) (m : Nat) (hm : m < turns) (h0 : I m e)
    (hs : ∀ m e, I m e → ∃ b e1, g e = .ok b e1 ∧ if b = true then Sat (Turn (fun e2 => ∃ m', m' < m ∧ I m' e2) (Beh Q k)) (body e1) else Sat Q (k e1)) : Sat Q ((sWhile g body e).seq k) :=
  sat_seq (sat_while (Q := Beh Q k) I (fun m e i => by
    obtain ⟨b, e1, h1, h2⟩ := hs m e i
    refine ⟨b, e1, h1, ?_⟩
    cases b with
    | false => rw [if_neg (by simp)] at h2 ⊢; rw [sat_beh_nx]; exact h2
    | true => exact h2) turns m e hm h0)
@[simp] theorem sFor' {tg : GSem} {it : ISem} {body : SSem} : sFor tg it body e = (it e).then fun ds e1 => forL tg body ds e1 := rfl
@[simp] theorem iSeq' {fe : ESem} : iSeq fe e = (fe e).bind fun d e1 => lift (items d) e1 := rfl
@[simp] theorem items_tN (xs : List Nat) : items (tN xs) = some (xs.map nD) := rfl
@[simp] theorem items_lN (xs : List Nat) : items (lN xs) = some (xs.map nD) := rfl
@[simp] theorem items_tup (xs : List D) : items (.tup xs) = some xs := rfl
@[simp] theorem items_lst (xs : List D) : items (.lst xs) = some xs := rfl
@[simp] theorem iArg' {g : List D → Option (List D)} {fa : ASem} : iArg g fa e = (fa e).bind fun ds e1 => lift (g ds) e1 := rfl
theorem intsFrom_eq : ∀ (n lo : Nat), intsFrom lo n = (List.range' lo n).map nD
  | 0, _ => rfl
  | n + 1, lo => by
    have := intsFrom_eq n (lo + 1)
    rw [intsFrom, List.range'_succ, List.map_cons, ← this]
    rfl
@[simp] theorem rng1_nat (n : Nat) (h : n < 4611686018427387904) : rng1 [.int (n : Int)] = some ((List.range n).map nD) := by
  have := intsFrom_eq n 0
  simp only [rng1]
  rw [if_pos ⟨by omega, by omega⟩, List.range_eq_range', ← this]
  rfl
@[simp] theorem gRng1_nat (mk : List D → D) (n : Nat) (h : n ≤ 1000000) : gRng1 mk (.int (n : Int)) = some (mk ((List.range n).map nD)) := by
  have := intsFrom_eq n 0
  show (if rngOk (n : Int) = true then some (mk (intsFrom 0 (n : Int).toNat)) else none) = _
  unfold rngOk
  rw [if_pos (by simp; omega), List.range_eq_range', ← this]
  rfl
@[simp] theorem iEnumD' {fe : ESem} : iEnumD fe e = (fe e).bind fun d e1 => lift ((items d).map fun ds => numbered ds 0) e1 := rfl
theorem numbered_map {α : Type} (en : α → D) : ∀ (xs : List α) (n : Nat), numbered (xs.map en) n = (xs.zipIdx n).map fun p => D.tup [nD p.2, en p.1]
  | [], _ => rfl
  | x :: xs, n => by
    rw [List.map_cons, numbered, numbered_map en xs (n + 1)]
    rfl
@[simp] theorem gV' (i : Nat) : gV i d e = some (e.set i (.val d)) := rfl
@[simp] theorem gV2' (i j : Nat) (x y : D) : gV2 i j (.tup [x, y]) e = some ((e.set i (.val x)).set j (.val y)) := rfl
@[simp] theorem gV3' (i j k : Nat) (x y z : D) : gV3 i j k (.tup [x, y, z]) e = some (((e.set i (.val x)).set j (.val y)).set k (.val z)) := rfl

/-! ### comprehensions -/
theorem wipeE_get (env : En) : ∀ (vs : List Nat) (i : Nat), i ∉ vs → (wipeE env vs)[i]? = env[i]?
  | [], _, _ => rfl
  | v :: vs, i, h => by
    rw [wipeE, List.getElem?_set_ne (by rintro rfl; simp at h), wipeE_get env vs i (by simp at h; exact h.2)]
theorem wipeE_len (env : En) : ∀ vs : List Nat, (wipeE env vs).length = env.length
  | [] => rfl
  | v :: vs => by rw [wipeE, List.length_set, wipeE_len env vs]
theorem back_wipe (env : En) (vs : List Nat) : back env (wipeE env vs) vs = env := by
  refine List.ext_getElem? fun i => ?_
  rw [back_get (wipeE_len env vs)]
  split
  · rfl
  · exact wipeE_get env vs i (by assumption)
theorem compL_eq {α : Type} {en : α → D} {tg : GSem} {g : BSem} {fe : ESem} {vs : List Nat} {e : En} (p : α → Bool) (fo : α → D) : ∀ (xs : List α) (acc : List D),
    (∀ x ∈ xs, ∃ e1, tg (en x) e = some e1 ∧ g e1 = .ok (p x) e1 ∧ (p x = true → fe e1 = .ok (fo x) e1) ∧ wipeE e1 vs = e) → compL tg g fe vs (xs.map en) e acc = .ok (acc ++ (xs.filter p).map fo) e
  | [], acc, _ => by simp [compL]
  | x :: xs, acc, h => by
    obtain ⟨e1, h1, h2, h3, h4⟩ := h x (by simp)
    rw [List.map_cons, compL, h1]
    simp only [h2, calm_ok', bind_ok']
    cases hp : p x with
    | true =>
      rw [if_pos rfl, h3 hp]
      simp only [calm_ok', bind_ok', h4]
      rw [compL_eq p fo xs _ fun y hy => h y (by simp [hy])]
      simp [hp]
    | false =>
      rw [if_neg (by simp), h4, compL_eq p fo xs _ fun y hy => h y (by simp [hy])]
      simp [hp]
/-- a comprehension whose parts change nothing -/
theorem comp_eq {α : Type} {en : α → D} {tg : GSem} {fi : ISem} {g : BSem} {fe : ESem} {vs : List Nat} {env e1 : En} {xs : List α} (p : α → Bool) (fo : α → D) (hi : fi env = .ok (xs.map en) e1) (hl : xs.length ≤ 1000000) (hc : clean e1 vs = true)
    (hx : ∀ x ∈ xs, ∃ e2, tg (en x) (wipeE e1 vs) = some e2 ∧ g e2 = .ok (p x) e2 ∧ (p x = true → fe e2 = .ok (fo x) e2) ∧ wipeE e2 vs = wipeE e1 vs) : eComp vs tg fi g fe env = .ok (.lst ((xs.filter p).map fo)) e1 := by
  unfold eComp nComp
  rw [hi]
  simp only [bind_ok']
  rw [if_pos (by rw [hc, Bool.and_true]; simp [small]; exact hl), compL_eq p fo xs [] hx]
  simp only [bind_ok', back_wipe, List.nil_append]
@[simp] theorem bYes' : bYes e = .ok true e := rfl
/-- .. that changes a state -/
theorem compL_st {σ α β : Type} {en : α → D} {tg : GSem} {fe : ESem} {vs : List Nat} (fo : β → D) (E : σ → En) (Inv : σ → Prop) (Pr : α → β → Prop) : ∀ (xs : List α) (s : σ) (acc : List D), Inv s →
    (∀ s, Inv s → ∀ x ∈ xs, ∃ y s' e1 e2, Inv s' ∧ Pr x y ∧ tg (en x) (E s) = some e1 ∧ fe e1 = .ok (fo y) e2 ∧ wipeE e2 vs = E s') →
    ∃ (ys : List β) (s' : σ), Inv s' ∧ ys.length = xs.length ∧ (∀ (i : Nat) (x : α) (y : β), xs[i]? = some x → ys[i]? = some y → Pr x y) ∧ compL tg bYes fe vs (xs.map en) (E s) acc = .ok (acc ++ ys.map fo) (E s')
  | [], s, acc, i, _ => ⟨[], s, i, rfl, by simp, by simp [compL]⟩
  | x :: xs, s, acc, i, h => by
    obtain ⟨y, s1, e1, e2, i1, pr, h1, h2, h3⟩ := h s i x (by simp)
    obtain ⟨ys, s', i2, hl, hp, hc⟩ := compL_st fo E Inv Pr xs s1 (acc ++ [fo y]) i1 fun s i y hy => h s i y (by simp [hy])
    refine ⟨y :: ys, s', i2, by simp [hl], ?_, ?_⟩
    · intro j x' y' a b
      cases j with
      | zero => simp at a b; subst a b; exact pr
      | succ j => exact hp j x' y' (by simpa using a) (by simpa using b)
    · rw [List.map_cons, compL, h1]
      simp only [bYes', calm_ok', bind_ok', if_true, h2, h3]
      rw [hc]
      simp
theorem comp_st {σ α β : Type} {en : α → D} {tg : GSem} {fi : ISem} {fe : ESem} {vs : List Nat} {env e1 : En} {xs : List α} (fo : β → D) (E : σ → En) (Inv : σ → Prop) (Pr : α → β → Prop) (s : σ) (hi : fi env = .ok (xs.map en) e1) (hl : xs.length ≤ 1000000) (hc : clean e1 vs = true)
    (hE : wipeE e1 vs = E s) (hs : Inv s)
    (hx : ∀ s, Inv s → ∀ x ∈ xs, ∃ y s' e2 e3, Inv s' ∧ Pr x y ∧ tg (en x) (E s) = some e2 ∧ fe e2 = .ok (fo y) e3 ∧ wipeE e3 vs = E s') :
    ∃ (ys : List β) (s' : σ), Inv s' ∧ ys.length = xs.length ∧ (∀ (i : Nat) (x : α) (y : β), xs[i]? = some x → ys[i]? = some y → Pr x y) ∧ eComp vs tg fi bYes fe env = .ok (.lst (ys.map fo)) (back e1 (E s') vs) := by
  obtain ⟨ys, s', h1, h2, h3, h4⟩ := compL_st fo E Inv Pr xs s [] hs hx
  refine ⟨ys, s', h1, h2, h3, ?_⟩
  unfold eComp nComp
  rw [hi]
  simp only [bind_ok']
  rw [if_pos (by rw [hc, Bool.and_true]; simp [small]; exact hl), hE, h4]
  simp only [bind_ok', List.nil_append]
end
end Dl

/-! E4: objects, dicts, changed lists: rules for working out. -/
namespace Dl
open PySem PySem.Spec PyProof.Rows L2
theorem toNat_inj {a b : Char} (h : a.toNat = b.toNat) : a = b := Char.ext (UInt32.toNat_inj.mp h)
@[simp] theorem ofString_inj {a b : String} : (Str.ofString a = Str.ofString b) ↔ a = b := by
  constructor
  · intro h
    rw [Str.ofString_eq_toList, Str.ofString_eq_toList] at h
    have h1 : a.toList.map Char.toNat = b.toList.map Char.toNat := by simpa using h
    exact String.toList_inj.mp ((List.map_inj_right fun x y => toNat_inj).mp h1)
  · intro h; rw [h]
@[simp] theorem lookS {α : Type} (k a : Str) (b : α) (l : List (Str × α)) : List.lookup k ((a, b) :: l) = if k = a then some b else List.lookup k l := by
  rw [List.lookup_cons]
  by_cases h : k = a
  · simp [h]
  · have e : (k == a) = false := beq_eq_false_iff_ne.mpr h
    rw [e, if_neg h]
@[simp] theorem castI (a b : Nat) : ((a : Int) = (b : Int)) ↔ a = b := by omega
@[simp] theorem wipeE_0 (e : En) : wipeE e [] = e := rfl
@[simp] theorem wipeE_1 (e : En) (v : Nat) (vs : List Nat) : wipeE e (v :: vs) = (wipeE e vs).set v .un := rfl
section
variable {env e : En} {c f m : Str} {cs ns : List Str} {ds ps : List D} {d x y z v : D} {fe fk : ESem} {h : ASem} {i n : Nat} {k : GSemA} {ms : List Mode} {g : FSem} {dp : Disp}
@[simp] theorem sFldI' : sFldI cs i f fe env = (fe env).then fun d e1 => match ourD e1 i with
  | some (.ins c ns ds) => if (cs.contains c && decide (ns.length ≤ 100)) = true then .nx (putS e1 i (.ins c (putFld ns ds f d).1 (putFld ns ds f d).2)) else .stuck
  | _ => .stuck := rfl
@[simp] theorem putS' : putS e i d = match e[i]? with
  | some s => e.set i (s.put d)
  | none => e := rfl
@[simp] theorem put_own : (Sl.own x).put d = .own d := rfl
@[simp] theorem put_mt : (Sl.mt x).put d = .mt d := rfl
@[simp] theorem put_val : (Sl.val x).put d = .val x := rfl
@[simp] theorem putFld_nil : putFld [] [] f v = ([f], [v]) := rfl
@[simp] theorem putFld_cons : putFld (m :: ns) (d :: ds) f v = if m = f then (m :: ns, v :: ds) else (m :: (putFld ns ds f v).1, d :: (putFld ns ds f v).2) := by
  rw [putFld]
@[simp] theorem fieldD_cons : fieldD (m :: ns) (d :: ds) f = if f = m then some d else fieldD ns ds f := rfl
@[simp] theorem fieldD_nil : fieldD [] ds f = none := rfl
@[simp] theorem gFld' : gFld cs f (.ins c ns ds) = if cs.contains c = true then fieldD ns ds f else none := rfl
@[simp] theorem eUnP_fld : eUnP (gFld cs f) i env = lift ((slotD env i).bind (gFld cs f)) env := rfl
@[simp] theorem eMake' {g : FSem} : eMake c n g h env = (h env).bind fun ds e1 => if ds.length = n then match g (.ins c [] [] :: ds) with
    | .ret .non [o] => .ok o e1
    | .exc x ns es _ => .exc x ns es e1
    | _ => .stuck
  else .stuck := rfl
@[simp] theorem eMeth' : eMeth m ms dp fe k env = (fe env).bind fun d e1 => (lift (methOf m dp d) e1).bind fun f e2 => (k e2).bind fun as e3 => apply (.v :: ms) f (.d d :: as) e3 := rfl
@[simp] theorem methOf' : methOf m dp (.ins c ns ds) = if ns.contains m = true then none else dp c := rfl
@[simp] theorem dispL' (l : List (Str × FSem)) : dispL l c = l.lookup c := rfl
@[simp] theorem eGet' : eGet cs g fe env = (fe env).bind fun d e1 => match d with
  | .ins c _ _ => if cs.contains c = true then match g [d] with
      | .ret r [] => .ok r e1
      | _ => .stuck
    else .stuck
  | _ => .stuck := rfl
@[simp] theorem eLenO' : eLenO cs g fe env = (fe env).bind fun d e1 => match d with
  | .ins c _ _ => if cs.contains c = true then match g [d] with
      | .ret (.int i) [] => if 0 ≤ i ∧ i < 2 ^ 63 then .ok (.int i) e1 else .stuck
      | _ => .stuck
    else .stuck
  | _ => .stuck := rfl
@[simp] theorem eSup' : eSup cs i ms g k env = (lift (supD cs i env) env).bind fun sa e0 => (k e0).bind fun as e1 => apply ms g (sa :: as) e1 := rfl
@[simp] theorem supD' : supD cs i env = match env[i]? with
  | some (.mt (.ins c _ _)) => if cs.contains c = true then some (.l i) else none
  | some (.val (.ins c ns ds)) => if cs.contains c = true then some (.d (.ins c ns ds)) else none
  | _ => none := rfl
/-- calls whose first argument is changed -/
theorem call_m (as : List D) (hms : ms = List.replicate as.length .v) : apply (.m :: ms) g (.l i :: as.map .d) env = match ourD env i with
  | some d => match g (d :: as) with
    | .ret r [o] => .ok r (putS env i o)
    | .exc x ns es [o] => .exc x ns es (putS env i o)
    | _ => .stuck
  | none => .stuck := by
  subst hms
  have h1 : ∀ as : List D, argsD env (List.replicate as.length .v) (as.map .d) = some as := fun as => by
    induction as with
    | nil => rfl
    | cons a as ih =>
      rw [List.length_cons, List.replicate_succ, List.map_cons, argsD]
      show (some a).bind _ = _
      simp [ih]
  have h2 : ∀ as : List D, slotsOf (as.map .d) = [] := fun as => by
    induction as with
    | nil => rfl
    | cons a as ih => rw [List.map_cons, slotsOf, ih]
  have h3 : ∀ (as os : List D), outTo (List.replicate as.length .v) (as.map .d) os = if os = [] then some [] else none := fun as => by
    induction as with
    | nil => intro os; cases os <;> rfl
    | cons a as ih => intro os; rw [List.length_cons, List.replicate_succ, List.map_cons, outTo, ih]
  have h4 : argsD env (.m :: List.replicate as.length .v) (.l i :: as.map .d) = (ourD env i).map (· :: as) := by
    rw [argsD, h1]
    have e : argD env .m (.l i) = ourD env i := rfl
    rw [e]
    cases ourD env i <;> rfl
  unfold apply
  rw [h4]
  cases ourD env i with
  | none => rfl
  | some d =>
    show (if (slotsOf (.l i :: as.map ArgV.d)).Nodup then _ else _) = _
    rw [slotsOf, h2, if_pos (by simp)]
    show (match g (d :: as) with | .ret d outs => _ | .exc c ns es outs => _ | .stuck => _) = (match g (d :: as) with | .ret r [o] => _ | .exc x ns es [o] => _ | _ => _)
    cases g (d :: as) with
    | ret r os =>
      match os with
      | [] => rfl
      | [o] => simp only [outTo, h3]; rfl
      | o :: o' :: os => simp only [outTo, h3]; rfl
    | exc x ns es os =>
      match os with
      | [] => rfl
      | [o] => simp only [outTo, h3]; rfl
      | o :: o' :: os => simp only [outTo, h3]; rfl
    | stuck => rfl
@[simp] theorem call_m0 : apply [.m] g [.l i] env = match ourD env i with
  | some d => match g [d] with
    | .ret r [o] => .ok r (putS env i o)
    | .exc x ns es [o] => .exc x ns es (putS env i o)
    | _ => .stuck
  | none => .stuck := call_m [] rfl
@[simp] theorem call_m1 : apply [.m, .v] g [.l i, .d x] env = match ourD env i with
  | some d => match g [d, x] with
    | .ret r [o] => .ok r (putS env i o)
    | .exc x ns es [o] => .exc x ns es (putS env i o)
    | _ => .stuck
  | none => .stuck := call_m [x] rfl
@[simp] theorem call_m2 : apply [.m, .v, .v] g [.l i, .d x, .d y] env = match ourD env i with
  | some d => match g [d, x, y] with
    | .ret r [o] => .ok r (putS env i o)
    | .exc x ns es [o] => .exc x ns es (putS env i o)
    | _ => .stuck
  | none => .stuck := call_m [x, y] rfl
def dapp (o d : D) : Option D := match o with
  | .lst ds => if small ds = true then some (.lst (ds ++ [d])) else none
  | _ => none
@[simp] theorem sAppend'' : sAppend' i fe env = (lift ((ourD env i).bind fun d => if tyD "list" d = true then some d else none) env).then fun _ e0 => (fe e0).then fun d e1 => match (ourD e1 i).bind fun o => dapp o d with
  | some o => .nx (putS e1 i o)
  | none => .stuck := by
  unfold sAppend'
  congr; funext _ e0; congr; funext d e1
  cases h : ourD e1 i with
  | none => rfl
  | some o =>
    simp only [Option.bind_some, dapp]
    cases o <;> try rfl
    simp only
    split <;> rfl
@[simp] theorem dapp_lst (h : ds.length ≤ 1000000) : dapp (.lst ds) d = some (.lst (ds ++ [d])) := by simp [dapp, small, h]
@[simp] theorem dapp_lN {xs : List Nat} {a : Nat} (h : xs.length ≤ 1000000) : dapp (lN xs) (.int (a : Int)) = some (lN (xs ++ [a])) := by simp [dapp, small, h, lN]
@[simp] theorem dapp_lN' {xs : List Nat} {a : Nat} (h : xs.length ≤ 1000000) : dapp (lN xs) (nD a) = some (lN (xs ++ [a])) := dapp_lN h
@[simp] theorem tyD_lst (ds : List D) : tyD "list" (.lst ds) = true := rfl
@[simp] theorem tyD_lN (ds : List Nat) : tyD "list" (lN ds) = true := rfl
@[simp] theorem sSetItem' : sSetItem i fk fe env = (fe env).then fun d e1 => (lift (ourD e1 i) e1).then fun _ e1 => (fk e1).then fun kd e2 => match ourD e2 i, kd with
  | some (.lst ds), .int n => match ixN ds.length n with
    | some j => .nx (putS e2 i (.lst (ds.set j d)))
    | none => .stuck
  | _, _ => .stuck := rfl
def dput (o kd d : D) : Option D := match o, keyD kd with
  | .dct ks ds, some q => if decide (ks.length ≤ 1000000) = true then some (putDct ks ds q d) else none
  | _, _ => none
@[simp] theorem sDPut' : sDPut i fk fe env = (fe env).then fun d e1 => (lift (ourD e1 i) e1).then fun _ e1 => (fk e1).then fun kd e2 => match (ourD e2 i).bind fun o => dput o kd d with
  | some o => .nx (putS e2 i o)
  | none => .stuck := by
  unfold sDPut
  congr; funext d e1; congr; funext _ e1; congr; funext kd e2
  cases h : ourD e2 i with
  | none => rfl
  | some o =>
    simp only [Option.bind_some, dput]
    cases o <;> cases keyD kd <;> try rfl
    simp only
    split <;> rfl
@[simp] theorem sAug' {o : D → D → Option D} : sAug i o fe env = match env[i]? with
  | some (.val dx) => (fe env).then fun dy e1 => (lift (o dx dy) e1).then fun dz e2 => .nx (e2.set i (.val dz))
  | _ => .stuck := rfl
@[simp] theorem sAsg' {t : GSem} : sAsg t fe env = (fe env).then fun d e1 => match t d e1 with | some e2 => .nx e2 | none => .stuck := rfl
@[simp] theorem keyD_int (a : Int) : keyD (.int a) = some (.inl a) := rfl
@[simp] theorem keyD_str (a : Str) : keyD (.str a) = some (.inr a) := rfl
@[simp] theorem eDct0' : eDct0 env = .ok (.dct [] []) env := rfl
@[simp] theorem sRaise' : sRaise c ns h env = (h env).then fun ds e1 => if ds.length = ns.length ∧ ds.length ≤ 1000 then .exc c ns.reverse ds.reverse e1 else .stuck := rfl
@[simp] theorem gIx_tup (a : Int) : gIx (.tup ds) (.int a) = atI ds a := rfl
@[simp] theorem gIx_lst (a : Int) : gIx (.lst ds) (.int a) = atI ds a := rfl
@[simp] theorem gIx_tN (xs : List Nat) (a : Int) : gIx (tN xs) (.int a) = atI (xs.map nD) a := rfl
@[simp] theorem gIx_lN (xs : List Nat) (a : Int) : gIx (lN xs) (.int a) = atI (xs.map nD) a := rfl
@[simp] theorem small2' (xs ys : List D) : small2 xs ys = decide (xs.length + ys.length ≤ 1000000) := rfl
@[simp] theorem small' {α : Type} (xs : List α) : small xs = decide (xs.length ≤ 1000000) := rfl
@[simp] theorem oNo' : oNo env = .ok none env := rfl
@[simp] theorem oYes' : oYes fe env = (fe env).bind fun d e1 => match d with | .int i => .ok (some i) e1 | _ => .stuck := rfl
@[simp] theorem eSl' {fl fh : OSem} : eSl fe fl fh env = (fe env).bind fun x e1 => (fl e1).bind fun l e2 => (fh e2).bind fun h e3 => lift (gSl x l h) e3 := rfl
theorem atI_nat {α : Type} (xs : List α) (i : Nat) : atI xs (i : Int) = xs[i]? := by
  unfold atI ixN
  rw [if_pos (by omega)]
  by_cases h : i < xs.length
  · rw [if_pos (by omega)]
    simp
  · rw [if_neg (by omega), List.getElem?_eq_none (by omega)]
    rfl
@[simp] theorem atI_nat' {α : Type} (xs : List α) (i : Nat) : atI xs (i : Int) = xs[i]? := atI_nat xs i
@[simp] theorem atI_0 {α : Type} (xs : List α) : atI xs 0 = xs[0]? := atI_nat xs 0
@[simp] theorem atI_1 {α : Type} (xs : List α) : atI xs 1 = xs[1]? := atI_nat xs 1
@[simp] theorem atI_2 {α : Type} (xs : List α) : atI xs 2 = xs[2]? := atI_nat xs 2
@[simp] theorem atI_3 {α : Type} (xs : List α) : atI xs 3 = xs[3]? := atI_nat xs 3
theorem ixN_nat (n i : Nat) (h : i < n) : ixN n (i : Int) = some i := by
  unfold ixN
  rw [if_pos (by omega), if_pos (by omega)]
  rfl
end
end Dl

/-! E5: lists of counts. -/
namespace Dl
open PySem PySem.Spec PyProof.Rows L2
def castN (xs : List Nat) : List Int := xs.map fun n : Nat => (n : Int)
@[simp] theorem toInts_nD : ∀ xs : List Nat, toInts (xs.map nD) = some (castN xs)
  | [] => rfl
  | x :: xs => by
    have := toInts_nD xs
    rw [List.map_cons, toInts, this]
    rfl
theorem cast_sum : ∀ xs : List Nat, (castN xs).sum = (xs.sum : Nat)
  | [] => rfl
  | x :: xs => by
    have := cast_sum xs
    show ((x : Int) :: castN xs).sum = _
    rw [List.sum_cons, this, List.sum_cons]
    omega
theorem cast_count (k : Nat) : ∀ xs : List Nat, (castN xs).count (k : Int) = xs.count k
  | [] => rfl
  | x :: xs => by
    have := cast_count k xs
    show ((x : Int) :: castN xs).count _ = _
    rw [List.count_cons, this, List.count_cons]
    by_cases h : x = k
    · subst h; simp
    · have h' : ¬ (x : Int) = k := by omega
      simp [h, h']
@[simp] theorem gSum_lN (xs : List Nat) : gSum (.lst (xs.map nD)) = some (.int (xs.sum : Nat)) := by simp [gSum, cast_sum]
@[simp] theorem gCount_lN (xs : List Nat) (k : Nat) : gCount (.lst (xs.map nD)) (.int (k : Int)) = some (.int (xs.count k : Nat)) := by simp [gCount, cast_count]
section
variable {env : En} {fe fe2 : ESem} {T : String} {g : D → D → Option D}
@[simp] theorem eBM' : eBM T g fe fe2 env = (fe env).bind fun x e1 => if tyD T x = true then (fe2 e1).bind fun y e2 => lift (g x y) e2 else .stuck := rfl
end
section
variable {α : Type} {en : α → D} {tg : GSem} {fi : ISem} {g : BSem} {fe : ESem} {vs : List Nat} {env e1 : En} {xs : List α}
/-- a comprehension without a condition -/
theorem comp_map (fo : α → D) (hi : fi env = .ok (xs.map en) e1) (hl : xs.length ≤ 1000000) (hc : clean e1 vs = true)
    (hx : ∀ x ∈ xs, ∃ e2, tg (en x) (wipeE e1 vs) = some e2 ∧ fe e2 = .ok (fo x) e2 ∧ wipeE e2 vs = wipeE e1 vs) : eComp vs tg fi bYes fe env = .ok (.lst (xs.map fo)) e1 := by
  rw [comp_eq (xs := xs) (en := en) (e1 := e1) (fun _ => true) fo hi hl hc fun x h => ?_]
  · rw [List.filter_eq_self.mpr (fun _ _ => rfl)]
  obtain ⟨e2, h1, h2, h3⟩ := hx x h
  exact ⟨e2, h1, rfl, fun _ => h2, h3⟩
theorem comp_mapN (fo : α → Nat) (hi : fi env = .ok (xs.map en) e1) (hl : xs.length ≤ 1000000) (hc : clean e1 vs = true)
    (hx : ∀ x ∈ xs, ∃ e2, tg (en x) (wipeE e1 vs) = some e2 ∧ fe e2 = .ok (nD (fo x)) e2 ∧ wipeE e2 vs = wipeE e1 vs) : eComp vs tg fi bYes fe env = .ok (lN (xs.map fo)) e1 := by
  rw [comp_map (xs := xs) (en := en) (e1 := e1) (fun x => nD (fo x)) hi hl hc hx, lN, List.map_map]
  rfl
end
section
variable {tg : GSem} {fi : ISem} {g : BSem} {fe : ESem} {vs : List Nat} {env e1 : En} {xs : List Nat}
theorem comp_filN (p : Nat → Bool) (hi : fi env = .ok (xs.map nD) e1) (hl : xs.length ≤ 1000000) (hc : clean e1 vs = true)
    (hx : ∀ x ∈ xs, ∃ e2, tg (nD x) (wipeE e1 vs) = some e2 ∧ g e2 = .ok (p x) e2 ∧ (p x = true → fe e2 = .ok (nD x) e2) ∧ wipeE e2 vs = wipeE e1 vs) : eComp vs tg fi g fe env = .ok (lN (xs.filter p)) e1 :=
  comp_eq (xs := xs) (en := nD) (e1 := e1) p nD hi hl hc hx
end
@[simp] theorem gSum_lN' (xs : List Nat) : gSum (lN xs) = some (.int (xs.sum : Nat)) := gSum_lN xs
@[simp] theorem gCount_lN' (xs : List Nat) (k : Nat) : gCount (lN xs) (.int (k : Int)) = some (.int (xs.count k : Nat)) := gCount_lN xs k
def insN (x : Nat) : List Nat → List Nat
  | [] => [x]
  | y :: ys => if x ≤ y then x :: y :: ys else y :: insN x ys
def nsort : List Nat → List Nat
  | [] => []
  | x :: xs => insN x (nsort xs)
theorem cast_ins (x : Nat) : ∀ ys : List Nat, insI (x : Int) (castN ys) = castN (insN x ys)
  | [] => rfl
  | y :: ys => by
    have := cast_ins x ys
    show insI (x : Int) ((y : Int) :: castN ys) = _
    rw [insI, insN]
    by_cases h : x ≤ y
    · rw [if_pos (by omega), if_pos h]; rfl
    · rw [if_neg (by omega), if_neg h, this]; rfl
theorem cast_isort : ∀ xs : List Nat, isort (castN xs) = castN (nsort xs)
  | [] => rfl
  | x :: xs => by
    show isort ((x : Int) :: castN xs) = _
    rw [isort, cast_isort xs, cast_ins]
    rfl
theorem insN_perm (x : Nat) : ∀ ys : List Nat, (insN x ys).Perm (x :: ys)
  | [] => List.Perm.refl _
  | y :: ys => by
    unfold insN
    split
    · exact List.Perm.refl _
    · exact ((insN_perm x ys).cons y).trans (List.Perm.swap x y ys)
theorem nsort_perm : ∀ xs : List Nat, (nsort xs).Perm xs
  | [] => List.Perm.refl _
  | x :: xs => (insN_perm x _).trans ((nsort_perm xs).cons x)
theorem insN_sorted {x : Nat} : ∀ {ys : List Nat}, ys.Pairwise (· ≤ ·) → (insN x ys).Pairwise (· ≤ ·)
  | [], _ => by simp [insN]
  | y :: ys, h => by
    rw [List.pairwise_cons] at h
    unfold insN
    split
    · rename_i hxy
      refine List.pairwise_cons.mpr ⟨fun z hz => ?_, List.pairwise_cons.mpr h⟩
      rcases List.mem_cons.mp hz with rfl | hz
      · exact hxy
      · exact Nat.le_trans hxy (h.1 z hz)
    · rename_i hxy
      refine List.pairwise_cons.mpr ⟨fun z hz => ?_, insN_sorted h.2⟩
      rcases List.mem_cons.mp ((insN_perm x ys).mem_iff.mp hz) with rfl | hz
      · omega
      · exact h.1 z hz
theorem nsort_sorted : ∀ xs : List Nat, (nsort xs).Pairwise (· ≤ ·)
  | [] => by simp [nsort]
  | x :: xs => insN_sorted (nsort_sorted xs)
theorem cast_map (xs : List Nat) : (castN xs).map D.int = xs.map nD := by simp [castN]
@[simp] theorem gSorted_lN (xs : List Nat) : gSorted (.lst (xs.map nD)) = some (.lst ((nsort xs).map nD)) := by simp only [gSorted, toInts_nD, Option.map, cast_isort, cast_map]
@[simp] theorem gSortedT_tN (xs : List Nat) : gSortedT (tN xs) = some (.lst ((nsort xs).map nD)) := by simp only [gSortedT, tN, toInts_nD, Option.map, cast_isort, cast_map]
@[simp] theorem gSorted_lN' (xs : List Nat) : gSorted (lN xs) = some (lN (nsort xs)) := gSorted_lN xs
@[simp] theorem gSortedT_tN' (xs : List Nat) : gSortedT (tN xs) = some (lN (nsort xs)) := gSortedT_tN xs
def minN : List Nat → Nat
  | [] => 0
  | [x] => x
  | x :: y :: xs => min x (minN (y :: xs))
def maxN : List Nat → Nat
  | [] => 0
  | [x] => x
  | x :: y :: xs => max x (maxN (y :: xs))
theorem minI_cast : ∀ xs : List Nat, minI (castN xs) = (minN xs : Nat)
  | [] => rfl
  | [x] => rfl
  | x :: y :: xs => by
    have := minI_cast (y :: xs)
    show min (x : Int) (minI (castN (y :: xs))) = _
    rw [this, minN]
    omega
theorem maxI_cast : ∀ xs : List Nat, maxI (castN xs) = (maxN xs : Nat)
  | [] => rfl
  | [x] => rfl
  | x :: y :: xs => by
    have := maxI_cast (y :: xs)
    show max (x : Int) (maxI (castN (y :: xs))) = _
    rw [this, maxN]
    omega
theorem minN_spec : ∀ {xs : List Nat}, xs ≠ [] → minN xs ∈ xs ∧ ∀ y ∈ xs, minN xs ≤ y
  | [], h => absurd rfl h
  | [x], _ => by simp [minN]
  | x :: y :: xs, _ => by
    obtain ⟨h1, h2⟩ := minN_spec (xs := y :: xs) (by simp)
    rw [minN]
    refine ⟨?_, fun z hz => ?_⟩
    · by_cases h : x ≤ minN (y :: xs)
      · rw [Nat.min_eq_left h]; simp
      · rw [Nat.min_eq_right (by omega)]; exact List.mem_cons_of_mem _ h1
    · rcases List.mem_cons.mp hz with rfl | hz
      · exact Nat.min_le_left _ _
      · exact Nat.le_trans (Nat.min_le_right _ _) (h2 z hz)
theorem maxN_spec : ∀ {xs : List Nat}, xs ≠ [] → maxN xs ∈ xs ∧ ∀ y ∈ xs, y ≤ maxN xs
  | [], h => absurd rfl h
  | [x], _ => by simp [maxN]
  | x :: y :: xs, _ => by
    obtain ⟨h1, h2⟩ := maxN_spec (xs := y :: xs) (by simp)
    rw [maxN]
    refine ⟨?_, fun z hz => ?_⟩
    · by_cases h : maxN (y :: xs) ≤ x
      · rw [Nat.max_eq_left h]; simp
      · rw [Nat.max_eq_right (by omega)]; exact List.mem_cons_of_mem _ h1
    · rcases List.mem_cons.mp hz with rfl | hz
      · exact Nat.le_max_left _ _
      · exact Nat.le_trans (h2 z hz) (Nat.le_max_right _ _)
@[simp] theorem gMin1_lN {xs : List Nat} (h : xs ≠ []) : gMin1 (lN xs) = some (.int (minN xs : Nat)) := by
  have he : castN xs ≠ [] := by cases xs with | nil => exact absurd rfl h | cons _ _ => simp [castN]
  simp [gMin1, lN, he, minI_cast]
@[simp] theorem gMax1_lN {xs : List Nat} (h : xs ≠ []) : gMax1 (lN xs) = some (.int (maxN xs : Nat)) := by
  have he : castN xs ≠ [] := by cases xs with | nil => exact absurd rfl h | cons _ _ => simp [castN]
  simp [gMax1, lN, he, maxI_cast]
@[simp] theorem gAdd_tN {xs : List Nat} {a : Nat} (h : xs.length < 1000000) : gAdd (tN xs) (.tup [.int (a : Int)]) = some (tN (xs ++ [a])) := by
  show (if small2 (xs.map nD) [nD a] = true then some (D.tup (xs.map nD ++ [nD a])) else none) = _
  rw [if_pos (by simp; omega)]
  simp [tN]
@[simp] theorem gAdd_lst {xs ys : List D} (h : xs.length + ys.length ≤ 1000000) : gAdd (.lst xs) (.lst ys) = some (.lst (xs ++ ys)) := by
  show (if small2 xs ys = true then some (D.lst (xs ++ ys)) else none) = _
  rw [if_pos (by simp; omega)]
@[simp] theorem gIsi_int (a : Int) : gIsi "int" (.int a) = some (.bl true) := (rfl)
@[simp] theorem gIsi_bool (a : Int) : gIsi "bool" (.int a) = some (.bl false) := (rfl)
@[simp] theorem kl_nonempty {α : Type} (n : Nat) (f : Nat → α) : (List.range (n + 1)).map f ≠ [] := by simp
end Dl

/-! E6: dicts from numbers. -/
namespace Dl
open PySem PySem.Spec PyProof.Rows L2
section
variable {α : Type}
def dK (s : List (Nat × α)) : List Key := s.map fun p => (.inl (p.1 : Int) : Key)
def dV (en : α → D) (s : List (Nat × α)) : List D := s.map fun p => en p.2
/-- a dict, still ours; given away -/
def dO (en : α → D) (s : List (Nat × α)) : D := .dct (dK s) (dV en s)
def dC (en : α → D) (s : List (Nat × α)) : D := .dcl (dK s) (dV en s)
def look (s : List (Nat × α)) (k : Nat) : Option α := match s with
  | [] => none
  | (a, b) :: s => if a = k then some b else look s k
def put (s : List (Nat × α)) (k : Nat) (v : α) : List (Nat × α) := if (s.map (·.1)).contains k then s.map fun p => if p.1 = k then (k, v) else p else s ++ [(k, v)]
variable {en : α → D}
theorem lookK_d (k : Nat) : ∀ s : List (Nat × α), lookK (dK s) (dV en s) (.inl (k : Int)) = (look s k).map en
  | [] => rfl
  | (a, b) :: s => by
    have := lookK_d k s
    show lookK ((.inl (a : Int)) :: dK s) (en b :: dV en s) (.inl (k : Int)) = _
    rw [lookK, look]
    by_cases h : a = k
    · subst h; simp
    · have h' : ¬ (Sum.inl (a : Int) : Key) = .inl (k : Int) := fun z => h (by have := Sum.inl.inj z; omega)
      rw [if_neg h', if_neg h, this]
@[simp] theorem gDGet_dC (s : List (Nat × α)) (k : Nat) : gDGet (dC en s) (.int (k : Int)) = (look s k).map en := lookK_d k s
@[simp] theorem gDGet_dO (s : List (Nat × α)) (k : Nat) : gDGet (dO en s) (.int (k : Int)) = (look s k).map en := lookK_d k s
@[simp] theorem gDIn_dC (neg : Bool) (s : List (Nat × α)) (k : Nat) : gDIn neg (.int (k : Int)) (dC en s) = some (.bl (if neg then !(look s k).isSome else (look s k).isSome)) := by
  show some (D.bl (if neg then !(lookK (dK s) (dV en s) _).isSome else (lookK (dK s) (dV en s) _).isSome)) = _
  rw [lookK_d, Option.isSome_map]
@[simp] theorem gDIn_dO (neg : Bool) (s : List (Nat × α)) (k : Nat) : gDIn neg (.int (k : Int)) (dO en s) = some (.bl (if neg then !(look s k).isSome else (look s k).isSome)) := gDIn_dC neg s k
theorem hasK_d (k : Nat) : ∀ s : List (Nat × α), hasK (dK s) (.inl (k : Int)) = (s.map (·.1)).contains k
  | [] => rfl
  | (a, b) :: s => by
    have := hasK_d k s
    unfold hasK at this ⊢
    show ((decide ((Sum.inl (a : Int) : Key) = .inl (k : Int))) || (dK s).any _) = _
    rw [this, List.map_cons, List.contains_cons]
    by_cases h : a = k
    · subst h; simp
    · have h' : ¬ (Sum.inl (a : Int) : Key) = .inl (k : Int) := fun z => h (by have := Sum.inl.inj z; omega)
      have h2 : (k == a) = false := beq_eq_false_iff_ne.mpr fun z => h z.symm
      rw [decide_eq_false h', h2]
theorem replD_d (k : Nat) (v : α) : ∀ s : List (Nat × α), replD (dK s) (dV en s) (.inl (k : Int)) (en v) = dV en (s.map fun p => if p.1 = k then (k, v) else p)
  | [] => rfl
  | (a, b) :: s => by
    have := replD_d k v s
    show replD ((.inl (a : Int)) :: dK s) (en b :: dV en s) (.inl (k : Int)) (en v) = _
    rw [replD, this]
    by_cases h : a = k
    · subst h; simp [dV]
    · have h' : ¬ (Sum.inl (a : Int) : Key) = .inl (k : Int) := fun z => h (by have := Sum.inl.inj z; omega)
      simp [dV, h, h']
theorem dK_repl (k : Nat) (v : α) : ∀ s : List (Nat × α), dK (s.map fun p => if p.1 = k then (k, v) else p) = dK s
  | [] => rfl
  | (a, b) :: s => by
    have := dK_repl k v s
    unfold dK at this ⊢
    rw [List.map_cons, List.map_cons, this, List.map_cons]
    by_cases h : a = k
    · subst h; simp
    · simp [h]
theorem putP_d (s : List (Nat × α)) (k : Nat) (v : α) : putP (dK s) (dV en s) (.inl (k : Int)) (en v) = (dK (put s k v), dV en (put s k v)) := by
  unfold putP put
  rw [hasK_d]
  split
  · rw [replD_d, dK_repl]
  · simp [dK, dV]
@[simp] theorem putDct_d (s : List (Nat × α)) (k : Nat) (v : α) : putDct (dK s) (dV en s) (.inl (k : Int)) (en v) = dO en (put s k v) := by
  rw [putDct_eq, putP_d]
  rfl
@[simp] theorem dput_d (s : List (Nat × α)) (k : Nat) (v : α) (h : s.length ≤ 1000000) : dput (dO en s) (.int (k : Int)) (en v) = some (dO en (put s k v)) := by
  show (if decide ((dK s).length ≤ 1000000) = true then some (putDct (dK s) (dV en s) (.inl (k : Int)) (en v)) else none) = _
  rw [putDct_d, if_pos (by simpa [dK] using h)]
@[simp] theorem dK_len (s : List (Nat × α)) : (dK s).length = s.length := by simp [dK]
@[simp] theorem gLen_dC (s : List (Nat × α)) : gLen (dC en s) = some (.int s.length) := by simp [dC]
@[simp] theorem gLen_dO (s : List (Nat × α)) : gLen (dO en s) = some (.int s.length) := by simp [dO]
@[simp] theorem lockD_dO (s : List (Nat × α)) : lockD (dO en s) = dC en s := rfl
@[simp] theorem lockD_dC (s : List (Nat × α)) : lockD (dC en s) = dC en s := rfl
theorem look_put (s : List (Nat × α)) (k : Nat) (v : α) (q : Nat) : look (put s k v) q = if q = k then some v else look s q := by
  unfold put
  split
  · rename_i hc
    induction s with
    | nil => simp at hc
    | cons a s ih =>
      obtain ⟨a, b⟩ := a
      rw [List.map_cons]
      by_cases h : a = k
      · subst h
        simp only [if_true, look]
        by_cases hq : a = q
        · subst hq; simp
        · have hq' : ¬ q = a := fun z => hq z.symm
          rw [if_neg hq, if_neg hq', if_neg hq]
          clear ih hc
          induction s with
          | nil => rfl
          | cons c s ih =>
            obtain ⟨c, d⟩ := c
            rw [List.map_cons]
            by_cases h2 : c = a
            · subst h2; simp [look, hq, ih]
            · simp [look, h2, ih]
      · have hc' : (s.map (·.1)).contains k = true := by
          simp at hc ⊢
          rcases hc with hc | hc
          · exact absurd hc.symm h
          · exact hc
        simp only [h, if_false, look, ih hc']
        by_cases hq : a = q
        · subst hq; simp [h]
        · simp [hq]
  · rename_i hc
    induction s with
    | nil =>
      show look [(k, v)] q = _
      simp only [look]
      by_cases hq : k = q
      · subst hq; simp
      · simp [hq, Ne.symm hq]
    | cons a s ih =>
      obtain ⟨a, b⟩ := a
      simp at hc
      have := ih (by simpa using hc.2)
      rw [List.cons_append]
      simp only [look, this]
      by_cases hq : a = q
      · subst hq
        have : ¬ a = k := fun z => hc.1 z.symm
        simp [this]
      · simp [hq]
theorem look_some_mem {s : List (Nat × α)} {k : Nat} {v : α} (h : look s k = some v) : (k, v) ∈ s := by
  induction s with
  | nil => simp [look] at h
  | cons a s ih =>
    obtain ⟨a, b⟩ := a
    rw [look] at h
    split at h
    · rename_i e; subst e; cases h; simp
    · exact List.mem_cons_of_mem _ (ih h)
theorem look_none_iff {s : List (Nat × α)} {k : Nat} : look s k = none ↔ k ∉ s.map (·.1) := by
  induction s with
  | nil => simp [look]
  | cons a s ih =>
    obtain ⟨a, b⟩ := a
    rw [look]
    by_cases h : a = k
    · subst h; simp
    · rw [if_neg h, ih]
      simp [Ne.symm h]
theorem look_of_mem {s : List (Nat × α)} (hn : (s.map (·.1)).Nodup) {k : Nat} {v : α} (h : (k, v) ∈ s) : look s k = some v := by
  induction s with
  | nil => simp at h
  | cons a s ih =>
    obtain ⟨a, b⟩ := a
    rw [List.map_cons, List.nodup_cons] at hn
    rw [look]
    rcases List.mem_cons.mp h with e | h
    · cases e; simp
    · have : a ≠ k := fun z => hn.1 (List.mem_map.mpr ⟨(k, v), h, z.symm⟩)
      rw [if_neg this, ih hn.2 h]
theorem put_keys (s : List (Nat × α)) (k : Nat) (v : α) : (put s k v).map (·.1) = if k ∈ s.map (·.1) then s.map (·.1) else s.map (·.1) ++ [k] := by
  unfold put
  by_cases h : k ∈ s.map (·.1)
  · have h' : (s.map (·.1)).contains k = true := by simpa using h
    rw [if_pos h', if_pos h, List.map_map]
    refine List.map_congr_left fun p _ => ?_
    show (if p.1 = k then (k, v) else p).1 = p.1
    split
    · rename_i e; exact e.symm
    · rfl
  · have h' : ¬ (s.map (·.1)).contains k = true := by simpa using h
    rw [if_neg h', if_neg h, List.map_append]
    rfl
theorem put_nodup {s : List (Nat × α)} {k : Nat} {v : α} (h : (s.map (·.1)).Nodup) : ((put s k v).map (·.1)).Nodup := by
  rw [put_keys]
  split
  · exact h
  · rename_i hk
    rw [List.nodup_append]
    refine ⟨h, by simp, fun a ha b hb => ?_⟩
    simp at hb
    subst hb
    exact fun z => hk (z ▸ ha)
theorem put_new {s : List (Nat × α)} {k : Nat} {v : α} (h : k ∉ s.map (·.1)) : put s k v = s ++ [(k, v)] := by
  unfold put
  rw [if_neg (by simpa using h)]
theorem mergeP_d : ∀ (s acc : List (Nat × α)), ((acc ++ s).map (·.1)).Nodup → mergeP (dK s) (dV en s) (dK acc, dV en acc) = (dK (acc ++ s), dV en (acc ++ s))
  | [], acc, _ => by simp [dK, dV, mergeP]
  | (k, v) :: s, acc, h => by
    show mergeP (.inl (k : Int) :: dK s) (en v :: dV en s) (dK acc, dV en acc) = _
    rw [mergeP, putP_d]
    have hk : k ∉ acc.map (·.1) := by
      rw [List.map_append, List.nodup_append] at h
      intro z
      exact h.2.2 k z k (by simp) rfl
    rw [put_new hk]
    have e : acc ++ (k, v) :: s = (acc ++ [(k, v)]) ++ s := by simp
    rw [e] at h ⊢
    exact mergeP_d s _ h
/-- {k: v for x in xs}, no key twice -/
theorem compK_d {β : Type} {ex : β → D} {tg : GSem} {fk fe : ESem} {vs : List Nat} {e : En} (kf : β → Nat) (vf : β → α) : ∀ (xs : List β) (acc : List (Nat × α)), ((acc ++ xs.map fun x => (kf x, vf x)).map (·.1)).Nodup →
    (∀ x ∈ xs, ∃ e1, tg (ex x) e = some e1 ∧ fk e1 = .ok (nD (kf x)) e1 ∧ fe e1 = .ok (en (vf x)) e1 ∧ wipeE e1 vs = e) → compK tg bYes fk fe vs (xs.map ex) e (dK acc, dV en acc) = .ok (dK (acc ++ xs.map fun x => (kf x, vf x)), dV en (acc ++ xs.map fun x => (kf x, vf x))) e
  | [], acc, _, _ => by simp [compK]
  | x :: xs, acc, hn, h => by
    obtain ⟨e1, h1, h2, h3, h4⟩ := h x (by simp)
    rw [List.map_cons, compK, h1]
    simp only [bYes', calm_ok', bind_ok', if_true, h2, h3, h4]
    show compK tg bYes fk fe vs (xs.map ex) e (putP (dK acc) (dV en acc) (.inl (kf x : Int)) (en (vf x))) = _
    have hk : kf x ∉ acc.map (·.1) := by
      rw [List.map_append, List.nodup_append] at hn
      intro z
      exact hn.2.2 _ z _ (by simp) rfl
    rw [putP_d, put_new hk]
    have e0 : acc ++ (x :: xs).map (fun x => (kf x, vf x)) = (acc ++ [(kf x, vf x)]) ++ xs.map fun x => (kf x, vf x) := by simp
    rw [e0] at hn ⊢
    exact compK_d kf vf xs _ hn fun y hy => h y (by simp [hy])
theorem dcomp_d {β : Type} {ex : β → D} {tg : GSem} {fi : ISem} {fk fe : ESem} {vs : List Nat} {env e1 : En} {xs : List β} (kf : β → Nat) (vf : β → α) (hi : fi env = .ok (xs.map ex) e1) (hl : xs.length ≤ 1000000) (hc : clean e1 vs = true) (hn : (xs.map kf).Nodup)
    (hx : ∀ x ∈ xs, ∃ e2, tg (ex x) (wipeE e1 vs) = some e2 ∧ fk e2 = .ok (nD (kf x)) e2 ∧ fe e2 = .ok (en (vf x)) e2 ∧ wipeE e2 vs = wipeE e1 vs) : eDComp vs tg fi bYes fk fe env = .ok (dO en (xs.map fun x => (kf x, vf x))) e1 := by
  have h := compK_d (en := en) kf vf xs [] (by simpa [List.map_map, Function.comp_def] using hn) hx
  unfold eDComp nDComp
  rw [hi]
  simp only [bind_ok']
  rw [if_pos (by rw [hc, Bool.and_true]; simp [small]; exact hl)]
  have e0 : (([], []) : List Key × List D) = (dK ([] : List (Nat × α)), dV en []) := rfl
  rw [e0, h]
  simp only [bind_ok', back_wipe, List.nil_append]
  rfl
@[simp] theorem eStar_d {env : En} {fe : ESem} : eStar fe env = (fe env).bind fun d e1 => match dctOf d with
  | some (ks, ds) => if decide (ks.length ≤ 1000000) = true then .ok (.dct (mergeP ks ds ([], [])).1 (mergeP ks ds ([], [])).2) e1 else .stuck
  | none => .stuck := rfl
@[simp] theorem dctOf_dC (s : List (Nat × α)) : dctOf (dC en s) = some (dK s, dV en s) := rfl
@[simp] theorem dctOf_dO (s : List (Nat × α)) : dctOf (dO en s) = some (dK s, dV en s) := rfl
theorem merge_d {s : List (Nat × α)} (h : (s.map (·.1)).Nodup) : (D.dct (mergeP (dK s) (dV en s) ([], [])).1 (mergeP (dK s) (dV en s) ([], [])).2) = dO en s := by
  have := mergeP_d (en := en) s [] (by simpa using h)
  have e0 : (([], []) : List Key × List D) = (dK ([] : List (Nat × α)), dV en []) := rfl
  rw [e0, this]
  rfl
@[simp] theorem iAny' {env : En} {fe : ESem} : iAny fe env = (fe env).bind fun d e1 => lift (itemsA d) e1 := rfl
@[simp] theorem itemsA_dC (s : List (Nat × α)) : itemsA (dC en s) = some ((s.map (·.1)).map nD) := by
  simp [itemsA, dC, dK]
  intro a b _
  rfl
@[simp] theorem itemsA_tN (xs : List Nat) : itemsA (tN xs) = some (xs.map nD) := rfl
@[simp] theorem itemsA_lN (xs : List Nat) : itemsA (lN xs) = some (xs.map nD) := rfl
end
end Dl

/-! E7: try; lists of sets. -/
namespace Dl
open PySem PySem.Spec PyProof.Rows L2
section
variable {env e : En} {c f : Str} {ns : List Str} {ds : List D} {d : D} {fb : SSem} {cls : List Clause} {cl : Clause} {sl : Option Nat} {i : Nat}
@[simp] theorem sTry' : sTry fb cls env = match fb env with
  | .exc c ns ds e => handle cls c ns ds e
  | o => o := rfl
@[simp] theorem handle_cons : handle (cl :: cls) c ns ds e = match cl.test c with
    | none => .stuck
    | some false => handle cls c ns ds e
    | some true => match cl.slot with
      | none => leaveX none (cl.suite e)
      | some i => if ns.isEmpty = true then .stuck else leaveX (some i) (cl.suite (e.set i (.ex ns ds))) := rfl
@[simp] theorem handle_nil : handle [] c ns ds e = .exc c ns ds e := rfl
@[simp] theorem testL' (l : List (Str × Bool)) : testL l c = l.lookup c := rfl
@[simp] theorem leaveX_rt : leaveX sl (.rt d e) = if noEx (clr sl e) = true then .rt d (clr sl e) else .stuck := rfl
@[simp] theorem leaveX_nx : leaveX sl (.nx e) = if noEx (clr sl e) = true then .nx (clr sl e) else .stuck := rfl
@[simp] theorem clr_some : clr (some i) e = e.set i .un := rfl
@[simp] theorem clr_none : clr none e = e := rfl
@[simp] theorem noEx' : noEx e = e.all fun s => match s with
  | .ex _ _ => false
  | _ => true := rfl
@[simp] theorem eXf' : eXf i f env = match env[i]? with
  | some (.ex ns ds) => lift (fieldD ns ds f) env
  | _ => .stuck := rfl
end
theorem gIn_LN (neg : Bool) (xs : List Nat) (L : List (List Nat)) : gIn neg (tN xs) (.lst (L.map tN)) = some (.bl (if neg then !decide (xs ∈ L) else decide (xs ∈ L))) := by
  rw [gIn_lst (k := 1) (plain_tN 0 xs) (fun d hd => by
    obtain ⟨y, _, rfl⟩ := List.mem_map.mp hd
    exact plain_tN 0 y) (by omega)]
  have e : tN xs ∈ L.map tN ↔ xs ∈ L := by
    rw [List.mem_map]
    constructor
    · rintro ⟨y, h, e⟩
      rw [← tN_inj.mp e]
      exact h
    · intro h; exact ⟨xs, h, rfl⟩
  by_cases h : xs ∈ L
  · have h' := e.mpr h
    simp [h, h']
  · have h' : ¬ tN xs ∈ L.map tN := fun z => h (e.mp z)
    simp only [h, h', decide_false]
@[simp] theorem gEq_lN (a b : List Nat) : gEq (lN a) (lN b) = some (.bl (decide (a = b))) := by
  rw [gEq_of (plain_lN 0 a) (plain_lN 0 b) (by omega)]
  simp [lN_inj]
@[simp] theorem gNe_lN (a b : List Nat) : gNe (lN a) (lN b) = some (.bl (!decide (a = b))) := by
  rw [gNe_of (plain_lN 0 a) (plain_lN 0 b) (by omega)]
  simp [lN_inj]
@[simp] theorem gEq_lN_nil (a : List Nat) : gEq (lN a) (.lst []) = some (.bl (decide (a = []))) := gEq_lN a []
theorem plain_str (k : Nat) {x : Str} (h : PyData.strOk x = true) : plainD k (.str x) := by cases k <;> exact h
theorem gEq_str {a b : Str} (h : PyData.strOk a = true) (g : PyData.strOk b = true) : gEq (.str a) (.str b) = some (.bl (decide (a = b))) := by
  rw [gEq_of (plain_str 0 h) (plain_str 0 g) (by omega)]
  simp
theorem gNe_str {a b : Str} (h : PyData.strOk a = true) (g : PyData.strOk b = true) : gNe (.str a) (.str b) = some (.bl (!decide (a = b))) := by
  rw [gNe_of (plain_str 0 h) (plain_str 0 g) (by omega)]
  simp
end Dl

/-! M1: systems of different places (transversals), in plain Lean. -/
namespace Tv
/-- the things of A have different places that fit them -/
def Sd (R : Nat → Nat → Prop) (A : List Nat) : Prop := ∃ φ : Nat → Nat, (∀ x ∈ A, R x (φ x)) ∧ ∀ x ∈ A, ∀ y ∈ A, φ x = φ y → x = y
variable {R : Nat → Nat → Prop} {A B S : List Nat}
theorem Sd.sub (h : Sd R A) (s : ∀ x ∈ B, x ∈ A) : Sd R B := by
  obtain ⟨φ, h1, h2⟩ := h
  exact ⟨φ, fun x m => h1 x (s x m), fun x m y m' => h2 x (s x m) y (s y m')⟩
theorem Sd.nil : Sd R [] := ⟨id, by simp, by simp⟩
theorem nodup_map_of {α β : Type} {f : α → β} : ∀ {A : List α}, A.Nodup → (∀ x ∈ A, ∀ y ∈ A, f x = f y → x = y) → (A.map f).Nodup
  | [], _, _ => by simp
  | a :: A, hn, hj => by
    rw [List.nodup_cons] at hn
    rw [List.map_cons, List.nodup_cons]
    refine ⟨fun hm => ?_, nodup_map_of hn.2 fun x hx y hy => hj x (by simp [hx]) y (by simp [hy])⟩
    obtain ⟨x, hx, e⟩ := List.mem_map.mp hm
    have := hj x (by simp [hx]) a (by simp) e
    exact hn.1 (this ▸ hx)
/-- f is injective on the nodup list A, into C -/
theorem len_le_of_inj {f : Nat → Nat} {C A : List Nat} (hn : A.Nodup) (hi : ∀ x ∈ A, f x ∈ C) (hj : ∀ x ∈ A, ∀ y ∈ A, f x = f y → x = y) : A.length ≤ C.length := by
  have h1 := nodup_map_of hn hj
  have h2 : (A.map f) ⊆ C := by
    intro y hy
    obtain ⟨x, hx, rfl⟩ := List.mem_map.mp hy
    exact hi x hx
  have := List.Nodup.length_le_of_subset h1 h2
  simpa using this
/-- a thing of B whose place no thing of A has -/
theorem free_place {φ ψ : Nat → Nat} (hA : A.Nodup) (hB : B.Nodup) (hj : ∀ x ∈ B, ∀ y ∈ B, ψ x = ψ y → x = y) (hl : A.length < B.length) : ∃ b ∈ B, ∀ a ∈ A, φ a ≠ ψ b := by
  refine Classical.byContradiction fun hc => ?_
  have h : ∀ b ∈ B, ψ b ∈ A.map φ := fun b hb => by
    refine Classical.byContradiction fun hn => hc ⟨b, hb, fun a ha e => hn ?_⟩
    exact List.mem_map.mpr ⟨a, ha, e⟩
  have := len_le_of_inj hB h hj
  simp at this
  omega
/-- the exchange of matchable sets -/
theorem exchange_aux : ∀ (k : Nat) (φ ψ : Nat → Nat), A.Nodup → B.Nodup → (∀ x ∈ A, R x (φ x)) → (∀ x ∈ A, ∀ y ∈ A, φ x = φ y → x = y) → (∀ x ∈ B, R x (ψ x)) → (∀ x ∈ B, ∀ y ∈ B, ψ x = ψ y → x = y) → A.length < B.length →
    (A.filter fun x => decide (x ∈ B ∧ φ x ≠ ψ x)).length ≤ k → ∃ b ∈ B, b ∉ A ∧ Sd R (b :: A) := by
  intro k
  induction k with
  | zero =>
    intro φ ψ hA hB r1 j1 r2 j2 hl hk
    obtain ⟨b, hb, hf⟩ := free_place (φ := φ) hA hB j2 hl
    by_cases ha : b ∈ A
    · have : b ∈ A.filter fun x => decide (x ∈ B ∧ φ x ≠ ψ x) := by simp [ha, hb, hf b ha]
      have := List.length_pos_of_mem this
      omega
    · refine ⟨b, hb, ha, fun x => if x = b then ψ b else φ x, ?_, ?_⟩ <;> grind
  | succ k ih =>
    intro φ ψ hA hB r1 j1 r2 j2 hl hk
    obtain ⟨b, hb, hf⟩ := free_place (φ := φ) hA hB j2 hl
    by_cases ha : b ∈ A
    · refine ih (fun x => if x = b then ψ b else φ x) ψ hA hB ?_ ?_ r2 j2 hl ?_
      · grind
      · grind
      · have h1 : ∀ x ∈ (A.filter fun x => decide (x ∈ B ∧ (if x = b then ψ b else φ x) ≠ ψ x)), x ∈ (A.filter fun x => decide (x ∈ B ∧ φ x ≠ ψ x)).erase b := by
          intro x hx
          have hn : (A.filter fun x => decide (x ∈ B ∧ φ x ≠ ψ x)).Nodup := hA.sublist List.filter_sublist
          rw [hn.mem_erase_iff]
          simp at hx ⊢
          grind
        have h2 := List.Nodup.length_le_of_subset (hA.sublist List.filter_sublist) h1
        have h3 : b ∈ A.filter fun x => decide (x ∈ B ∧ φ x ≠ ψ x) := by simp [ha, hb, hf b ha]
        rw [List.length_erase_of_mem h3] at h2
        omega
    · refine ⟨b, hb, ha, fun x => if x = b then ψ b else φ x, ?_, ?_⟩ <;> grind
theorem Sd.exchange (hA : A.Nodup) (hB : B.Nodup) (h1 : Sd R A) (h2 : Sd R B) (hl : A.length < B.length) : ∃ b ∈ B, b ∉ A ∧ Sd R (b :: A) := by
  obtain ⟨φ, r1, j1⟩ := h1
  obtain ⟨ψ, r2, j2⟩ := h2
  exact exchange_aux _ φ ψ hA hB r1 j1 r2 j2 hl (Nat.le_refl _)
/-- n is the greatest size of a matchable part of S -/
structure Top (R : Nat → Nat → Prop) (S : List Nat) (n : Nat) : Prop where
  le : ∀ B : List Nat, B.Nodup → (∀ x ∈ B, x ∈ S) → Sd R B → B.length ≤ n
  ex : ∃ A : List Nat, A.Nodup ∧ (∀ x ∈ A, x ∈ S) ∧ Sd R A ∧ A.length = n
theorem Top.uniq {n m : Nat} (h : Top R S n) (g : Top R S m) : n = m := by
  obtain ⟨A, a1, a2, a3, a4⟩ := h.ex
  obtain ⟨B, b1, b2, b3, b4⟩ := g.ex
  have := h.le B b1 b2 b3
  have := g.le A a1 a2 a3
  omega
/-- a part that can't be widened is a greatest one -/
theorem top_of_max (hA : A.Nodup) (hs : ∀ x ∈ A, x ∈ S) (hd : Sd R A) (hm : ∀ x ∈ S, x ∉ A → ¬ Sd R (x :: A)) : Top R S A.length := by
  refine ⟨fun B hB bs bd => ?_, A, hA, hs, hd, rfl⟩
  refine Classical.byContradiction fun hc => ?_
  obtain ⟨b, h1, h2, h3⟩ := Sd.exchange hA hB hd bd (by omega)
  exact hm b (bs b h1) h2 h3
theorem Top.full {n : Nat} (hS : S.Nodup) (h : Top R S n) : n = S.length ↔ Sd R S := by
  constructor
  · intro e
    obtain ⟨A, a1, a2, a3, a4⟩ := h.ex
    refine a3.sub fun x hx => ?_
    refine Classical.byContradiction fun hc => ?_
    have hn : (x :: A).Nodup := List.nodup_cons.mpr ⟨hc, a1⟩
    have : (x :: A) ⊆ S := by
      intro y hy
      rcases List.mem_cons.mp hy with e | e
      · rw [e]; exact hx
      · exact a2 y e
    have := List.Nodup.length_le_of_subset hn this
    simp at this
    omega
  · intro hd
    have h1 := h.le S hS (fun _ h => h) hd
    obtain ⟨A, a1, a2, a3, a4⟩ := h.ex
    have := List.Nodup.length_le_of_subset a1 a2
    omega
theorem split_filter {α : Type} (P : α → Bool) : ∀ B : List α, B.length = (B.filter P).length + (B.filter fun x => !P x).length
  | [] => rfl
  | b :: B => by
    have := split_filter P B
    cases h : P b <;> simp [h] <;> omega
/-- a bound by places and things -/
theorem cover_bound {P : Nat → Bool} {C : List Nat} (hS : S.Nodup) (hB : B.Nodup) (hs : ∀ x ∈ B, x ∈ S) (hd : Sd R B) (hc : ∀ x ∈ S, P x = true → ∀ p, R x p → p ∈ C) : B.length ≤ C.length + (S.filter fun x => !P x).length := by
  obtain ⟨φ, h1, h2⟩ := hd
  have e : B.length = (B.filter P).length + (B.filter fun x => !P x).length := split_filter P B
  have a1 : (B.filter P).length ≤ C.length := len_le_of_inj (f := φ) (hB.sublist List.filter_sublist) (fun x hx => by
    simp at hx
    exact hc x (hs x hx.1) hx.2 _ (h1 x hx.1)) fun x hx y hy => by
    simp at hx hy
    exact h2 x hx.1 y hy.1
  have a2 : (B.filter fun x => !P x).length ≤ (S.filter fun x => !P x).length := by
    refine List.Nodup.length_le_of_subset (hB.sublist List.filter_sublist) fun x hx => ?_
    simp at hx ⊢
    exact ⟨hs x hx.1, hx.2⟩
  omega
/-- a set of places C all of which are taken, that nobody of its things and not the new thing can leave: nothing to be had -/
theorem closed_no {φ : Nat → Nat} {C : List Nat} {x : Nat} (hC : C.Nodup) (hj : ∀ a ∈ A, ∀ b ∈ A, φ a = φ b → a = b) (hx : x ∉ A) (h1 : ∀ p, R x p → p ∈ C) (h2 : ∀ p ∈ C, ∃ a ∈ A, φ a = p ∧ ∀ q, R a q → q ∈ C) : ¬ Sd R (x :: A) := by
  intro ⟨ψ, r, j⟩
  -- the things that sit in C
  have hh : ∃ g : Nat → Nat, ∀ p ∈ C, g p ∈ A ∧ φ (g p) = p ∧ ∀ q, R (g p) q → q ∈ C := by
    classical
    refine ⟨fun p => if h : ∃ a ∈ A, φ a = p ∧ ∀ q, R a q → q ∈ C then Classical.choose h else 0, fun p hp => ?_⟩
    simp only [h2 p hp, dif_pos]
    exact Classical.choose_spec (h2 p hp)
  obtain ⟨g, hg⟩ := hh
  have hn : (x :: C.map g).Nodup := by
    rw [List.nodup_cons]
    refine ⟨fun hm => ?_, nodup_map_of hC fun p hp q hq e => ?_⟩
    · obtain ⟨p, hp, e⟩ := List.mem_map.mp hm
      exact hx (e ▸ (hg p hp).1)
    · rw [← (hg p hp).2.1, ← (hg q hq).2.1, e]
  have := len_le_of_inj (f := ψ) (C := C) hn (fun y hy => by
    rcases List.mem_cons.mp hy with e | hy
    · rw [e]; exact h1 _ (r x (by simp))
    · obtain ⟨p, hp, e⟩ := List.mem_map.mp hy
      rw [← e]
      exact (hg p hp).2.2 _ (r _ (by simp [(hg p hp).1]))) fun y hy z hz => by
    refine j y ?_ z ?_
    · rcases List.mem_cons.mp hy with e | hy
      · simp [e]
      · obtain ⟨p, hp, e⟩ := List.mem_map.mp hy
        rw [← e]; simp [(hg p hp).1]
    · rcases List.mem_cons.mp hz with e | hz
      · simp [e]
      · obtain ⟨p, hp, e⟩ := List.mem_map.mp hz
        rw [← e]; simp [(hg p hp).1]
  simp at this
  omega
end Tv

/-! M2: greatest sizes for classes with places, and for works with days. -/
namespace Tv
variable {R : Nat → Nat → Prop} {A B S xs : List Nat}
theorem sum_filter (f : Nat → Nat) (P : Nat) : ∀ A : List Nat, (∀ x ∈ A, f x < P) → ((List.range P).map fun c => (A.filter fun x => decide (f x = c)).length).sum = A.length
  | [], _ => by
    have : ∀ l : List Nat, (l.map fun c => (([] : List Nat).filter fun x => decide (f x = c)).length).sum = 0 := fun l => by
      induction l with
      | nil => rfl
      | cons a l ih => rw [List.map_cons, List.sum_cons, ih]; rfl
    exact this _
  | a :: A, h => by
    have ih := sum_filter f P A fun x hx => h x (by simp [hx])
    have ha : f a < P := h a (by simp)
    have key : ∀ l : List Nat, l.Nodup → (l.map fun c => ((a :: A).filter fun x => decide (f x = c)).length).sum = (l.map fun c => (A.filter fun x => decide (f x = c)).length).sum + if f a ∈ l then 1 else 0 := fun l hl => by
      induction l with
      | nil => rfl
      | cons c l ih =>
        rw [List.nodup_cons] at hl
        rw [List.map_cons, List.sum_cons, ih hl.2, List.map_cons, List.sum_cons]
        by_cases hc : f a = c
        · subst hc
          rw [List.filter_cons_of_pos (by simp), if_neg hl.1, if_pos (by simp)]
          simp
          omega
        · rw [List.filter_cons_of_neg (by simpa using hc)]
          by_cases hm : f a ∈ l
          · rw [if_pos hm, if_pos (by simp [hm])]; omega
          · rw [if_neg hm, if_neg (by simp [hm, hc])]; omega
    rw [key _ List.nodup_range, ih, if_pos (by simpa using ha)]
    rfl
theorem sum_le {f g : Nat → Nat} : ∀ l : List Nat, (∀ c ∈ l, f c ≤ g c) → (l.map f).sum ≤ (l.map g).sum
  | [], _ => Nat.le_refl _
  | a :: l, h => by
    have := sum_le l fun c hc => h c (by simp [hc])
    have := h a (by simp)
    simp only [List.map_cons, List.sum_cons]
    omega
theorem count_map_filter (f : Nat → Nat) (c : Nat) (l : List Nat) : (l.map f).count c = (l.filter fun x => decide (f x = c)).length := by
  rw [List.count_eq_countP, List.countP_map, List.countP_eq_length_filter]
  congr 1
/-- a class of places -/
def cplaces (tags : List Nat) (c : Nat) : List Nat := (List.range tags.length).filter fun p => decide (tags[p]? = some c)
theorem range_filter_count (c : Nat) : ∀ tags : List Nat, (cplaces tags c).length = tags.count c := fun tags => by
  unfold cplaces
  rw [List.count_eq_countP, List.countP_eq_length_filter]
  have e : tags = (List.range tags.length).map fun p => tags[p]?.getD 0 := by
    refine List.ext_getElem? fun i => ?_
    by_cases h : i < tags.length
    · simp [h]
    · rw [List.getElem?_eq_none (by omega), List.getElem?_eq_none (by simp; omega)]
  have e2 : (tags.filter fun x => x == c).length = ((List.range tags.length).filter fun p => tags[p]?.getD 0 == c).length := by
    conv => lhs; rw [e]
    rw [List.filter_map, List.length_map]
    rfl
  rw [e2]
  congr 1
  refine List.filter_congr fun p hp => ?_
  have hp : p < tags.length := by simpa using hp
  by_cases h : tags[p] = c <;> simp [hp, h]
theorem top_tags {tags : List Nat} {cl : Nat → Nat} {P n : Nat} (hx : xs.Nodup) (hR : ∀ x ∈ xs, ∀ p, R x p ↔ tags[p]? = some (cl x)) (hP : ∀ x ∈ xs, cl x < P) (hT : Top R xs n) : n = ((List.range P).map fun c => min (tags.count c) ((xs.map cl).count c)).sum := by
  obtain ⟨A, a1, a2, ⟨φ, f1, f2⟩, a4⟩ := hT.ex
  have hA : ∀ c, (A.filter fun x => decide (cl x = c)).length = min (tags.count c) ((xs.map cl).count c) := fun c => by
    have b1 : (A.filter fun x => decide (cl x = c)).length ≤ tags.count c := by
      rw [← range_filter_count]
      refine len_le_of_inj (f := φ) (a1.sublist List.filter_sublist) (fun x hx => ?_) fun x hx y hy => ?_
      · simp at hx
        have := (hR x (a2 x hx.1) _).mp (f1 x hx.1)
        rw [hx.2] at this
        unfold cplaces
        simp only [List.mem_filter, List.mem_range, decide_eq_true_eq]
        exact ⟨(List.getElem?_eq_some_iff.mp this).1, this⟩
      · simp at hx hy
        exact f2 x hx.1 y hy.1
    have b2 : (A.filter fun x => decide (cl x = c)).length ≤ (xs.map cl).count c := by
      rw [count_map_filter]
      refine List.Nodup.length_le_of_subset (a1.sublist List.filter_sublist) fun x hx => ?_
      simp at hx ⊢
      exact ⟨a2 x hx.1, hx.2⟩
    have b3 : ¬ ((A.filter fun x => decide (cl x = c)).length < tags.count c ∧ (A.filter fun x => decide (cl x = c)).length < (xs.map cl).count c) := fun ⟨h1, h2⟩ => by
      -- a thing that is not there, a place that is free
      have hx0 : ∃ x ∈ xs, cl x = c ∧ x ∉ A := by
        refine Classical.byContradiction fun hc => ?_
        rw [count_map_filter] at h2
        have : (xs.filter fun x => decide (cl x = c)).length ≤ (A.filter fun x => decide (cl x = c)).length := by
          refine List.Nodup.length_le_of_subset (hx.sublist List.filter_sublist) fun x hx => ?_
          simp at hx ⊢
          exact ⟨Classical.byContradiction fun z => hc ⟨x, hx.1, hx.2, z⟩, hx.2⟩
        omega
      obtain ⟨x, x1, x2, x3⟩ := hx0
      have hp0 : ∃ p ∈ cplaces tags c, ∀ a ∈ A, cl a = c → φ a ≠ p := by
        refine Classical.byContradiction fun hc => ?_
        rw [← range_filter_count] at h1
        have : (cplaces tags c).length ≤ ((A.filter fun x => decide (cl x = c)).map φ).length := by
          refine List.Nodup.length_le_of_subset ?_ fun p hp => ?_
          · unfold cplaces; exact List.nodup_range.sublist List.filter_sublist
          · refine Classical.byContradiction fun z => hc ⟨p, hp, fun a ha hca e => z ?_⟩
            exact List.mem_map.mpr ⟨a, by simp [ha, hca], e⟩
        rw [List.length_map] at this
        omega
      obtain ⟨p, p1, p2⟩ := hp0
      have hp1 : tags[p]? = some c := by
        unfold cplaces at p1
        simp only [List.mem_filter, decide_eq_true_eq] at p1
        exact p1.2
      have free : ∀ a ∈ A, φ a ≠ p := fun a ha e => by
        refine p2 a ha ?_ e
        have := (hR a (a2 a ha) _).mp (f1 a ha)
        rw [e, hp1] at this
        injection this with this
        exact this.symm
      have hd : Sd R (x :: A) := by
        have hRx : R x p := by rw [hR x x1, hp1, x2]
        refine ⟨fun y => if y = x then p else φ y, ?_, ?_⟩ <;> grind
      have := hT.le (x :: A) (List.nodup_cons.mpr ⟨x3, a1⟩) (fun y hy => by
        rcases List.mem_cons.mp hy with rfl | hy
        · exact x1
        · exact a2 y hy) hd
      simp at this
      omega
    omega
  have := sum_filter cl P A fun x hx => hP x (a2 x hx)
  rw [← a4, ← this]
  congr 1
  exact List.map_congr_left fun c _ => hA c
/-! ### works -/
def wUp : List Nat → Nat → Nat
  | [], n => n
  | d :: ds, n => wUp ds (if n < d then n + 1 else n)
theorem wUp_app (x : Nat) : ∀ (ds : List Nat) (n : Nat), wUp (ds ++ [x]) n = if wUp ds n < x then wUp ds n + 1 else wUp ds n
  | [], n => rfl
  | d :: ds, n => wUp_app x ds _
/-- snoc induction -/
theorem snoc_ind {α : Type} {P : List α → Prop} (h0 : P []) (hs : ∀ l x, P l → P (l ++ [x])) : ∀ l, P l := fun l => by
  have : ∀ n (l : List α), l.length = n → P l := fun n => by
    induction n with
    | zero => intro l hl; rw [List.length_eq_zero_iff.mp hl]; exact h0
    | succ n ih =>
      intro l hl
      have hne : l ≠ [] := by rintro rfl; simp at hl
      rw [← List.dropLast_concat_getLast hne]
      exact hs _ _ (ih _ (by simp [hl]))
  exact this _ l rfl
theorem wUp_facts (ds : List Nat) : ds.Pairwise (· ≤ ·) → wUp ds 0 ≤ ds.length ∧ (∃ t, t ≤ wUp ds 0 ∧ wUp ds 0 = t + (ds.filter fun d => decide (t < d)).length) ∧ ∀ t, wUp ds 0 ≤ t + (ds.filter fun d => decide (t < d)).length := by
  refine snoc_ind (P := fun ds => ds.Pairwise (· ≤ ·) → wUp ds 0 ≤ ds.length ∧ (∃ t, t ≤ wUp ds 0 ∧ wUp ds 0 = t + (ds.filter fun d => decide (t < d)).length) ∧ ∀ t, wUp ds 0 ≤ t + (ds.filter fun d => decide (t < d)).length) (fun _ => ⟨Nat.le_refl _, ⟨0, Nat.le_refl _, rfl⟩, fun t => Nat.zero_le _⟩) (fun l x ih hs => ?_) ds
  rw [List.pairwise_append] at hs
  obtain ⟨h1, ⟨t0, h2, h3⟩, h4⟩ := ih hs.1
  rw [wUp_app]
  have hc : ∀ t, ((l ++ [x]).filter fun d => decide (t < d)).length = (l.filter fun d => decide (t < d)).length + if t < x then 1 else 0 := fun t => by
    rw [List.filter_append, List.length_append]
    by_cases h : t < x <;> simp [h]
  split
  · rename_i hlt
    refine ⟨by simp; omega, ⟨t0, by omega, ?_⟩, fun t => ?_⟩
    · rw [hc, if_pos (by omega)]; omega
    · rw [hc]
      have := h4 t
      split <;> omega
  · rename_i hlt
    refine ⟨by simp; omega, ⟨wUp l 0, Nat.le_refl _, ?_⟩, fun t => ?_⟩
    · rw [hc, if_neg hlt]
      have : (l.filter fun d => decide (wUp l 0 < d)) = [] := by
        rw [List.filter_eq_nil_iff]
        intro d hd
        have := hs.2.2 d hd x (by simp)
        simp
        omega
      rw [this]
      rfl
    · rw [hc]
      have := h4 t
      omega
/-- things by their days -/
def insK (f : Nat → Nat) (x : Nat) : List Nat → List Nat
  | [] => [x]
  | y :: ys => if f x ≤ f y then x :: y :: ys else y :: insK f x ys
def ksort (f : Nat → Nat) : List Nat → List Nat
  | [] => []
  | x :: xs => insK f x (ksort f xs)
theorem insK_perm (f : Nat → Nat) (x : Nat) : ∀ ys : List Nat, (insK f x ys).Perm (x :: ys)
  | [] => List.Perm.refl _
  | y :: ys => by
    unfold insK
    split
    · exact List.Perm.refl _
    · exact ((insK_perm f x ys).cons y).trans (List.Perm.swap x y ys)
theorem ksort_perm (f : Nat → Nat) : ∀ xs : List Nat, (ksort f xs).Perm xs
  | [] => List.Perm.refl _
  | x :: xs => (insK_perm f x _).trans ((ksort_perm f xs).cons x)
/-- a matching along the days -/
theorem wUp_match (f : Nat → Nat) (l : List Nat) : l.Nodup → ∃ (A : List Nat) (φ : Nat → Nat), A.Nodup ∧ (∀ x ∈ A, x ∈ l) ∧ A.length = wUp (l.map f) 0 ∧ (∀ x ∈ A, φ x < f x ∧ φ x < wUp (l.map f) 0) ∧ ∀ x ∈ A, ∀ y ∈ A, φ x = φ y → x = y := by
  refine snoc_ind (P := fun l => l.Nodup → ∃ (A : List Nat) (φ : Nat → Nat), A.Nodup ∧ (∀ x ∈ A, x ∈ l) ∧ A.length = wUp (l.map f) 0 ∧ (∀ x ∈ A, φ x < f x ∧ φ x < wUp (l.map f) 0) ∧ ∀ x ∈ A, ∀ y ∈ A, φ x = φ y → x = y) (fun _ => ⟨[], id, by simp [wUp]⟩) (fun l x ih hn => ?_) l
  rw [List.nodup_append] at hn
  obtain ⟨A, φ, h1, h2, h3, h4, h5⟩ := ih hn.1
  have hxA : x ∉ A := fun h => hn.2.2 x (h2 x h) x (by simp) rfl
  rw [List.map_append, List.map_cons, List.map_nil, wUp_app]
  split
  · rename_i hlt
    refine ⟨x :: A, fun y => if y = x then wUp (l.map f) 0 else φ y, List.nodup_cons.mpr ⟨hxA, h1⟩, ?_, by simp [h3], ?_, ?_⟩
    · intro y hy
      rcases List.mem_cons.mp hy with rfl | hy
      · simp
      · simp [h2 y hy]
    · intro y hy
      rcases List.mem_cons.mp hy with rfl | hy
      · simp [hlt]
      · have hne : y ≠ x := fun e => hxA (e ▸ hy)
        have := h4 y hy
        simp only [hne, if_false]
        omega
    · intro y hy z hz e
      have hlt' : ∀ y ∈ A, φ y ≠ wUp (l.map f) 0 := fun y hy => by have := h4 y hy; omega
      have hyA : y ≠ x → y ∈ A := fun h => (List.mem_cons.mp hy).resolve_left h
      have hzA : z ≠ x → z ∈ A := fun h => (List.mem_cons.mp hz).resolve_left h
      grind
  · refine ⟨A, φ, h1, fun y hy => by simp [h2 y hy], h3, h4, h5⟩
theorem top_works {f : Nat → Nat} {size : Nat} {ds : List Nat} (hx : xs.Nodup) (hl : xs.length ≤ size) (hR : ∀ x ∈ xs, ∀ p, R x p ↔ p < f x ∧ p < size) (hd : ds = (ksort f xs).map f) (hs : ds.Pairwise (· ≤ ·)) :
    Top R xs (wUp ds 0) ∧ wUp ds 0 ≤ size ∧ (∃ t, t ≤ size ∧ wUp ds 0 = t + ((xs.map f).filter fun d => decide (t < d)).length) ∧ ∀ t, wUp ds 0 ≤ t + ((xs.map f).filter fun d => decide (t < d)).length := by
  obtain ⟨h1, ⟨t, h2, h3⟩, h4⟩ := wUp_facts ds hs
  have hp := ksort_perm f xs
  have hcount : ∀ t, (ds.filter fun d => decide (t < d)).length = ((xs.map f).filter fun d => decide (t < d)).length := fun t => by
    rw [hd]
    exact ((hp.map f).filter _).length_eq
  have hle : wUp ds 0 ≤ size := by
    rw [hd, List.length_map, hp.length_eq] at h1
    rw [hd]
    omega
  obtain ⟨A, φ, a1, a2, a3, a4, a5⟩ := wUp_match f (ksort f xs) (hp.nodup_iff.mpr hx)
  rw [← hd] at a3 a4
  refine ⟨⟨fun B b1 b2 b3 => ?_, A, a1, fun x h => hp.mem_iff.mp (a2 x h), ⟨φ, fun x h => ?_, a5⟩, a3⟩, hle, ⟨t, by omega, by rw [← hcount]; exact h3⟩, fun t => by rw [← hcount]; exact h4 t⟩
  · have := cover_bound (P := fun x => decide (f x ≤ t)) (C := List.range t) hx b1 b2 b3 fun x hx hpx p hr => by
      have := ((hR x hx p).mp hr).1
      simp at hpx ⊢
      omega
    rw [List.length_range] at this
    have e : (xs.filter fun x => !decide (f x ≤ t)).length = ((xs.map f).filter fun d => decide (t < d)).length := by
      rw [List.filter_map, List.length_map]
      congr 1
      refine List.filter_congr fun x _ => ?_
      by_cases h : f x ≤ t
      · have h' : ¬ t < f x := by omega
        simp [h, h']
      · have h' : t < f x := by omega
        simp [h, h']
    rw [e, ← hcount] at this
    omega
  · rw [hR x (hp.mem_iff.mp (a2 x h))]
    have := a4 x h
    omega
end Tv

namespace K00
open PySem PySem.Spec PyProof.Rows L2 Dl
abbrev pw : Program := PySem.Challenge.pw_choosingunseen_k00_rules_of_lists
def top (i : Nat) : Stmt := pw.main.body.getD i (.Pass ⟨0, 0, 0, 0⟩)
abbrev F0 (K : PySem.W.Frag) : Cf := ⟨K, He.ga K, none⟩
theorem b_abs : bootBuiltins "abs" = some (.builtin "abs") := by decide +kernel
theorem b_all : bootBuiltins "all" = some (.builtin "all") := by decide +kernel
theorem b_bool : bootBuiltins "bool" = some (.type "bool") := by decide +kernel
theorem b_enumerate : bootBuiltins "enumerate" = some (.type "enumerate") := by decide +kernel
theorem b_int : bootBuiltins "int" = some (.type "int") := by decide +kernel
theorem b_isinstance : bootBuiltins "isinstance" = some (.builtin "isinstance") := by decide +kernel
theorem b_len : bootBuiltins "len" = some (.builtin "len") := by decide +kernel
theorem b_list : bootBuiltins "list" = some (.type "list") := by decide +kernel
theorem b_min : bootBuiltins "min" = some (.builtin "min") := by decide +kernel
theorem b_range : bootBuiltins "range" = some (.type "range") := by decide +kernel
theorem b_repr : bootBuiltins "repr" = some (.builtin "repr") := by decide +kernel
theorem b_sorted : bootBuiltins "sorted" = some (.builtin "sorted") := by decide +kernel
theorem b_sum : bootBuiltins "sum" = some (.builtin "sum") := by decide +kernel
theorem b_tuple : bootBuiltins "tuple" = some (.type "tuple") := by decide +kernel
abbrev fc__things : List Str := ["Rule", "Lists", "Firsts", "Teams", "Works"]
abbrev fc_classes : List Str := ["Rule", "Lists", "Firsts", "Teams", "Works"]
abbrev fc_days : List Str := ["Rule", "Lists", "Firsts", "Teams", "Works"]
abbrev fc_lists : List Str := ["Rule", "Lists", "Firsts", "Teams", "Works"]
abbrev fc_number : List Str := ["Rule", "Lists", "Firsts", "Teams", "Works"]
abbrev fc_places : List Str := ["Rule", "Lists", "Firsts", "Teams", "Works"]
abbrev fc_size : List Str := ["Rule", "Lists", "Firsts", "Teams", "Works"]
abbrev cs___len__ : List Str := ["Rule", "Lists", "Firsts", "Teams", "Works"]
abbrev cs_full : List Str := ["Rule", "Lists", "Firsts", "Teams", "Works"]
abbrev sp_Firsts___init__ : List Str := ["Firsts"]
abbrev sp_Firsts__rank : List Str := ["Firsts"]
abbrev sp_Lists___init__ : List Str := ["Lists"]
abbrev sp_Teams___init__ : List Str := ["Teams"]
abbrev sp_Works___init__ : List Str := ["Works"]
abbrev xf_BadEntry : List Str := ["place"]
abbrev xf_BadNumber : List Str := ["name"]
abbrev xf_BadSet : List Str := ["place"]
abbrev xf_NotFree : List Str := ["things"]
abbrev tl_BadEntry : List (Str × Bool) := [("PricesError", false), ("BadNumber", false), ("BadSet", false), ("BadEntry", true), ("NotFree", false)]
abbrev tt_BadEntry : List Str := ["BadEntry"]
theorem tr_BadEntry (c : Str) (h : testL tl_BadEntry c = some true) : c ∈ tt_BadEntry := (by decide : ∀ p ∈ tl_BadEntry, p.2 = true → p.1 ∈ tt_BadEntry) _ (lookup_mem h) rfl
abbrev tl_BadNumber : List (Str × Bool) := [("PricesError", false), ("BadNumber", true), ("BadSet", false), ("BadEntry", false), ("NotFree", false)]
abbrev tt_BadNumber : List Str := ["BadNumber"]
theorem tr_BadNumber (c : Str) (h : testL tl_BadNumber c = some true) : c ∈ tt_BadNumber := (by decide : ∀ p ∈ tl_BadNumber, p.2 = true → p.1 ∈ tt_BadNumber) _ (lookup_mem h) rfl
abbrev tl_BadSet : List (Str × Bool) := [("PricesError", false), ("BadNumber", false), ("BadSet", true), ("BadEntry", false), ("NotFree", false)]
abbrev tt_BadSet : List Str := ["BadSet"]
theorem tr_BadSet (c : Str) (h : testL tl_BadSet c = some true) : c ∈ tt_BadSet := (by decide : ∀ p ∈ tl_BadSet, p.2 = true → p.1 ∈ tt_BadSet) _ (lookup_mem h) rfl
abbrev tl_PricesError : List (Str × Bool) := [("PricesError", true), ("BadNumber", true), ("BadSet", true), ("BadEntry", true), ("NotFree", true)]
abbrev tt_PricesError : List Str := ["PricesError", "BadNumber", "BadSet", "BadEntry", "NotFree"]
theorem tr_PricesError (c : Str) (h : testL tl_PricesError c = some true) : c ∈ tt_PricesError := (by decide : ∀ p ∈ tl_PricesError, p.2 = true → p.1 ∈ tt_PricesError) _ (lookup_mem h) rfl
structure Z (P : Program) (K : PySem.W.Frag) (mg : Str → Option Value) : Prop where
  b_abs : mg "abs" = none
  b_all : mg "all" = none
  b_bool : mg "bool" = none
  b_enumerate : mg "enumerate" = none
  b_int : mg "int" = none
  b_isinstance : mg "isinstance" = none
  b_len : mg "len" = none
  b_list : mg "list" = none
  b_min : mg "min" = none
  b_range : mg "range" = none
  b_repr : mg "repr" = none
  b_sorted : mg "sorted" = none
  b_sum : mg "sum" = none
  b_super : mg "super" = none
  b_tuple : mg "tuple" = none
  nosuper : (P.main.scope.names.lookup ("super" : Str)).isSome = false
  f_is_integer : mg "is_integer" = some (.ref (He.ga K "is_integer"))
  f_is_count : mg "is_count" = some (.ref (He.ga K "is_count"))
  f_is_row : mg "is_row" = some (.ref (He.ga K "is_row"))
  f_is_thing : mg "is_thing" = some (.ref (He.ga K "is_thing"))
  f_misplaced : mg "misplaced" = some (.ref (He.ga K "misplaced"))
  f_set_of : mg "set_of" = some (.ref (He.ga K "set_of"))
  f_minus : mg "minus" = some (.ref (He.ga K "minus"))
  f_lists_of : mg "lists_of" = some (.ref (He.ga K "lists_of"))
  f_shifted : mg "shifted" = some (.ref (He.ga K "shifted"))
  f_placed : mg "placed" = some (.ref (He.ga K "placed"))
  f_seated : mg "seated" = some (.ref (He.ga K "seated"))
  f_places_for : mg "places_for" = some (.ref (He.ga K "places_for"))
  f__law_pool : mg "_law_pool" = some (.ref (He.ga K "_law_pool"))
  f__law_mixed : mg "_law_mixed" = some (.ref (He.ga K "_law_mixed"))
  f__law_draw : mg "_law_draw" = some (.ref (He.ga K "_law_draw"))
  f__law_digits : mg "_law_digits" = some (.ref (He.ga K "_law_digits"))
  f__law_number : mg "_law_number" = some (.ref (He.ga K "_law_number"))
  f__law_subset : mg "_law_subset" = some (.ref (He.ga K "_law_subset"))
  f__law_subsets : mg "_law_subsets" = some (.ref (He.ga K "_law_subsets"))
  f__law_counted : mg "_law_counted" = some (.ref (He.ga K "_law_counted"))
  f__law_told : mg "_law_told" = some (.ref (He.ga K "_law_told"))
  f__law_axioms : mg "_law_axioms" = some (.ref (He.ga K "_law_axioms"))
  f__law_refused : mg "_law_refused" = some (.ref (He.ga K "_law_refused"))
  f_law : mg "law" = some (.ref (He.ga K "law"))
  c_PricesError : mg "PricesError" = some (.ref (He.ga K "PricesError"))
  c_BadNumber : mg "BadNumber" = some (.ref (He.ga K "BadNumber"))
  c_BadSet : mg "BadSet" = some (.ref (He.ga K "BadSet"))
  c_BadEntry : mg "BadEntry" = some (.ref (He.ga K "BadEntry"))
  c_NotFree : mg "NotFree" = some (.ref (He.ga K "NotFree"))
  c_Rule : mg "Rule" = some (.ref (He.ga K "Rule"))
  c_Lists : mg "Lists" = some (.ref (He.ga K "Lists"))
  c_Firsts : mg "Firsts" = some (.ref (He.ga K "Firsts"))
  c_Teams : mg "Teams" = some (.ref (He.ga K "Teams"))
  c_Works : mg "Works" = some (.ref (He.ga K "Works"))
  s_BadNumber___init__ : ∃ fd, FunS K P "__init__" "BadNumber.__init__" (memOf (top 3) 0) (Ma K "BadNumber" "__init__") fd (He.ga K "BadNumber")
  s_BadSet___init__ : ∃ fd, FunS K P "__init__" "BadSet.__init__" (memOf (top 4) 0) (Ma K "BadSet" "__init__") fd (He.ga K "BadSet")
  s_BadEntry___init__ : ∃ fd, FunS K P "__init__" "BadEntry.__init__" (memOf (top 5) 0) (Ma K "BadEntry" "__init__") fd (He.ga K "BadEntry")
  s_NotFree___init__ : ∃ fd, FunS K P "__init__" "NotFree.__init__" (memOf (top 6) 0) (Ma K "NotFree" "__init__") fd (He.ga K "NotFree")
  d_is_integer : ∃ fd, Fun K "is_integer" "is_integer" (top 8) (He.ga K "is_integer") fd
  d_is_count : ∃ fd, Fun K "is_count" "is_count" (top 9) (He.ga K "is_count") fd
  d_is_row : ∃ fd, Fun K "is_row" "is_row" (top 10) (He.ga K "is_row") fd
  d_is_thing : ∃ fd, Fun K "is_thing" "is_thing" (top 11) (He.ga K "is_thing") fd
  d_misplaced : ∃ fd, Fun K "misplaced" "misplaced" (top 12) (He.ga K "misplaced") fd
  d_set_of : ∃ fd, Fun K "set_of" "set_of" (top 13) (He.ga K "set_of") fd
  d_minus : ∃ fd, Fun K "minus" "minus" (top 14) (He.ga K "minus") fd
  d_Rule___init__ : ∃ fd, Fun K "__init__" "Rule.__init__" (memOf (top 16) 0) (Ma K "Rule" "__init__") fd
  d_Rule___len__ : ∃ fd, Fun K "__len__" "Rule.__len__" (memOf (top 16) 1) (Ma K "Rule" "__len__") fd
  d_Rule__rank : ∃ fd, Fun K "_rank" "Rule._rank" (memOf (top 16) 2) (Ma K "Rule" "_rank") fd
  d_Rule__free : ∃ fd, Fun K "_free" "Rule._free" (memOf (top 16) 3) (Ma K "Rule" "_free") fd
  d_Rule_full : ∃ fd, Fun K "full" "Rule.full" (memOf (top 16) 9) (Pg K "Rule" "full") fd
  d_Rule_is_free : ∃ fd, Fun K "is_free" "Rule.is_free" (memOf (top 16) 10) (Ma K "Rule" "is_free") fd
  d_Rule_rank : ∃ fd, Fun K "rank" "Rule.rank" (memOf (top 16) 11) (Ma K "Rule" "rank") fd
  d_Rule_dead : ∃ fd, Fun K "dead" "Rule.dead" (memOf (top 16) 18) (Ma K "Rule" "dead") fd
  d_Rule_firm : ∃ fd, Fun K "firm" "Rule.firm" (memOf (top 16) 19) (Ma K "Rule" "firm") fd
  d_lists_of : ∃ fd, Fun K "lists_of" "lists_of" (top 18) (He.ga K "lists_of") fd
  d_shifted : ∃ fd, Fun K "shifted" "shifted" (top 19) (He.ga K "shifted") fd
  d_placed : ∃ fd, Fun K "placed" "placed" (top 20) (He.ga K "placed") fd
  d_seated : ∃ fd, Fun K "seated" "seated" (top 21) (He.ga K "seated") fd
  s_Lists___init__ : ∃ fd, FunS K P "__init__" "Lists.__init__" (memOf (top 22) 0) (Ma K "Lists" "__init__") fd (He.ga K "Lists")
  d_Lists__rank : ∃ fd, Fun K "_rank" "Lists._rank" (memOf (top 22) 1) (Ma K "Lists" "_rank") fd
  d_places_for : ∃ fd, Fun K "places_for" "places_for" (top 23) (He.ga K "places_for") fd
  s_Firsts___init__ : ∃ fd, FunS K P "__init__" "Firsts.__init__" (memOf (top 25) 0) (Ma K "Firsts" "__init__") fd (He.ga K "Firsts")
  s_Firsts__rank : ∃ fd, FunS K P "_rank" "Firsts._rank" (memOf (top 25) 1) (Ma K "Firsts" "_rank") fd (He.ga K "Firsts")
  s_Teams___init__ : ∃ fd, FunS K P "__init__" "Teams.__init__" (memOf (top 26) 0) (Ma K "Teams" "__init__") fd (He.ga K "Teams")
  d_Teams__rank : ∃ fd, Fun K "_rank" "Teams._rank" (memOf (top 26) 1) (Ma K "Teams" "_rank") fd
  s_Works___init__ : ∃ fd, FunS K P "__init__" "Works.__init__" (memOf (top 27) 0) (Ma K "Works" "__init__") fd (He.ga K "Works")
  d_Works__rank : ∃ fd, Fun K "_rank" "Works._rank" (memOf (top 27) 1) (Ma K "Works" "_rank") fd
  d__law_pool : ∃ fd, Fun K "_law_pool" "_law_pool" (top 29) (He.ga K "_law_pool") fd
  d__law_mixed : ∃ fd, Fun K "_law_mixed" "_law_mixed" (top 30) (He.ga K "_law_mixed") fd
  d__law_draw : ∃ fd, Fun K "_law_draw" "_law_draw" (top 31) (He.ga K "_law_draw") fd
  d__law_digits : ∃ fd, Fun K "_law_digits" "_law_digits" (top 32) (He.ga K "_law_digits") fd
  d__law_number : ∃ fd, Fun K "_law_number" "_law_number" (top 33) (He.ga K "_law_number") fd
  d__law_subset : ∃ fd, Fun K "_law_subset" "_law_subset" (top 34) (He.ga K "_law_subset") fd
  d__law_subsets : ∃ fd, Fun K "_law_subsets" "_law_subsets" (top 35) (He.ga K "_law_subsets") fd
  d__law_counted : ∃ fd, Fun K "_law_counted" "_law_counted" (top 36) (He.ga K "_law_counted") fd
  d__law_told : ∃ fd, Fun K "_law_told" "_law_told" (top 37) (He.ga K "_law_told") fd
  d__law_axioms : ∃ fd, Fun K "_law_axioms" "_law_axioms" (top 38) (He.ga K "_law_axioms") fd
  d__law_refused : ∃ fd, Fun K "_law_refused" "_law_refused" (top 39) (He.ga K "_law_refused") fd
  d_law : ∃ fd, Fun K "law" "law" (top 40) (He.ga K "law") fd
  cl_Rule : Cls K (He.ga K "Rule")
  mk_Rule : Mk K (He.ga K "Rule") (Ma K "Rule" "__init__")
  m_Rule__free : Meth K (He.ga K "Rule") "_free" (Ma K "Rule" "_free")
  m_Rule__rank : Meth K (He.ga K "Rule") "_rank" (Ma K "Rule" "_rank")
  m_Rule_dead : Meth K (He.ga K "Rule") "dead" (Ma K "Rule" "dead")
  m_Rule_firm : Meth K (He.ga K "Rule") "firm" (Ma K "Rule" "firm")
  m_Rule_is_free : Meth K (He.ga K "Rule") "is_free" (Ma K "Rule" "is_free")
  m_Rule_rank : Meth K (He.ga K "Rule") "rank" (Ma K "Rule" "rank")
  cl_Lists : Cls K (He.ga K "Lists")
  mk_Lists : Mk K (He.ga K "Lists") (Ma K "Lists" "__init__")
  m_Lists__free : Meth K (He.ga K "Lists") "_free" (Ma K "Rule" "_free")
  m_Lists__rank : Meth K (He.ga K "Lists") "_rank" (Ma K "Lists" "_rank")
  m_Lists_dead : Meth K (He.ga K "Lists") "dead" (Ma K "Rule" "dead")
  m_Lists_firm : Meth K (He.ga K "Lists") "firm" (Ma K "Rule" "firm")
  m_Lists_is_free : Meth K (He.ga K "Lists") "is_free" (Ma K "Rule" "is_free")
  m_Lists_rank : Meth K (He.ga K "Lists") "rank" (Ma K "Rule" "rank")
  cl_Firsts : Cls K (He.ga K "Firsts")
  mk_Firsts : Mk K (He.ga K "Firsts") (Ma K "Firsts" "__init__")
  m_Firsts__free : Meth K (He.ga K "Firsts") "_free" (Ma K "Rule" "_free")
  m_Firsts__rank : Meth K (He.ga K "Firsts") "_rank" (Ma K "Firsts" "_rank")
  m_Firsts_dead : Meth K (He.ga K "Firsts") "dead" (Ma K "Rule" "dead")
  m_Firsts_firm : Meth K (He.ga K "Firsts") "firm" (Ma K "Rule" "firm")
  m_Firsts_is_free : Meth K (He.ga K "Firsts") "is_free" (Ma K "Rule" "is_free")
  m_Firsts_rank : Meth K (He.ga K "Firsts") "rank" (Ma K "Rule" "rank")
  cl_Teams : Cls K (He.ga K "Teams")
  mk_Teams : Mk K (He.ga K "Teams") (Ma K "Teams" "__init__")
  m_Teams__free : Meth K (He.ga K "Teams") "_free" (Ma K "Rule" "_free")
  m_Teams__rank : Meth K (He.ga K "Teams") "_rank" (Ma K "Teams" "_rank")
  m_Teams_dead : Meth K (He.ga K "Teams") "dead" (Ma K "Rule" "dead")
  m_Teams_firm : Meth K (He.ga K "Teams") "firm" (Ma K "Rule" "firm")
  m_Teams_is_free : Meth K (He.ga K "Teams") "is_free" (Ma K "Rule" "is_free")
  m_Teams_rank : Meth K (He.ga K "Teams") "rank" (Ma K "Rule" "rank")
  cl_Works : Cls K (He.ga K "Works")
  mk_Works : Mk K (He.ga K "Works") (Ma K "Works" "__init__")
  m_Works__free : Meth K (He.ga K "Works") "_free" (Ma K "Rule" "_free")
  m_Works__rank : Meth K (He.ga K "Works") "_rank" (Ma K "Works" "_rank")
  m_Works_dead : Meth K (He.ga K "Works") "dead" (Ma K "Rule" "dead")
  m_Works_firm : Meth K (He.ga K "Works") "firm" (Ma K "Rule" "firm")
  m_Works_is_free : Meth K (He.ga K "Works") "is_free" (Ma K "Rule" "is_free")
  m_Works_rank : Meth K (He.ga K "Works") "rank" (Ma K "Rule" "rank")
  fld__things : ∀ c ∈ fc__things, Cls K (He.ga K c) ∧ NoAttr K (He.ga K c) "_things"
  fld_classes : ∀ c ∈ fc_classes, Cls K (He.ga K c) ∧ NoAttr K (He.ga K c) "classes"
  fld_days : ∀ c ∈ fc_days, Cls K (He.ga K c) ∧ NoAttr K (He.ga K c) "days"
  fld_lists : ∀ c ∈ fc_lists, Cls K (He.ga K c) ∧ NoAttr K (He.ga K c) "lists"
  fld_number : ∀ c ∈ fc_number, Cls K (He.ga K c) ∧ NoAttr K (He.ga K c) "number"
  fld_places : ∀ c ∈ fc_places, Cls K (He.ga K c) ∧ NoAttr K (He.ga K c) "places"
  fld_size : ∀ c ∈ fc_size, Cls K (He.ga K c) ∧ NoAttr K (He.ga K c) "size"
  pr_full : ∀ c ∈ cs_full, Cls K (He.ga K c) ∧ PropOf K (He.ga K c) "full" (Ma K "Rule" "full") (Pg K "Rule" "full")
  ln : ∀ c ∈ cs___len__, PySem.W.findIn K (.ref (He.ga K c)) "__len__" = some (some (.ref (Ma K "Rule" "__len__"))) ∧ PySem.W.isFn K (.ref (Ma K "Rule" "__len__")) = true
  sup_Firsts___init__ : ∀ c ∈ sp_Firsts___init__, SupM K (He.ga K c) (He.ga K "Firsts") "__init__" (Ma K "Rule" "__init__")
  sup_Firsts__rank : ∀ c ∈ sp_Firsts__rank, SupM K (He.ga K c) (He.ga K "Firsts") "_rank" (Ma K "Rule" "_rank")
  sup_Lists___init__ : ∀ c ∈ sp_Lists___init__, SupM K (He.ga K c) (He.ga K "Lists") "__init__" (Ma K "Rule" "__init__")
  sup_Teams___init__ : ∀ c ∈ sp_Teams___init__, SupM K (He.ga K c) (He.ga K "Teams") "__init__" (Ma K "Rule" "__init__")
  sup_Works___init__ : ∀ c ∈ sp_Works___init__, SupM K (He.ga K c) (He.ga K "Works") "__init__" (Ma K "Rule" "__init__")
  ox_BadEntry : OexC K (He.ga K "BadEntry")
  si_BadEntry : SupI K (He.ga K "BadEntry") (He.ga K "BadEntry")
  no_BadEntry : ∀ f ∈ xf_BadEntry, PySem.W.findIn K (.ref (He.ga K "BadEntry")) f = some none
  in_BadEntry : PySem.W.findIn K (.ref (He.ga K "BadEntry")) "__init__" = some (some (.ref (Ma K "BadEntry" "__init__"))) ∧ PySem.W.typeIn K (.ref (Ma K "BadEntry" "__init__")) = some (.type "function")
  ox_BadNumber : OexC K (He.ga K "BadNumber")
  si_BadNumber : SupI K (He.ga K "BadNumber") (He.ga K "BadNumber")
  no_BadNumber : ∀ f ∈ xf_BadNumber, PySem.W.findIn K (.ref (He.ga K "BadNumber")) f = some none
  in_BadNumber : PySem.W.findIn K (.ref (He.ga K "BadNumber")) "__init__" = some (some (.ref (Ma K "BadNumber" "__init__"))) ∧ PySem.W.typeIn K (.ref (Ma K "BadNumber" "__init__")) = some (.type "function")
  ox_BadSet : OexC K (He.ga K "BadSet")
  si_BadSet : SupI K (He.ga K "BadSet") (He.ga K "BadSet")
  no_BadSet : ∀ f ∈ xf_BadSet, PySem.W.findIn K (.ref (He.ga K "BadSet")) f = some none
  in_BadSet : PySem.W.findIn K (.ref (He.ga K "BadSet")) "__init__" = some (some (.ref (Ma K "BadSet" "__init__"))) ∧ PySem.W.typeIn K (.ref (Ma K "BadSet" "__init__")) = some (.type "function")
  ox_NotFree : OexC K (He.ga K "NotFree")
  si_NotFree : SupI K (He.ga K "NotFree") (He.ga K "NotFree")
  no_NotFree : ∀ f ∈ xf_NotFree, PySem.W.findIn K (.ref (He.ga K "NotFree")) f = some none
  in_NotFree : PySem.W.findIn K (.ref (He.ga K "NotFree")) "__init__" = some (some (.ref (Ma K "NotFree" "__init__"))) ∧ PySem.W.typeIn K (.ref (Ma K "NotFree" "__init__")) = some (.type "function")
  ex_BadEntry : ∀ p ∈ tl_BadEntry, PySem.W.exmOne K (.ref (He.ga K p.1)) (.ref (He.ga K "BadEntry")) = some p.2
  ex_BadNumber : ∀ p ∈ tl_BadNumber, PySem.W.exmOne K (.ref (He.ga K p.1)) (.ref (He.ga K "BadNumber")) = some p.2
  ex_BadSet : ∀ p ∈ tl_BadSet, PySem.W.exmOne K (.ref (He.ga K p.1)) (.ref (He.ga K "BadSet")) = some p.2
  ex_PricesError : ∀ p ∈ tl_PricesError, PySem.W.exmOne K (.ref (He.ga K p.1)) (.ref (He.ga K "PricesError")) = some p.2
  xf_BadEntry : ∀ c ∈ tt_BadEntry, L2.XfC K (He.ga K c)
  xf_BadNumber : ∀ c ∈ tt_BadNumber, L2.XfC K (He.ga K c)
  xf_BadSet : ∀ c ∈ tt_BadSet, L2.XfC K (He.ga K c)
  xn_BadEntry_place : ∀ c ∈ tt_BadEntry, PySem.W.findIn K (.ref (He.ga K c)) "place" = some none
  xn_BadNumber_name : ∀ c ∈ tt_BadNumber, PySem.W.findIn K (.ref (He.ga K c)) "name" = some none
  xn_BadSet_place : ∀ c ∈ tt_BadSet, PySem.W.findIn K (.ref (He.ga K c)) "place" = some none
variable {P : Program} {w : World} {K : PySem.W.Frag} {mg : Str → Option Value} {base : Heap} {X : Cx}
theorem sc_BadEntry : NdefX.NScope ((["self", "place"] : List Str) ++ [("__class__" : Str)]) ["self", "place"] ["__class__"] (defScope (memOf (top 5) 0)) := NdefX.nscope_by (by decide +kernel)
theorem xc_BadEntry {k : Nat} (hP : X.prog = P) (hK : X.K = K) (hmg : X.mg = mg) (z : Z P K mg) (hr : Room k X.A) (hk : 2 ≤ k) : XCls (F0 K) X "BadEntry" xf_BadEntry := by
  subst hP hK hmg
  obtain ⟨fd, Fu⟩ := z.s_BadEntry___init__
  exact ⟨z.ox_BadEntry, He.ga X.K "BadEntry", z.si_BadEntry, z.no_BadEntry, 1, Ma X.K "BadEntry" "__init__", fd, ["self", "place"], z.in_BadEntry.1, z.in_BadEntry.2, xinit1 Fu rfl sc_BadEntry rfl z.b_super z.nosuper ⟨_, rfl, rfl⟩ rfl, hr.mono hk, Fu.binds fun _ _ _ _ _ _ _ us hl => match us, hl with | [_, _], _ => rfl⟩
theorem sc_BadNumber : NdefX.NScope ((["self", "name"] : List Str) ++ [("__class__" : Str)]) ["self", "name"] ["__class__"] (defScope (memOf (top 3) 0)) := NdefX.nscope_by (by decide +kernel)
theorem xc_BadNumber {k : Nat} (hP : X.prog = P) (hK : X.K = K) (hmg : X.mg = mg) (z : Z P K mg) (hr : Room k X.A) (hk : 2 ≤ k) : XCls (F0 K) X "BadNumber" xf_BadNumber := by
  subst hP hK hmg
  obtain ⟨fd, Fu⟩ := z.s_BadNumber___init__
  exact ⟨z.ox_BadNumber, He.ga X.K "BadNumber", z.si_BadNumber, z.no_BadNumber, 1, Ma X.K "BadNumber" "__init__", fd, ["self", "name"], z.in_BadNumber.1, z.in_BadNumber.2, xinit1 Fu rfl sc_BadNumber rfl z.b_super z.nosuper ⟨_, rfl, rfl⟩ rfl, hr.mono hk, Fu.binds fun _ _ _ _ _ _ _ us hl => match us, hl with | [_, _], _ => rfl⟩
theorem sc_BadSet : NdefX.NScope ((["self", "place"] : List Str) ++ [("__class__" : Str)]) ["self", "place"] ["__class__"] (defScope (memOf (top 4) 0)) := NdefX.nscope_by (by decide +kernel)
theorem xc_BadSet {k : Nat} (hP : X.prog = P) (hK : X.K = K) (hmg : X.mg = mg) (z : Z P K mg) (hr : Room k X.A) (hk : 2 ≤ k) : XCls (F0 K) X "BadSet" xf_BadSet := by
  subst hP hK hmg
  obtain ⟨fd, Fu⟩ := z.s_BadSet___init__
  exact ⟨z.ox_BadSet, He.ga X.K "BadSet", z.si_BadSet, z.no_BadSet, 1, Ma X.K "BadSet" "__init__", fd, ["self", "place"], z.in_BadSet.1, z.in_BadSet.2, xinit1 Fu rfl sc_BadSet rfl z.b_super z.nosuper ⟨_, rfl, rfl⟩ rfl, hr.mono hk, Fu.binds fun _ _ _ _ _ _ _ us hl => match us, hl with | [_, _], _ => rfl⟩
theorem sc_NotFree : NdefX.NScope ((["self", "things"] : List Str) ++ [("__class__" : Str)]) ["self", "things"] ["__class__"] (defScope (memOf (top 6) 0)) := NdefX.nscope_by (by decide +kernel)
theorem xc_NotFree {k : Nat} (hP : X.prog = P) (hK : X.K = K) (hmg : X.mg = mg) (z : Z P K mg) (hr : Room k X.A) (hk : 2 ≤ k) : XCls (F0 K) X "NotFree" xf_NotFree := by
  subst hP hK hmg
  obtain ⟨fd, Fu⟩ := z.s_NotFree___init__
  exact ⟨z.ox_NotFree, He.ga X.K "NotFree", z.si_NotFree, z.no_NotFree, 1, Ma X.K "NotFree" "__init__", fd, ["self", "things"], z.in_NotFree.1, z.in_NotFree.2, xinit1 Fu rfl sc_NotFree rfl z.b_super z.nosuper ⟨_, rfl, rfl⟩ rfl, hr.mono hk, Fu.binds fun _ _ _ _ _ _ _ us hl => match us, hl with | [_, _], _ => rfl⟩
/-! is_integer -/
abbrev N_is_integer : List Str := ["value"]
theorem nd_is_integer : N_is_integer.Nodup := by decide +kernel
abbrev st_is_integer : Stmt := top 8
def g_is_integer : SSem := sRet (eAnd (eUn (gIsi "int") (eVar 0)) (eNot (eUn (gIsi "bool") (eVar 0))))
def fn_is_integer : FSem := fnOf [.v] 1 g_is_integer
theorem sc_is_integer : FnScope N_is_integer ["value"] (defScope st_is_integer) := ⟨rfl, rfl, rfl, by decide +kernel, rfl, by decide +kernel, by decide +kernel⟩
theorem ok_is_integer (z : Z P K mg) : FnB P w K mg base 1 (He.ga K "is_integer") ["value"] (spF (F0 K) [.v] fn_is_integer) :=
  fn_b (N := N_is_integer) z.d_is_integer sc_is_integer rfl (by decide) (fun _ _ _ _ _ _ us hl => match us, hl with | [_], _ => rfl) fun cdv A outer s H E hr =>
    (ds_one (ds_ret (de_and rfl (de_isi rfl rfl z.b_isinstance rfl z.b_int b_int (dv 0)) (de_one (de_not rfl (de_isi rfl rfl z.b_isinstance rfl z.b_bool b_bool (dv 0)))))))
/-! is_count -/
abbrev N_is_count : List Str := ["value"]
theorem nd_is_count : N_is_count.Nodup := by decide +kernel
abbrev st_is_count : Stmt := top 9
def g_is_count : SSem := sRet (eAnd (eCall [.v] fn_is_integer (gE (eVar 0) (gNil'))) (eBin gGe (eVar 0) (eC (.int 0))))
def fn_is_count : FSem := fnOf [.v] 1 g_is_count
theorem sc_is_count : FnScope N_is_count ["value"] (defScope st_is_count) := ⟨rfl, rfl, rfl, by decide +kernel, rfl, by decide +kernel, by decide +kernel⟩
theorem ok_is_count (z : Z P K mg) : FnB P w K mg base 2 (He.ga K "is_count") ["value"] (spF (F0 K) [.v] fn_is_count) :=
  fn_b (N := N_is_count) z.d_is_count sc_is_count rfl (by decide) (fun _ _ _ _ _ _ us hl => match us, hl with | [_], _ => rfl) fun cdv A outer s H E hr =>
    (ds_one (ds_ret (de_and rfl (c_call (takes_of rfl rfl rfl rfl) (ok_is_integer z) (by decide) hr z.f_is_integer rfl (dg_e (dv 0) dg_nil)) (de_one (d_cmp op_ge ok_B0.ok (dv 0) d_int (nomark _))))))
/-! is_row -/
abbrev N_is_row : List Str := ["value"]
theorem nd_is_row : N_is_row.Nodup := by decide +kernel
abbrev st_is_row : Stmt := top 10
def g_is_row : SSem := sRet (eUn (gIsi2 "tuple" "list") (eVar 0))
def fn_is_row : FSem := fnOf [.v] 1 g_is_row
theorem sc_is_row : FnScope N_is_row ["value"] (defScope st_is_row) := ⟨rfl, rfl, rfl, by decide +kernel, rfl, by decide +kernel, by decide +kernel⟩
theorem ok_is_row (z : Z P K mg) : FnB P w K mg base 1 (He.ga K "is_row") ["value"] (spF (F0 K) [.v] fn_is_row) :=
  fn_b (N := N_is_row) z.d_is_row sc_is_row rfl (by decide) (fun _ _ _ _ _ _ us hl => match us, hl with | [_], _ => rfl) fun cdv A outer s H E hr =>
    (ds_one (ds_ret (de_isi2 rfl rfl z.b_isinstance rfl z.b_tuple b_tuple rfl z.b_list b_list (dv 0))))
/-! is_thing -/
abbrev N_is_thing : List Str := ["size", "value"]
theorem nd_is_thing : N_is_thing.Nodup := by decide +kernel
abbrev st_is_thing : Stmt := top 11
def g_is_thing : SSem := sRet (eAnd (eCall [.v] fn_is_integer (gE (eVar 1) (gNil'))) (eChain gLe gLt0 (eC (.int 0)) (eVar 1) (eVar 0)))
def fn_is_thing : FSem := fnOf [.v, .v] 2 g_is_thing
theorem sc_is_thing : FnScope N_is_thing ["size", "value"] (defScope st_is_thing) := ⟨rfl, rfl, rfl, by decide +kernel, rfl, by decide +kernel, by decide +kernel⟩
theorem ok_is_thing (z : Z P K mg) : FnB P w K mg base 2 (He.ga K "is_thing") ["size", "value"] (spF (F0 K) [.v, .v] fn_is_thing) :=
  fn_b (N := N_is_thing) z.d_is_thing sc_is_thing rfl (by decide) (fun _ _ _ _ _ _ us hl => match us, hl with | [_, _], _ => rfl) fun cdv A outer s H E hr =>
    (ds_one (ds_ret (de_and rfl (c_call (takes_of rfl rfl rfl rfl) (ok_is_integer z) (by decide) hr z.f_is_integer rfl (dg_e (dv 1) dg_nil)) (de_one (de_chain op_le op_lt ok_B0.ok ok_B0.ok d_int (dv 1) (dv 0) rfl)))))
/-! misplaced -/
abbrev N_misplaced : List Str := ["size", "things", "before", "place", "thing"]
theorem nd_misplaced : N_misplaced.Nodup := by decide +kernel
abbrev st_misplaced : Stmt := top 12
def g_misplaced : SSem := sSeq (sSet 2 (eUn gNeg (eC (.int 1)))) (sSeq (sFor (gV2 3 4) (iEnumD (eVar 1)) (sSeq (sIf (bOr (bNot (bE (eCall [.v, .v] fn_is_thing (gE (eVar 0) (gE (eVar 4) (gNil')))))) (bT (eBin gLe (eVar 4) (eVar 2)))) (sRet (eVar 3)) (sNil)) (sSet 2 (eVar 4)))) (sRet (eC .non)))
def fn_misplaced : FSem := fnOf [.v, .v] 5 g_misplaced
theorem sc_misplaced : FnScope N_misplaced ["size", "things"] (defScope st_misplaced) := ⟨rfl, rfl, rfl, by decide +kernel, rfl, by decide +kernel, by decide +kernel⟩
theorem ok_misplaced (z : Z P K mg) : FnB P w K mg base 3 (He.ga K "misplaced") ["size", "things"] (spF (F0 K) [.v, .v] fn_misplaced) :=
  fn_b (N := N_misplaced) z.d_misplaced sc_misplaced rfl (by decide) (fun _ _ _ _ _ _ us hl => match us, hl with | [_, _], _ => rfl) fun cdv A outer s H E hr =>
    (ds_cons (ds_set (i := 2) nd_misplaced rfl (by first | exact .inl rfl | exact .inr rfl) (d_un un_neg ok_neg.ok d_int))
      (ds_cons (ds_for (passes_of rfl) rfl (di_enum rfl rfl z.b_enumerate (dv 1)) (pg_tup rfl (pgs_cons (pg_name (i := 3) nd_misplaced rfl (by first | exact .inl rfl | exact .inr rfl)) (pgs_cons (pg_name (i := 4) nd_misplaced rfl (by first | exact .inl rfl | exact .inr rfl)) pgs_nil))) g_two
      (ds_cons (ds_if (dt_w (dw_or (dt_not (dt_e rfl (c_call (takes_of rfl rfl rfl rfl) (ok_is_thing z) (by decide) hr z.f_is_thing rfl (dg_e (dv 0) (dg_e (dv 4) dg_nil))))) (dw_or1 (dt_cmp op_le ok_B0.ok (dv 4) (dv 2) (nomark _))))) (ds_one (ds_ret (dv 3))) ds_nil)
      (ds_one (ds_set (i := 2) nd_misplaced rfl (by first | exact .inl rfl | exact .inr rfl) (dv 4)))))
      (ds_one (ds_ret d_non))))
/-! set_of -/
abbrev N_set_of : List Str := ["size", "things", "place"]
theorem nd_set_of : N_set_of.Nodup := by decide +kernel
abbrev st_set_of : Stmt := top 13
def g_set_of : SSem := sSeq (sSet 2 (eCall [.v, .v] fn_misplaced (gE (eVar 0) (gE (eVar 1) (gNil'))))) (sSeq (sIf (bT (eBin gNotN (eVar 2) (eC .non))) (sRaise "BadSet" xf_BadSet (aCons (eVar 2) (aNil))) (sNil)) (sRet (eCB (g1 gTupleOf) (aCons (eVar 1) (aNil)))))
def fn_set_of : FSem := fnOf [.v, .v] 3 g_set_of
theorem sc_set_of : FnScope N_set_of ["size", "things"] (defScope st_set_of) := ⟨rfl, rfl, rfl, by decide +kernel, rfl, by decide +kernel, by decide +kernel⟩
theorem ok_set_of (z : Z P K mg) : FnB P w K mg base 5 (He.ga K "set_of") ["size", "things"] (spF (F0 K) [.v, .v] fn_set_of) :=
  fn_b (N := N_set_of) z.d_set_of sc_set_of rfl (by decide) (fun _ _ _ _ _ _ us hl => match us, hl with | [_, _], _ => rfl) fun cdv A outer s H E hr =>
    (ds_cons (ds_set (i := 2) nd_set_of rfl (by first | exact .inl rfl | exact .inr rfl) (c_call (takes_of rfl rfl rfl rfl) (ok_misplaced z) (by decide) hr z.f_misplaced rfl (dg_e (dv 0) (dg_e (dv 1) dg_nil))))
      (ds_cons (ds_if (dt_cmp op_notN ok_notN (dv 2) d_non (nomark _)) (ds_one (ds_raise rfl (takes_of rfl rfl rfl rfl) (xc_BadSet (k := 4) rfl rfl rfl z hr (by decide)) rfl z.c_BadSet (da_cons (dv 2) da_nil))) ds_nil)
      (ds_one (ds_ret (d_cty call_tuple_of (ok_tupleOf) rfl z.b_tuple b_tuple (da_cons (dv 1) da_nil))))))
/-! minus -/
abbrev N_minus : List Str := ["one", "other", "thing"]
theorem nd_minus : N_minus.Nodup := by decide +kernel
abbrev st_minus : Stmt := top 14
def g_minus : SSem := sRet (eCB (g1 gTupleOf) (aCons (eComp [2] (gV 2) (iSeq (eVar 0)) (bT (eBin (gIn true) (eVar 2) (eVar 1))) (eVar 2)) (aNil)))
def fn_minus : FSem := fnOf [.v, .v] 3 g_minus
theorem sc_minus : FnScope N_minus ["one", "other"] (defScope st_minus) := ⟨rfl, rfl, rfl, by decide +kernel, rfl, by decide +kernel, by decide +kernel⟩
theorem ok_minus (z : Z P K mg) : FnB P w K mg base 1 (He.ga K "minus") ["one", "other"] (spF (F0 K) [.v, .v] fn_minus) :=
  fn_b (N := N_minus) z.d_minus sc_minus rfl (by decide) (fun _ _ _ _ _ _ us hl => match us, hl with | [_, _], _ => rfl) fun cdv A outer s H E hr =>
    (ds_one (ds_ret (d_cty call_tuple_of (ok_tupleOf) rfl z.b_tuple b_tuple (da_cons (DN.de (dn_comp (own := [("thing", 2)]) rfl nd_minus (di_seq rfl (dv 0)) (blk_ok [("thing", 2)] rfl rfl rfl) g_name (insideN (by decide)) (fun _ _ _ _ _ => (pg_name (i := 2) nd_minus rfl (by first | exact .inl rfl | exact .inr rfl))) (fun _ _ _ _ _ => dts_one (dt_cmp (op_notInA rfl (hu65 hr)) (ok_in true).ok (dv 2) (dv 1) rfl)) (fun _ _ _ _ _ => (dv 2)))) da_nil))))
/-! Rule___init__ -/
abbrev N_Rule___init__ : List Str := ["self", "size"]
theorem nd_Rule___init__ : N_Rule___init__.Nodup := by decide +kernel
abbrev st_Rule___init__ : Stmt := memOf (top 16) 0
def g_Rule___init__ : SSem := sSeq (sIf (bNot (bE (eCall [.v] fn_is_count (gE (eVar 1) (gNil'))))) (sRaise "BadNumber" xf_BadNumber (aCons (eC (.str "size")) (aNil))) (sNil)) (sSeq (sFldI fc_size 0 "size" (eVar 1)) (sFldI fc__things 0 "_things" (eUn (gRng1 .tup) (eVar 1))))
def fn_Rule___init__ : FSem := fnOf [.m, .v] 2 g_Rule___init__
theorem sc_Rule___init__ : FnScope N_Rule___init__ ["self", "size"] (defScope st_Rule___init__) := ⟨rfl, rfl, rfl, by decide +kernel, rfl, by decide +kernel, by decide +kernel⟩
theorem ok_Rule___init__ (z : Z P K mg) : FnB P w K mg base 5 (Ma K "Rule" "__init__") ["self", "size"] (spF (F0 K) [.m, .v] fn_Rule___init__) :=
  fn_b (N := N_Rule___init__) z.d_Rule___init__ sc_Rule___init__ rfl (by decide) (fun _ _ _ _ _ _ us hl => match us, hl with | [_, _], _ => rfl) fun cdv A outer s H E hr =>
    (ds_cons (ds_if (dt_not (dt_e rfl (c_call (takes_of rfl rfl rfl rfl) (ok_is_count z) (by decide) hr z.f_is_count rfl (dg_e (dv 1) dg_nil)))) (ds_one (ds_raise rfl (takes_of rfl rfl rfl rfl) (xc_BadNumber (k := 4) rfl rfl rfl z hr (by decide)) rfl z.c_BadNumber (da_cons d_str da_nil))) ds_nil)
      (ds_cons (ds_fldI rfl z.fld_size (pn 0) (dv 1))
      (ds_one (ds_fldI rfl z.fld__things (pn 0) (de_tupRange1 rfl rfl z.b_tuple rfl z.b_range (dv 1))))))
/-! Rule___len__ -/
abbrev N_Rule___len__ : List Str := ["self"]
theorem nd_Rule___len__ : N_Rule___len__.Nodup := by decide +kernel
abbrev st_Rule___len__ : Stmt := memOf (top 16) 1
def g_Rule___len__ : SSem := sRet (eCB (g1 gLen) (aCons (eUn (gFld fc__things "_things") (eVar 0)) (aNil)))
def fn_Rule___len__ : FSem := fnOf [.v] 1 g_Rule___len__
theorem sc_Rule___len__ : FnScope N_Rule___len__ ["self"] (defScope st_Rule___len__) := ⟨rfl, rfl, rfl, by decide +kernel, rfl, by decide +kernel, by decide +kernel⟩
theorem ok_Rule___len__ (z : Z P K mg) : FnB P w K mg base 1 (Ma K "Rule" "__len__") ["self"] (spF (F0 K) [.v] fn_Rule___len__) :=
  fn_b (N := N_Rule___len__) z.d_Rule___len__ sc_Rule___len__ rfl (by decide) (fun _ _ _ _ _ _ us hl => match us, hl with | [_], _ => rfl) fun cdv A outer s H E hr =>
    (ds_one (ds_ret (d_cb (call_ln rfl) (ok_c1 ok_len) rfl z.b_len b_len (da_cons (d_fld rfl z.fld__things (dv 0)) da_nil))))
/-! Rule__rank -/
abbrev N_Rule__rank : List Str := ["self", "things"]
theorem nd_Rule__rank : N_Rule__rank.Nodup := by decide +kernel
abbrev st_Rule__rank : Stmt := memOf (top 16) 2
def g_Rule__rank : SSem := sRet (eCB (g1 gLen) (aCons (eVar 1) (aNil)))
def fn_Rule__rank : FSem := fnOf [.v, .v] 2 g_Rule__rank
theorem sc_Rule__rank : FnScope N_Rule__rank ["self", "things"] (defScope st_Rule__rank) := ⟨rfl, rfl, rfl, by decide +kernel, rfl, by decide +kernel, by decide +kernel⟩
theorem ok_Rule__rank (z : Z P K mg) : FnB P w K mg base 1 (Ma K "Rule" "_rank") ["self", "things"] (spF (F0 K) [.v, .v] fn_Rule__rank) :=
  fn_b (N := N_Rule__rank) z.d_Rule__rank sc_Rule__rank rfl (by decide) (fun _ _ _ _ _ _ us hl => match us, hl with | [_, _], _ => rfl) fun cdv A outer s H E hr =>
    (ds_one (ds_ret (d_cb (call_ln rfl) (ok_c1 ok_len) rfl z.b_len b_len (da_cons (dv 1) da_nil))))
/-! lists_of -/
abbrev N_lists_of : List Str := ["size", "lists", "place", "some"]
theorem nd_lists_of : N_lists_of.Nodup := by decide +kernel
abbrev st_lists_of : Stmt := top 18
def g_lists_of : SSem := sSeq (sFor (gV2 2 3) (iEnumD (eVar 1)) (sIf (bOr (bNot (bE (eCall [.v] fn_is_row (gE (eVar 3) (gNil'))))) (bT (eBin gNotN (eCall [.v, .v] fn_misplaced (gE (eVar 0) (gE (eVar 3) (gNil')))) (eC .non)))) (sRaise "BadEntry" xf_BadEntry (aCons (eVar 2) (aNil))) (sNil))) (sRet (eCB (g1 gTupleOf) (aCons (eComp [3] (gV 3) (iSeq (eVar 1)) (bYes) (eCB (g1 gTupleOf) (aCons (eVar 3) (aNil)))) (aNil))))
def fn_lists_of : FSem := fnOf [.v, .v] 4 g_lists_of
theorem sc_lists_of : FnScope N_lists_of ["size", "lists"] (defScope st_lists_of) := ⟨rfl, rfl, rfl, by decide +kernel, rfl, by decide +kernel, by decide +kernel⟩
theorem ok_lists_of (z : Z P K mg) : FnB P w K mg base 5 (He.ga K "lists_of") ["size", "lists"] (spF (F0 K) [.v, .v] fn_lists_of) :=
  fn_b (N := N_lists_of) z.d_lists_of sc_lists_of rfl (by decide) (fun _ _ _ _ _ _ us hl => match us, hl with | [_, _], _ => rfl) fun cdv A outer s H E hr =>
    (ds_cons (ds_for (passes_of rfl) rfl (di_enum rfl rfl z.b_enumerate (dv 1)) (pg_tup rfl (pgs_cons (pg_name (i := 2) nd_lists_of rfl (by first | exact .inl rfl | exact .inr rfl)) (pgs_cons (pg_name (i := 3) nd_lists_of rfl (by first | exact .inl rfl | exact .inr rfl)) pgs_nil))) g_two
      (ds_one (ds_if (dt_w (dw_or (dt_not (dt_e rfl (c_call (takes_of rfl rfl rfl rfl) (ok_is_row z) (by decide) hr z.f_is_row rfl (dg_e (dv 3) dg_nil)))) (dw_or1 (dt_cmp op_notN ok_notN (c_call (takes_of rfl rfl rfl rfl) (ok_misplaced z) (by decide) hr z.f_misplaced rfl (dg_e (dv 0) (dg_e (dv 3) dg_nil))) d_non (nomark _))))) (ds_one (ds_raise rfl (takes_of rfl rfl rfl rfl) (xc_BadEntry (k := 4) rfl rfl rfl z hr (by decide)) rfl z.c_BadEntry (da_cons (dv 2) da_nil))) ds_nil)))
      (ds_one (ds_ret (d_cty call_tuple_of (ok_tupleOf) rfl z.b_tuple b_tuple (da_cons (DN.de (dn_comp (own := [("some", 3)]) rfl nd_lists_of (di_seq rfl (dv 1)) (blk_ok [("some", 3)] rfl rfl rfl) g_name (insideN (by decide)) (fun _ _ _ _ _ => (pg_name (i := 3) nd_lists_of rfl (by first | exact .inl rfl | exact .inr rfl))) (fun _ _ _ _ _ => dts_nil) (fun _ _ _ _ _ => (d_cty call_tuple_of (ok_tupleOf) rfl z.b_tuple b_tuple (da_cons (dv 3) da_nil))))) da_nil)))))
/-! shifted -/
abbrev N_shifted : List Str := ["seats", "came", "place", "thing", "fresh", "homes", "mover", "home"]
theorem nd_shifted : N_shifted.Nodup := by decide +kernel
abbrev st_shifted : Stmt := top 19
def g_shifted : SSem := sSeq (sOwn 4 (eStar (eVar 0))) (sSeq (sOwn 5 (eDComp [7] (gV 7) (iAny (eVar 0)) (bYes) (eBin gDGet (eVar 0) (eVar 7)) (eVar 7))) (sSeq (sSet 6 (eBin gDGet (eVar 1) (eVar 2))) (sSeq (sDPut 4 (eVar 2) (eVar 6)) (sSeq (sWhile (bT (eBin gNe (eVar 6) (eVar 3))) (sSeq (sSet 2 (eBinL gDGet 5 (eVar 6))) (sSeq (sSet 6 (eBin gDGet (eVar 1) (eVar 2))) (sDPut 4 (eVar 2) (eVar 6))))) (sRet (eVar 4))))))
def fn_shifted : FSem := fnOf [.v, .v, .v, .v] 8 g_shifted
theorem sc_shifted : FnScope N_shifted ["seats", "came", "place", "thing"] (defScope st_shifted) := ⟨rfl, rfl, rfl, by decide +kernel, rfl, by decide +kernel, by decide +kernel⟩
theorem ok_shifted (z : Z P K mg) : FnB P w K mg base 1 (He.ga K "shifted") ["seats", "came", "place", "thing"] (spF (F0 K) [.v, .v, .v, .v] fn_shifted) :=
  fn_b (N := N_shifted) z.d_shifted sc_shifted rfl (by decide) (fun _ _ _ _ _ _ us hl => match us, hl with | [_, _, _, _], _ => rfl) fun cdv A outer s H E hr =>
    (ds_cons (ds_own (i := 4) nd_shifted rfl (by first | exact .inl rfl | exact .inr rfl) (dn_star (dv 0)))
      (ds_cons (ds_ownDComp (i := 5) (own := [("home", 7)]) rfl nd_shifted rfl rfl (by rfl) (di_any rfl (dv 0)) (blk_ok [("home", 7)] rfl rfl rfl) g_name (insideN (by decide)) (fun _ _ _ _ _ => (pg_name (i := 7) nd_shifted rfl (by first | exact .inl rfl | exact .inr rfl))) (fun _ _ _ _ _ => dts_nil) (fun _ _ _ _ _ => (d_dget (hu_of hr) (dv 0) (dv 7) (fun _ _ => rfl))) (fun _ _ _ _ _ => (dv 7)))
      (ds_cons (ds_set (i := 6) nd_shifted rfl (by first | exact .inl rfl | exact .inr rfl) (d_dget (hu_of hr) (dv 1) (dv 2) (fun _ _ => rfl)))
      (ds_cons (ds_dput (hu_of hr) (pn 4) (dv 2) (dv 6))
      (ds_cons (ds_while (passes_of rfl) (dt_cmp (op_neA rfl (hu64 hr)) ok_ne.ok (dv 6) (dv 3) (nomark _)) (ds_cons (ds_set (i := 2) nd_shifted rfl (by first | exact .inl rfl | exact .inr rfl) (d_dgetL (hu_of hr) (pn 5) (dv 6) (fun _ _ => rfl)))
      (ds_cons (ds_set (i := 6) nd_shifted rfl (by first | exact .inl rfl | exact .inr rfl) (d_dget (hu_of hr) (dv 1) (dv 2) (fun _ _ => rfl)))
      (ds_one (ds_dput (hu_of hr) (pn 4) (dv 2) (dv 6))))))
      (ds_one (ds_ret (dv 4))))))))
/-! placed -/
abbrev N_placed : List Str := ["fits", "seats", "thing", "came", "row", "at", "place", "other"]
theorem nd_placed : N_placed.Nodup := by decide +kernel
abbrev st_placed : Stmt := top 20
def g_placed : SSem := sSeq (sOwn 3 (eDComp [6] (gV 6) (iSeq (eBin gDGet (eVar 0) (eVar 2))) (bYes) (eVar 6) (eVar 2))) (sSeq (sOwn 4 (eUn gListOf (eBin gDGet (eVar 0) (eVar 2)))) (sSeq (sSet 5 (eC (.int 0))) (sSeq (sWhile (bT (eBin gLt0 (eVar 5) (eUnP gLen 4))) (sSeq (sSet 6 (eBinL gIx 4 (eVar 5))) (sSeq (sIf (bT (eBin (gDIn true) (eVar 6) (eVar 1))) (sRet (eCall [.v, .v, .v, .v] fn_shifted (gE (eVar 1) (gE (eVar 3) (gE (eVar 6) (gE (eVar 2) (gNil'))))))) (sNil)) (sSeq (sFor (gV 7) (iSeq (eBin gDGet (eVar 0) (eBin gDGet (eVar 1) (eVar 6)))) (sIf (bT (eBinR (gDIn true) (eVar 7) 3)) (sSeq (sDPut 3 (eVar 7) (eBin gDGet (eVar 1) (eVar 6))) (sAppend' 4 (eVar 7))) (sNil))) (sAug 5 (gII fun i j => some (.int (i + j))) (eC (.int 1))))))) (sRet (eVar 1)))))
def fn_placed : FSem := fnOf [.v, .v, .v] 8 g_placed
theorem sc_placed : FnScope N_placed ["fits", "seats", "thing"] (defScope st_placed) := ⟨rfl, rfl, rfl, by decide +kernel, rfl, by decide +kernel, by decide +kernel⟩
theorem ok_placed (z : Z P K mg) : FnB P w K mg base 2 (He.ga K "placed") ["fits", "seats", "thing"] (spF (F0 K) [.v, .v, .v] fn_placed) :=
  fn_b (N := N_placed) z.d_placed sc_placed rfl (by decide) (fun _ _ _ _ _ _ us hl => match us, hl with | [_, _, _], _ => rfl) fun cdv A outer s H E hr =>
    (ds_cons (ds_ownDComp (i := 3) (own := [("place", 6)]) rfl nd_placed rfl rfl (by rfl) (di_seq rfl (d_dget (hu_of hr) (dv 0) (dv 2) (fun _ _ => rfl))) (blk_ok [("place", 6)] rfl rfl rfl) g_name (insideN (by decide)) (fun _ _ _ _ _ => (pg_name (i := 6) nd_placed rfl (by first | exact .inl rfl | exact .inr rfl))) (fun _ _ _ _ _ => dts_nil) (fun _ _ _ _ _ => (dv 6)) (fun _ _ _ _ _ => (dv 2)))
      (ds_cons (ds_own (i := 4) nd_placed rfl (by first | exact .inl rfl | exact .inr rfl) (dn_listOf rfl rfl rfl z.b_list b_list (d_dget (hu_of hr) (dv 0) (dv 2) (fun _ _ => rfl))))
      (ds_cons (ds_set (i := 5) nd_placed rfl (by first | exact .inl rfl | exact .inr rfl) d_int)
      (ds_cons (ds_while (passes_of rfl) (dt_cmp op_lt ok_B0.ok (dv 5) (d_cbP (call_ln rfl) ok_len rfl z.b_len b_len (pn 4)) (nomark _)) (ds_cons (ds_set (i := 6) nd_placed rfl (by first | exact .inl rfl | exact .inr rfl) (d_ixL rfl (pn 4) (dv 5) (fun _ _ => rfl)))
      (ds_cons (ds_if (dt_dnotin (hu_of hr) (dv 6) (dv 1)) (ds_one (ds_ret (c_call (takes_of rfl rfl rfl rfl) (ok_shifted z) (by decide) hr z.f_shifted rfl (dg_e (dv 1) (dg_e (dv 3) (dg_e (dv 6) (dg_e (dv 2) dg_nil))))))) ds_nil)
      (ds_cons (ds_for (passes_of rfl) rfl (di_seq rfl (d_dget (hu_of hr) (dv 0) (d_dget (hu_of hr) (dv 1) (dv 6) (fun _ _ => rfl)) (fun _ _ => rfl))) (pg_name (i := 7) nd_placed rfl (by first | exact .inl rfl | exact .inr rfl)) g_name
      (ds_one (ds_if (dt_dnotinP (hu_of hr) (dv 7) (pn 3)) (ds_cons (ds_dput (hu_of hr) (pn 3) (dv 7) (d_dget (hu_of hr) (dv 1) (dv 6) (fun _ _ => rfl)))
      (ds_one (ds_append rfl (pn 4) (dv 7)))) ds_nil)))
      (ds_one (ds_aug (i := 5) nd_placed rfl (by first | exact .inl rfl | exact .inr rfl) iop_add ok_I0.ok d_int))))))
      (ds_one (ds_ret (dv 1)))))))
/-! seated -/
abbrev N_seated : List Str := ["lists", "things", "fits", "seats", "x", "place", "some"]
theorem nd_seated : N_seated.Nodup := by decide +kernel
abbrev st_seated : Stmt := top 21
def g_seated : SSem := sSeq (sOwn 2 (eDComp [4] (gV 4) (iSeq (eVar 1)) (bYes) (eVar 4) (eComp [5, 6] (gV2 5 6) (iEnumD (eVar 0)) (bT (eBin (gIn false) (eVar 4) (eVar 6))) (eVar 5)))) (sSeq (sOwn 3 (eDct0)) (sSeq (sFor (gV 4) (iSeq (eVar 1)) (sSet 3 (eCall [.v, .v, .v] fn_placed (gE (eVar 2) (gE (eVar 3) (gE (eVar 4) (gNil'))))))) (sRet (eVar 3))))
def fn_seated : FSem := fnOf [.v, .v] 7 g_seated
theorem sc_seated : FnScope N_seated ["lists", "things"] (defScope st_seated) := ⟨rfl, rfl, rfl, by decide +kernel, rfl, by decide +kernel, by decide +kernel⟩
theorem ok_seated (z : Z P K mg) : FnB P w K mg base 3 (He.ga K "seated") ["lists", "things"] (spF (F0 K) [.v, .v] fn_seated) :=
  fn_b (N := N_seated) z.d_seated sc_seated rfl (by decide) (fun _ _ _ _ _ _ us hl => match us, hl with | [_, _], _ => rfl) fun cdv A outer s H E hr =>
    (ds_cons (ds_ownDComp (i := 2) (own := [("x", 4)]) rfl nd_seated rfl rfl (by rfl) (di_seq rfl (dv 1)) (blk_ok [("x", 4)] rfl rfl rfl) g_name (insideN (by decide)) (fun _ _ _ _ _ => (pg_name (i := 4) nd_seated rfl (by first | exact .inl rfl | exact .inr rfl))) (fun _ _ _ _ _ => dts_nil) (fun _ _ _ _ _ => (dv 4)) (fun _ _ _ _ _ => (DN.de (dn_comp (own := [("place", 5), ("some", 6)]) rfl nd_seated (di_enum rfl rfl z.b_enumerate (dv 0)) (blk_ok [("place", 5), ("some", 6)] rfl rfl rfl) g_two (inside2 (by decide) (by decide)) (fun _ _ _ _ _ => (pg_tup rfl (pgs_cons (pg_name (i := 5) nd_seated rfl (by first | exact .inl rfl | exact .inr rfl)) (pgs_cons (pg_name (i := 6) nd_seated rfl (by first | exact .inl rfl | exact .inr rfl)) pgs_nil)))) (fun _ _ _ _ _ => dts_one (dt_cmp (op_inA rfl (hu65 hr)) (ok_in false).ok (dv 4) (dv 6) rfl)) (fun _ _ _ _ _ => (dv 5))))))
      (ds_cons (ds_own (i := 3) nd_seated rfl (by first | exact .inl rfl | exact .inr rfl) dn_dct0)
      (ds_cons (ds_for (passes_of rfl) rfl (di_seq rfl (dv 1)) (pg_name (i := 4) nd_seated rfl (by first | exact .inl rfl | exact .inr rfl)) g_name
      (ds_one (ds_set (i := 3) nd_seated rfl (by first | exact .inl rfl | exact .inr rfl) (c_call (takes_of rfl rfl rfl rfl) (ok_placed z) (by decide) hr z.f_placed rfl (dg_e (dv 2) (dg_e (dv 3) (dg_e (dv 4) dg_nil)))))))
      (ds_one (ds_ret (dv 3))))))
/-! Lists___init__ -/
abbrev N_Lists___init__ : List Str := ["self", "size", "lists", "__class__"]
theorem nd_Lists___init__ : N_Lists___init__.Nodup := by decide +kernel
abbrev st_Lists___init__ : Stmt := memOf (top 22) 0
def g_Lists___init__ : SSem := sSeq (sExpr (eSup sp_Lists___init__ 0 [.m, .v] fn_Rule___init__ (gE (eVar 1) (gNil')))) (sFldI fc_lists 0 "lists" (eCall [.v, .v] fn_lists_of (gE (eVar 1) (gE (eVar 2) (gNil')))))
def fn_Lists___init__ : FSem := fnOf [.m, .v, .v] 4 g_Lists___init__
theorem sc_Lists___init__ : NdefX.NScope N_Lists___init__ ["self", "size", "lists"] ["__class__"] (defScope st_Lists___init__) := NdefX.nscope_by (by decide +kernel)
theorem ok_Lists___init__ (z : Z P K mg) : FnB P w K mg base 6 (Ma K "Lists" "__init__") ["self", "size", "lists"] (spF (F0 K) [.m, .v, .v] fn_Lists___init__) :=
  fn_bS (N := N_Lists___init__) (D := He.ga K "Lists") z.s_Lists___init__ sc_Lists___init__ rfl (by decide +kernel) z.b_super z.nosuper ⟨_, rfl, rfl⟩ (fun _ _ _ _ _ _ _ us hl => match us, hl with | [_, _, _], _ => rfl) fun cc c A outer s H E hr SX =>
    (dssa_cons (dsa_expr (c_sup rfl (takes_of rfl rfl rfl rfl) SX z.sup_Lists___init__ (ok_Rule___init__ z) (by decide) hr (dg_e (dv 1) dg_nil)))
      (dssa_one (dsa_of (ds_fldI rfl z.fld_lists (pn 0) (c_call (takes_of rfl rfl rfl rfl) (ok_lists_of z) (by decide) hr z.f_lists_of rfl (dg_e (dv 1) (dg_e (dv 2) dg_nil)))))))
/-! Lists__rank -/
abbrev N_Lists__rank : List Str := ["self", "things"]
theorem nd_Lists__rank : N_Lists__rank.Nodup := by decide +kernel
abbrev st_Lists__rank : Stmt := memOf (top 22) 1
def g_Lists__rank : SSem := sRet (eCB (g1 gLen) (aCons (eCall [.v, .v] fn_seated (gE (eUn (gFld fc_lists "lists") (eVar 0)) (gE (eVar 1) (gNil')))) (aNil)))
def fn_Lists__rank : FSem := fnOf [.v, .v] 2 g_Lists__rank
theorem sc_Lists__rank : FnScope N_Lists__rank ["self", "things"] (defScope st_Lists__rank) := ⟨rfl, rfl, rfl, by decide +kernel, rfl, by decide +kernel, by decide +kernel⟩
theorem ok_Lists__rank (z : Z P K mg) : FnB P w K mg base 4 (Ma K "Lists" "_rank") ["self", "things"] (spF (F0 K) [.v, .v] fn_Lists__rank) :=
  fn_b (N := N_Lists__rank) z.d_Lists__rank sc_Lists__rank rfl (by decide) (fun _ _ _ _ _ _ us hl => match us, hl with | [_, _], _ => rfl) fun cdv A outer s H E hr =>
    (ds_one (ds_ret (d_cb (call_ln rfl) (ok_c1 ok_len) rfl z.b_len b_len (da_cons (c_call (takes_of rfl rfl rfl rfl) (ok_seated z) (by decide) hr z.f_seated rfl (dg_e (d_fld rfl z.fld_lists (dv 0)) (dg_e (dv 1) dg_nil))) da_nil))))
/-! places_for -/
abbrev N_places_for : List Str := ["lists", "things", "told", "seats", "homes", "place", "x"]
theorem nd_places_for : N_places_for.Nodup := by decide +kernel
abbrev st_places_for : Stmt := top 23
def g_places_for : SSem := sSeq (sSet 2 (eCall [.v, .v] fn_set_of (gE (eUn (gFld fc_size "size") (eVar 0)) (gE (eVar 1) (gNil'))))) (sSeq (sSet 3 (eCall [.v, .v] fn_seated (gE (eUn (gFld fc_lists "lists") (eVar 0)) (gE (eVar 2) (gNil'))))) (sSeq (sIf (bT (eBin gLt0 (eCB (g1 gLen) (aCons (eVar 3) (aNil))) (eCB (g1 gLen) (aCons (eVar 2) (aNil))))) (sRaise "NotFree" xf_NotFree (aCons (eVar 2) (aNil))) (sNil)) (sSeq (sOwn 4 (eDComp [5] (gV 5) (iAny (eVar 3)) (bYes) (eBin gDGet (eVar 3) (eVar 5)) (eVar 5))) (sRet (eCB (g1 gTupleOf) (aCons (eComp [6] (gV 6) (iSeq (eVar 2)) (bYes) (eBinL gDGet 4 (eVar 6))) (aNil)))))))
def fn_places_for : FSem := fnOf [.v, .v] 7 g_places_for
theorem sc_places_for : FnScope N_places_for ["lists", "things"] (defScope st_places_for) := ⟨rfl, rfl, rfl, by decide +kernel, rfl, by decide +kernel, by decide +kernel⟩
theorem ok_places_for (z : Z P K mg) : FnB P w K mg base 6 (He.ga K "places_for") ["lists", "things"] (spF (F0 K) [.v, .v] fn_places_for) :=
  fn_b (N := N_places_for) z.d_places_for sc_places_for rfl (by decide) (fun _ _ _ _ _ _ us hl => match us, hl with | [_, _], _ => rfl) fun cdv A outer s H E hr =>
    (ds_cons (ds_set (i := 2) nd_places_for rfl (by first | exact .inl rfl | exact .inr rfl) (c_call (takes_of rfl rfl rfl rfl) (ok_set_of z) (by decide) hr z.f_set_of rfl (dg_e (d_fld rfl z.fld_size (dv 0)) (dg_e (dv 1) dg_nil))))
      (ds_cons (ds_set (i := 3) nd_places_for rfl (by first | exact .inl rfl | exact .inr rfl) (c_call (takes_of rfl rfl rfl rfl) (ok_seated z) (by decide) hr z.f_seated rfl (dg_e (d_fld rfl z.fld_lists (dv 0)) (dg_e (dv 2) dg_nil))))
      (ds_cons (ds_if (dt_cmp op_lt ok_B0.ok (d_cb (call_ln rfl) (ok_c1 ok_len) rfl z.b_len b_len (da_cons (dv 3) da_nil)) (d_cb (call_ln rfl) (ok_c1 ok_len) rfl z.b_len b_len (da_cons (dv 2) da_nil)) (nomark _)) (ds_one (ds_raise rfl (takes_of rfl rfl rfl rfl) (xc_NotFree (k := 5) rfl rfl rfl z hr (by decide)) rfl z.c_NotFree (da_cons (dv 2) da_nil))) ds_nil)
      (ds_cons (ds_own (i := 4) nd_places_for rfl (by first | exact .inl rfl | exact .inr rfl) (dn_dcomp (own := [("place", 5)]) rfl nd_places_for (di_any rfl (dv 3)) (blk_ok [("place", 5)] rfl rfl rfl) g_name (insideN (by decide)) (fun _ _ _ _ _ => (pg_name (i := 5) nd_places_for rfl (by first | exact .inl rfl | exact .inr rfl))) (fun _ _ _ _ _ => dts_nil) (fun _ _ _ _ _ => (d_dget (hu_of hr) (dv 3) (dv 5) (fun _ _ => rfl))) (fun _ _ _ _ _ => (dv 5))))
      (ds_one (ds_ret (d_cty call_tuple_of (ok_tupleOf) rfl z.b_tuple b_tuple (da_cons (DN.de (dn_comp (own := [("x", 6)]) rfl nd_places_for (di_seq rfl (dv 2)) (blk_ok [("x", 6)] rfl rfl rfl) g_name (insideN (by decide)) (fun _ _ _ _ _ => (pg_name (i := 6) nd_places_for rfl (by first | exact .inl rfl | exact .inr rfl))) (fun _ _ _ _ _ => dts_nil) (fun _ _ _ _ _ => (d_dgetL (hu_of hr) (pn 4) (dv 6) (fun _ _ => rfl))))) da_nil))))))))
/-! Firsts___init__ -/
abbrev N_Firsts___init__ : List Str := ["self", "size", "k", "__class__"]
theorem nd_Firsts___init__ : N_Firsts___init__.Nodup := by decide +kernel
abbrev st_Firsts___init__ : Stmt := memOf (top 25) 0
def g_Firsts___init__ : SSem := sSeq (sExpr (eSup sp_Firsts___init__ 0 [.m, .v] fn_Rule___init__ (gE (eVar 1) (gNil')))) (sSeq (sIf (bNot (bE (eCall [.v] fn_is_count (gE (eVar 2) (gNil'))))) (sRaise "BadNumber" xf_BadNumber (aCons (eC (.str "k")) (aNil))) (sNil)) (sFldI fc_number 0 "number" (eVar 2)))
def fn_Firsts___init__ : FSem := fnOf [.m, .v, .v] 4 g_Firsts___init__
theorem sc_Firsts___init__ : NdefX.NScope N_Firsts___init__ ["self", "size", "k"] ["__class__"] (defScope st_Firsts___init__) := NdefX.nscope_by (by decide +kernel)
theorem ok_Firsts___init__ (z : Z P K mg) : FnB P w K mg base 6 (Ma K "Firsts" "__init__") ["self", "size", "k"] (spF (F0 K) [.m, .v, .v] fn_Firsts___init__) :=
  fn_bS (N := N_Firsts___init__) (D := He.ga K "Firsts") z.s_Firsts___init__ sc_Firsts___init__ rfl (by decide +kernel) z.b_super z.nosuper ⟨_, rfl, rfl⟩ (fun _ _ _ _ _ _ _ us hl => match us, hl with | [_, _, _], _ => rfl) fun cc c A outer s H E hr SX =>
    (dssa_cons (dsa_expr (c_sup rfl (takes_of rfl rfl rfl rfl) SX z.sup_Firsts___init__ (ok_Rule___init__ z) (by decide) hr (dg_e (dv 1) dg_nil)))
      (dssa_cons (dsa_of (ds_if (dt_not (dt_e rfl (c_call (takes_of rfl rfl rfl rfl) (ok_is_count z) (by decide) hr z.f_is_count rfl (dg_e (dv 2) dg_nil)))) (ds_one (ds_raise rfl (takes_of rfl rfl rfl rfl) (xc_BadNumber (k := 5) rfl rfl rfl z hr (by decide)) rfl z.c_BadNumber (da_cons d_str da_nil))) ds_nil))
      (dssa_one (dsa_of (ds_fldI rfl z.fld_number (pn 0) (dv 2))))))
/-! Firsts__rank -/
abbrev N_Firsts__rank : List Str := ["self", "things", "__class__"]
theorem nd_Firsts__rank : N_Firsts__rank.Nodup := by decide +kernel
abbrev st_Firsts__rank : Stmt := memOf (top 25) 1
def g_Firsts__rank : SSem := sRet (eCB (g2 gMin2) (aCons (eSup sp_Firsts__rank 0 [.v, .v] fn_Rule__rank (gE (eVar 1) (gNil'))) (aCons (eUn (gFld fc_number "number") (eVar 0)) aNil)))
def fn_Firsts__rank : FSem := fnOf [.v, .v] 3 g_Firsts__rank
theorem sc_Firsts__rank : NdefX.NScope N_Firsts__rank ["self", "things"] ["__class__"] (defScope st_Firsts__rank) := NdefX.nscope_by (by decide +kernel)
theorem ok_Firsts__rank (z : Z P K mg) : FnB P w K mg base 2 (Ma K "Firsts" "_rank") ["self", "things"] (spF (F0 K) [.v, .v] fn_Firsts__rank) :=
  fn_bS (N := N_Firsts__rank) (D := He.ga K "Firsts") z.s_Firsts__rank sc_Firsts__rank rfl (by decide +kernel) z.b_super z.nosuper ⟨_, rfl, rfl⟩ (fun _ _ _ _ _ _ _ us hl => match us, hl with | [_, _], _ => rfl) fun cc c A outer s H E hr SX =>
    (dssa_one (dsa_ret (dea_cb2 (call_min2 rfl) (ok_c2 ok_min2) rfl z.b_min b_min (c_sup rfl (takes_of rfl rfl rfl rfl) SX z.sup_Firsts__rank (ok_Rule__rank z) (by decide) hr (dg_e (dv 1) dg_nil)) (d_fld rfl z.fld_number (dv 0)))))
/-! Teams___init__ -/
abbrev N_Teams___init__ : List Str := ["self", "classes", "places", "__class__", "place", "group", "many"]
theorem nd_Teams___init__ : N_Teams___init__.Nodup := by decide +kernel
abbrev st_Teams___init__ : Stmt := memOf (top 26) 0
def g_Teams___init__ : SSem := sSeq (sFor (gV2 4 5) (iEnumD (eVar 1)) (sIf (bNot (bE (eCall [.v, .v] fn_is_thing (gE (eCB (g1 gLen) (aCons (eVar 2) (aNil))) (gE (eVar 5) (gNil')))))) (sRaise "BadEntry" xf_BadEntry (aCons (eVar 4) (aNil))) (sNil))) (sSeq (sFor (gV2 4 6) (iEnumD (eVar 2)) (sIf (bNot (bE (eCall [.v] fn_is_count (gE (eVar 6) (gNil'))))) (sRaise "BadEntry" xf_BadEntry (aCons (eVar 4) (aNil))) (sNil))) (sSeq (sExpr (eSup sp_Teams___init__ 0 [.m, .v] fn_Rule___init__ (gE (eCB (g1 gLen) (aCons (eVar 1) (aNil))) (gNil')))) (sSeq (sFldI fc_classes 0 "classes" (eCB (g1 gTupleOf) (aCons (eVar 1) (aNil)))) (sFldI fc_places 0 "places" (eCB (g1 gTupleOf) (aCons (eVar 2) (aNil)))))))
def fn_Teams___init__ : FSem := fnOf [.m, .v, .v] 7 g_Teams___init__
theorem sc_Teams___init__ : NdefX.NScope N_Teams___init__ ["self", "classes", "places"] ["__class__"] (defScope st_Teams___init__) := NdefX.nscope_by (by decide +kernel)
theorem ok_Teams___init__ (z : Z P K mg) : FnB P w K mg base 6 (Ma K "Teams" "__init__") ["self", "classes", "places"] (spF (F0 K) [.m, .v, .v] fn_Teams___init__) :=
  fn_bS (N := N_Teams___init__) (D := He.ga K "Teams") z.s_Teams___init__ sc_Teams___init__ rfl (by decide +kernel) z.b_super z.nosuper ⟨_, rfl, rfl⟩ (fun _ _ _ _ _ _ _ us hl => match us, hl with | [_, _, _], _ => rfl) fun cc c A outer s H E hr SX =>
    (dssa_cons (dsa_of (ds_for (passes_of rfl) rfl (di_enum rfl rfl z.b_enumerate (dv 1)) (pg_tup rfl (pgs_cons (pg_name (i := 4) nd_Teams___init__ rfl (by first | exact .inl rfl | exact .inr rfl)) (pgs_cons (pg_name (i := 5) nd_Teams___init__ rfl (by first | exact .inl rfl | exact .inr rfl)) pgs_nil))) g_two
      (ds_one (ds_if (dt_not (dt_e rfl (c_call (takes_of rfl rfl rfl rfl) (ok_is_thing z) (by decide) hr z.f_is_thing rfl (dg_e (d_cb (call_ln rfl) (ok_c1 ok_len) rfl z.b_len b_len (da_cons (dv 2) da_nil)) (dg_e (dv 5) dg_nil))))) (ds_one (ds_raise rfl (takes_of rfl rfl rfl rfl) (xc_BadEntry (k := 5) rfl rfl rfl z hr (by decide)) rfl z.c_BadEntry (da_cons (dv 4) da_nil))) ds_nil))))
      (dssa_cons (dsa_of (ds_for (passes_of rfl) rfl (di_enum rfl rfl z.b_enumerate (dv 2)) (pg_tup rfl (pgs_cons (pg_name (i := 4) nd_Teams___init__ rfl (by first | exact .inl rfl | exact .inr rfl)) (pgs_cons (pg_name (i := 6) nd_Teams___init__ rfl (by first | exact .inl rfl | exact .inr rfl)) pgs_nil))) g_two
      (ds_one (ds_if (dt_not (dt_e rfl (c_call (takes_of rfl rfl rfl rfl) (ok_is_count z) (by decide) hr z.f_is_count rfl (dg_e (dv 6) dg_nil)))) (ds_one (ds_raise rfl (takes_of rfl rfl rfl rfl) (xc_BadEntry (k := 5) rfl rfl rfl z hr (by decide)) rfl z.c_BadEntry (da_cons (dv 4) da_nil))) ds_nil))))
      (dssa_cons (dsa_expr (c_sup rfl (takes_of rfl rfl rfl rfl) SX z.sup_Teams___init__ (ok_Rule___init__ z) (by decide) hr (dg_e (d_cb (call_ln rfl) (ok_c1 ok_len) rfl z.b_len b_len (da_cons (dv 1) da_nil)) dg_nil)))
      (dssa_cons (dsa_of (ds_fldI rfl z.fld_classes (pn 0) (d_cty call_tuple_of (ok_tupleOf) rfl z.b_tuple b_tuple (da_cons (dv 1) da_nil))))
      (dssa_one (dsa_of (ds_fldI rfl z.fld_places (pn 0) (d_cty call_tuple_of (ok_tupleOf) rfl z.b_tuple b_tuple (da_cons (dv 2) da_nil)))))))))
/-! Teams__rank -/
abbrev N_Teams__rank : List Str := ["self", "things", "groups", "thing", "group", "many"]
theorem nd_Teams__rank : N_Teams__rank.Nodup := by decide +kernel
abbrev st_Teams__rank : Stmt := memOf (top 26) 1
def g_Teams__rank : SSem := sSeq (sSet 2 (eComp [3] (gV 3) (iSeq (eVar 1)) (bYes) (eBin gIx (eUn (gFld fc_classes "classes") (eVar 0)) (eVar 3)))) (sRet (eCB (g1 gSum) (aCons (eComp [4, 5] (gV2 4 5) (iEnumD (eUn (gFld fc_places "places") (eVar 0))) (bYes) (eCB (g2 gMin2) (aCons (eBM "list" gCount (eVar 2) (eVar 4)) (aCons (eVar 5) (aNil))))) (aNil))))
def fn_Teams__rank : FSem := fnOf [.v, .v] 6 g_Teams__rank
theorem sc_Teams__rank : FnScope N_Teams__rank ["self", "things"] (defScope st_Teams__rank) := ⟨rfl, rfl, rfl, by decide +kernel, rfl, by decide +kernel, by decide +kernel⟩
theorem ok_Teams__rank (z : Z P K mg) : FnB P w K mg base 1 (Ma K "Teams" "_rank") ["self", "things"] (spF (F0 K) [.v, .v] fn_Teams__rank) :=
  fn_b (N := N_Teams__rank) z.d_Teams__rank sc_Teams__rank rfl (by decide) (fun _ _ _ _ _ _ us hl => match us, hl with | [_, _], _ => rfl) fun cdv A outer s H E hr =>
    (ds_cons (ds_set (i := 2) nd_Teams__rank rfl (by first | exact .inl rfl | exact .inr rfl) (DN.de (dn_comp (own := [("thing", 3)]) rfl nd_Teams__rank (di_seq rfl (dv 1)) (blk_ok [("thing", 3)] rfl rfl rfl) g_name (insideN (by decide)) (fun _ _ _ _ _ => (pg_name (i := 3) nd_Teams__rank rfl (by first | exact .inl rfl | exact .inr rfl))) (fun _ _ _ _ _ => dts_nil) (fun _ _ _ _ _ => (d_ix rfl (d_fld rfl z.fld_classes (dv 0)) (dv 3) (fun _ _ => rfl))))))
      (ds_one (ds_ret (d_cb (cr_sum rfl) (ok_c1 ok_sum) rfl z.b_sum b_sum (da_cons (DN.de (dn_comp (own := [("group", 4), ("many", 5)]) rfl nd_Teams__rank (di_enum rfl rfl z.b_enumerate (d_fld rfl z.fld_places (dv 0))) (blk_ok [("group", 4), ("many", 5)] rfl rfl rfl) g_two (inside2 (by decide) (by decide)) (fun _ _ _ _ _ => (pg_tup rfl (pgs_cons (pg_name (i := 4) nd_Teams__rank rfl (by first | exact .inl rfl | exact .inr rfl)) (pgs_cons (pg_name (i := 5) nd_Teams__rank rfl (by first | exact .inl rfl | exact .inr rfl)) pgs_nil)))) (fun _ _ _ _ _ => dts_nil) (fun _ _ _ _ _ => (d_cb (call_min2 rfl) (ok_c2 ok_min2) rfl z.b_min b_min (da_cons (d_count rfl (dv 2) (dv 4)) (da_cons (dv 5) da_nil)))))) da_nil)))))
/-! Works___init__ -/
abbrev N_Works___init__ : List Str := ["self", "days", "__class__", "place", "day"]
theorem nd_Works___init__ : N_Works___init__.Nodup := by decide +kernel
abbrev st_Works___init__ : Stmt := memOf (top 27) 0
def g_Works___init__ : SSem := sSeq (sFor (gV2 3 4) (iEnumD (eVar 1)) (sIf (bNot (bE (eCall [.v] fn_is_count (gE (eVar 4) (gNil'))))) (sRaise "BadEntry" xf_BadEntry (aCons (eVar 3) (aNil))) (sNil))) (sSeq (sExpr (eSup sp_Works___init__ 0 [.m, .v] fn_Rule___init__ (gE (eCB (g1 gLen) (aCons (eVar 1) (aNil))) (gNil')))) (sFldI fc_days 0 "days" (eCB (g1 gTupleOf) (aCons (eVar 1) (aNil)))))
def fn_Works___init__ : FSem := fnOf [.m, .v] 5 g_Works___init__
theorem sc_Works___init__ : NdefX.NScope N_Works___init__ ["self", "days"] ["__class__"] (defScope st_Works___init__) := NdefX.nscope_by (by decide +kernel)
theorem ok_Works___init__ (z : Z P K mg) : FnB P w K mg base 6 (Ma K "Works" "__init__") ["self", "days"] (spF (F0 K) [.m, .v] fn_Works___init__) :=
  fn_bS (N := N_Works___init__) (D := He.ga K "Works") z.s_Works___init__ sc_Works___init__ rfl (by decide +kernel) z.b_super z.nosuper ⟨_, rfl, rfl⟩ (fun _ _ _ _ _ _ _ us hl => match us, hl with | [_, _], _ => rfl) fun cc c A outer s H E hr SX =>
    (dssa_cons (dsa_of (ds_for (passes_of rfl) rfl (di_enum rfl rfl z.b_enumerate (dv 1)) (pg_tup rfl (pgs_cons (pg_name (i := 3) nd_Works___init__ rfl (by first | exact .inl rfl | exact .inr rfl)) (pgs_cons (pg_name (i := 4) nd_Works___init__ rfl (by first | exact .inl rfl | exact .inr rfl)) pgs_nil))) g_two
      (ds_one (ds_if (dt_not (dt_e rfl (c_call (takes_of rfl rfl rfl rfl) (ok_is_count z) (by decide) hr z.f_is_count rfl (dg_e (dv 4) dg_nil)))) (ds_one (ds_raise rfl (takes_of rfl rfl rfl rfl) (xc_BadEntry (k := 5) rfl rfl rfl z hr (by decide)) rfl z.c_BadEntry (da_cons (dv 3) da_nil))) ds_nil))))
      (dssa_cons (dsa_expr (c_sup rfl (takes_of rfl rfl rfl rfl) SX z.sup_Works___init__ (ok_Rule___init__ z) (by decide) hr (dg_e (d_cb (call_ln rfl) (ok_c1 ok_len) rfl z.b_len b_len (da_cons (dv 1) da_nil)) dg_nil)))
      (dssa_one (dsa_of (ds_fldI rfl z.fld_days (pn 0) (d_cty call_tuple_of (ok_tupleOf) rfl z.b_tuple b_tuple (da_cons (dv 1) da_nil)))))))
/-! Works__rank -/
abbrev N_Works__rank : List Str := ["self", "things", "done", "day", "thing"]
theorem nd_Works__rank : N_Works__rank.Nodup := by decide +kernel
abbrev st_Works__rank : Stmt := memOf (top 27) 1
def g_Works__rank : SSem := sSeq (sSet 2 (eC (.int 0))) (sSeq (sFor (gV 3) (iSeq (eCB (g1 gSorted) (aCons (eComp [4] (gV 4) (iSeq (eVar 1)) (bYes) (eBin gIx (eUn (gFld fc_days "days") (eVar 0)) (eVar 4))) (aNil)))) (sIf (bT (eBin gGt (eVar 3) (eVar 2))) (sAug 2 (gII fun i j => some (.int (i + j))) (eC (.int 1))) (sNil))) (sRet (eVar 2)))
def fn_Works__rank : FSem := fnOf [.v, .v] 5 g_Works__rank
theorem sc_Works__rank : FnScope N_Works__rank ["self", "things"] (defScope st_Works__rank) := ⟨rfl, rfl, rfl, by decide +kernel, rfl, by decide +kernel, by decide +kernel⟩
theorem ok_Works__rank (z : Z P K mg) : FnB P w K mg base 1 (Ma K "Works" "_rank") ["self", "things"] (spF (F0 K) [.v, .v] fn_Works__rank) :=
  fn_b (N := N_Works__rank) z.d_Works__rank sc_Works__rank rfl (by decide) (fun _ _ _ _ _ _ us hl => match us, hl with | [_, _], _ => rfl) fun cdv A outer s H E hr =>
    (ds_cons (ds_set (i := 2) nd_Works__rank rfl (by first | exact .inl rfl | exact .inr rfl) d_int)
      (ds_cons (ds_for (passes_of rfl) rfl (di_seq rfl (d_cb cr_sortedI (ok_c1 ok_sorted) rfl z.b_sorted b_sorted (da_cons (DN.de (dn_comp (own := [("thing", 4)]) rfl nd_Works__rank (di_seq rfl (dv 1)) (blk_ok [("thing", 4)] rfl rfl rfl) g_name (insideN (by decide)) (fun _ _ _ _ _ => (pg_name (i := 4) nd_Works__rank rfl (by first | exact .inl rfl | exact .inr rfl))) (fun _ _ _ _ _ => dts_nil) (fun _ _ _ _ _ => (d_ix rfl (d_fld rfl z.fld_days (dv 0)) (dv 4) (fun _ _ => rfl))))) da_nil))) (pg_name (i := 3) nd_Works__rank rfl (by first | exact .inl rfl | exact .inr rfl)) g_name
      (ds_one (ds_if (dt_cmp op_gt ok_B0.ok (dv 3) (dv 2) (nomark _)) (ds_one (ds_aug (i := 2) nd_Works__rank rfl (by first | exact .inl rfl | exact .inr rfl) iop_add ok_I0.ok d_int)) ds_nil)))
      (ds_one (ds_ret (dv 2)))))
/-! _law_pool -/
abbrev N__law_pool : List Str := ["script", "cells", "seed", "cell"]
theorem nd__law_pool : N__law_pool.Nodup := by decide +kernel
abbrev st__law_pool : Stmt := top 29
def g__law_pool : ESem := nSeq (sSet 1 (eComp [3] (gV 3) (iSeq (eSl (eVar 0) (oNo) (oYes (eC (.int 63))))) (bYes) (eCB (g1 gInt) (aCons (eVar 3) (aNil))))) (nSeq (sSet 2 (eC (.int 0))) (nSeq (sFor (gV 3) (iSeq (eVar 1)) (sIf (bT (eBin gLt0 (eCB (g1 gAbs) (aCons (eVar 3) (aNil))) (eC (.int 1000000000000000000)))) (sSet 2 (eBin gMod (eCB (g1 gInt) (aCons (eBin gAdd (eBin gMul (eVar 2) (eC (.int 31))) (eCB (g1 gAbs) (aCons (eVar 3) (aNil)))) (aNil))) (eC (.int 2147483647)))) (sNil))) (eLst (aCons (eVar 1) (aCons (eC (.int 0)) (aCons (eC (.int 0)) (aCons (eVar 2) (aNil))))))))
def fn__law_pool : List D → Option D := fnOfN 1 4 g__law_pool
theorem sc__law_pool : FnScope N__law_pool ["script"] (defScope st__law_pool) := ⟨rfl, rfl, rfl, by decide +kernel, rfl, by decide +kernel, by decide +kernel⟩
theorem ok__law_pool (z : Z P K mg) : FnB P w K mg base 1 (He.ga K "_law_pool") ["script"] (spN (F0 K) 1 fn__law_pool) :=
  fn_bN (N := N__law_pool) z.d__law_pool sc__law_pool rfl (by decide) (fun _ _ _ _ _ _ us hl => match us, hl with | [_], _ => rfl) fun cdv A outer s H E hr =>
    (dsn_cons (W := W0) (ds_setComp (i := 1) (own := [("cell", 3)]) rfl nd__law_pool rfl rfl (by rfl) (di_seq rfl (d_sl rfl (dv 0) do_none (do_some d_int))) (blk_ok [("cell", 3)] rfl rfl rfl) g_name (insideN (by decide)) (fun _ _ _ _ _ => (pg_name (i := 3) nd__law_pool rfl (by first | exact .inl rfl | exact .inr rfl))) (fun _ _ _ _ _ => dts_nil) (fun _ _ _ _ _ => (d_cty call_int1 (ok_c1 ok_int) rfl z.b_int b_int (da_cons (dv 3) da_nil))))
      (dsn_cons (W := W0) (ds_set (i := 2) nd__law_pool rfl (by first | exact .inl rfl | exact .inr rfl) d_int)
      (dsn_cons (W := W0) (ds_for (passes_of rfl) rfl (di_seq rfl (dv 1)) (pg_name (i := 3) nd__law_pool rfl (by first | exact .inl rfl | exact .inr rfl)) g_name
      (ds_one (ds_if (dt_cmp op_lt ok_B0.ok (d_cb call_abs (ok_c1 ok_abs) rfl z.b_abs b_abs (da_cons (dv 3) da_nil)) d_int (nomark _)) (ds_one (ds_set (i := 2) nd__law_pool rfl (by first | exact .inl rfl | exact .inr rfl) (d_op op_modN (ok_I (c := fun _ j => decide (j ≠ 0)) fun _ _ h => of_decide_eq_true h).ok (d_cty call_int1 (ok_c1 ok_int) rfl z.b_int b_int (da_cons (d_op (op_plus rfl) ok_plus (d_op op_times ok_mul (dv 2) d_int) (d_cb call_abs (ok_c1 ok_abs) rfl z.b_abs b_abs (da_cons (dv 3) da_nil))) da_nil)) d_int))) ds_nil)))
      (dsn_ret (W := W0) (dn_lst (da_cons (dv 1) (da_cons d_int (da_cons d_int (da_cons (dv 2) da_nil)))))))))
/-! _law_mixed -/
abbrev N__law_mixed : List Str := ["cell", "place", "one", "two", "three"]
theorem nd__law_mixed : N__law_mixed.Nodup := by decide +kernel
abbrev st__law_mixed : Stmt := top 30
def g__law_mixed : SSem := sSeq (sSet 2 (eBin gMod (eCB (g1 gInt) (aCons (eBin gMul (eVar 0) (eBin gAdd (eC (.int 48271)) (eBin gMul (eC (.int 2)) (eVar 1)))) (aNil))) (eC (.int 2147483647)))) (sSeq (sSet 3 (eBin gMod (eCB (g1 gInt) (aCons (eBin gAdd (eBin gMul (eVar 2) (eVar 2)) (eBin gMul (eC (.int 16807)) (eVar 2))) (aNil))) (eC (.int 2147483629)))) (sSeq (sSet 4 (eBin gMod (eCB (g1 gInt) (aCons (eBin gAdd (eBin gMul (eVar 3) (eC (.int 69621))) (eVar 2)) (aNil))) (eC (.int 2147483587)))) (sRet (eBin gAdd (eBin gMul (eVar 3) (eC (.int 2147483587))) (eVar 4)))))
def fn__law_mixed : FSem := fnOf [.v, .v] 5 g__law_mixed
theorem sc__law_mixed : FnScope N__law_mixed ["cell", "place"] (defScope st__law_mixed) := ⟨rfl, rfl, rfl, by decide +kernel, rfl, by decide +kernel, by decide +kernel⟩
theorem ok__law_mixed (z : Z P K mg) : FnB P w K mg base 1 (He.ga K "_law_mixed") ["cell", "place"] (spF (F0 K) [.v, .v] fn__law_mixed) :=
  fn_b (N := N__law_mixed) z.d__law_mixed sc__law_mixed rfl (by decide) (fun _ _ _ _ _ _ us hl => match us, hl with | [_, _], _ => rfl) fun cdv A outer s H E hr =>
    (ds_cons (ds_set (i := 2) nd__law_mixed rfl (by first | exact .inl rfl | exact .inr rfl) (d_op op_modN (ok_I (c := fun _ j => decide (j ≠ 0)) fun _ _ h => of_decide_eq_true h).ok (d_cty call_int1 (ok_c1 ok_int) rfl z.b_int b_int (da_cons (d_op op_times ok_mul (dv 0) (d_op (op_plus rfl) ok_plus d_int (d_op op_times ok_mul d_int (dv 1)))) da_nil)) d_int))
      (ds_cons (ds_set (i := 3) nd__law_mixed rfl (by first | exact .inl rfl | exact .inr rfl) (d_op op_modN (ok_I (c := fun _ j => decide (j ≠ 0)) fun _ _ h => of_decide_eq_true h).ok (d_cty call_int1 (ok_c1 ok_int) rfl z.b_int b_int (da_cons (d_op (op_plus rfl) ok_plus (d_op op_times ok_mul (dv 2) (dv 2)) (d_op op_times ok_mul d_int (dv 2))) da_nil)) d_int))
      (ds_cons (ds_set (i := 4) nd__law_mixed rfl (by first | exact .inl rfl | exact .inr rfl) (d_op op_modN (ok_I (c := fun _ j => decide (j ≠ 0)) fun _ _ h => of_decide_eq_true h).ok (d_cty call_int1 (ok_c1 ok_int) rfl z.b_int b_int (da_cons (d_op (op_plus rfl) ok_plus (d_op op_times ok_mul (dv 3) d_int) (dv 2)) da_nil)) d_int))
      (ds_one (ds_ret (d_op (op_plus rfl) ok_plus (d_op op_times ok_mul (dv 3) d_int) (dv 4)))))))
/-! _law_draw -/
abbrev N__law_draw : List Str := ["pool", "many", "place", "cell", "rest"]
theorem nd__law_draw : N__law_draw.Nodup := by decide +kernel
abbrev st__law_draw : Stmt := top 31
def g__law_draw : SSem := sSeq (sIf (bT (eBin gEq (eBinL gIx 0 (eC (.int 2))) (eC (.int 0)))) (sSeq (sSet 2 (eBinL gIx 0 (eC (.int 1)))) (sSeq (sSetItem 0 (eC (.int 1)) (eBin gAdd (eVar 2) (eC (.int 1)))) (sSeq (sSet 3 (eBinL gIx 0 (eC (.int 3)))) (sSeq (sIf (bT (eBin gLt0 (eVar 2) (eCB (g1 gLen) (aCons (eBinL gIx 0 (eC (.int 0))) (aNil))))) (sSet 3 (eBin gIx (eBinL gIx 0 (eC (.int 0))) (eVar 2))) (sNil)) (sIf (bT (eBin gLt0 (eCB (g1 gAbs) (aCons (eVar 3) (aNil))) (eC (.int 1000000000000000000)))) (sSetItem 0 (eC (.int 2)) (eCall [.v, .v] fn__law_mixed (gE (eVar 3) (gE (eVar 2) (gNil'))))) (sSetItem 0 (eC (.int 2)) (eCB (g1 gAbs) (aCons (eVar 3) (aNil))))))))) (sNil)) (sSeq (sSet 4 (eBinL gIx 0 (eC (.int 2)))) (sSeq (sSetItem 0 (eC (.int 2)) (eBin gDiv (eVar 4) (eVar 1))) (sRet (eBin gMod (eCB (g1 gInt) (aCons (eVar 4) (aNil))) (eVar 1)))))
def fn__law_draw : FSem := fnOf [.m, .v] 5 g__law_draw
theorem sc__law_draw : FnScope N__law_draw ["pool", "many"] (defScope st__law_draw) := ⟨rfl, rfl, rfl, by decide +kernel, rfl, by decide +kernel, by decide +kernel⟩
theorem ok__law_draw (z : Z P K mg) : FnB P w K mg base 2 (He.ga K "_law_draw") ["pool", "many"] (spF (F0 K) [.m, .v] fn__law_draw) :=
  fn_b (N := N__law_draw) z.d__law_draw sc__law_draw rfl (by decide) (fun _ _ _ _ _ _ us hl => match us, hl with | [_, _], _ => rfl) fun cdv A outer s H E hr =>
    (ds_cons (ds_if (dt_cmp (op_eqA rfl (hu64 hr)) ok_eq.ok (d_ixL rfl (pn 0) d_int (fun _ _ => rfl)) d_int (nomark _)) (ds_cons (ds_set (i := 2) nd__law_draw rfl (by first | exact .inl rfl | exact .inr rfl) (d_ixL rfl (pn 0) d_int (fun _ _ => rfl)))
      (ds_cons (ds_setItem (pn 0) d_int (d_op (op_plus rfl) ok_plus (dv 2) d_int))
      (ds_cons (ds_set (i := 3) nd__law_draw rfl (by first | exact .inl rfl | exact .inr rfl) (d_ixL rfl (pn 0) d_int (fun _ _ => rfl)))
      (ds_cons (ds_if (dt_cmp op_lt ok_B0.ok (dv 2) (d_cb (call_ln rfl) (ok_c1 ok_len) rfl z.b_len b_len (da_cons (d_ixL rfl (pn 0) d_int (fun _ _ => rfl)) da_nil)) (nomark _)) (ds_one (ds_set (i := 3) nd__law_draw rfl (by first | exact .inl rfl | exact .inr rfl) (d_ix rfl (d_ixL rfl (pn 0) d_int (fun _ _ => rfl)) (dv 2) (fun _ _ => rfl)))) ds_nil)
      (ds_one (ds_if (dt_cmp op_lt ok_B0.ok (d_cb call_abs (ok_c1 ok_abs) rfl z.b_abs b_abs (da_cons (dv 3) da_nil)) d_int (nomark _)) (ds_one (ds_setItem (pn 0) d_int (c_call (takes_of rfl rfl rfl rfl) (ok__law_mixed z) (by decide) hr z.f__law_mixed rfl (dg_e (dv 3) (dg_e (dv 2) dg_nil))))) (ds_one (ds_setItem (pn 0) d_int (d_cb call_abs (ok_c1 ok_abs) rfl z.b_abs b_abs (da_cons (dv 3) da_nil)))))))))) ds_nil)
      (ds_cons (ds_set (i := 4) nd__law_draw rfl (by first | exact .inl rfl | exact .inr rfl) (d_ixL rfl (pn 0) d_int (fun _ _ => rfl)))
      (ds_cons (ds_setItem (pn 0) d_int (d_op op_fdivN (ok_I cDiv_ok).ok (dv 4) (dv 1)))
      (ds_one (ds_ret (d_op op_modN (ok_I (c := fun _ j => decide (j ≠ 0)) fun _ _ h => of_decide_eq_true h).ok (d_cty call_int1 (ok_c1 ok_int) rfl z.b_int b_int (da_cons (dv 4) da_nil)) (dv 1)))))))
/-! _law_digits -/
abbrev N__law_digits : List Str := ["number", "base", "many", "row", "k"]
theorem nd__law_digits : N__law_digits.Nodup := by decide +kernel
abbrev st__law_digits : Stmt := top 32
def g__law_digits : SSem := sSeq (sOwn 3 (eLst (aNil))) (sSeq (sFor (gV 4) (iArg rng1 (aCons (eVar 2) (aNil))) (sSeq (sAppend' 3 (eBin gMod (eCB (g1 gInt) (aCons (eVar 0) (aNil))) (eVar 1))) (sSet 0 (eBin gDiv (eVar 0) (eVar 1))))) (sRet (eCB (g1 gTupleOf) (aCons (eVar 3) (aNil)))))
def fn__law_digits : FSem := fnOf [.v, .v, .v] 5 g__law_digits
theorem sc__law_digits : FnScope N__law_digits ["number", "base", "many"] (defScope st__law_digits) := ⟨rfl, rfl, rfl, by decide +kernel, rfl, by decide +kernel, by decide +kernel⟩
theorem ok__law_digits (z : Z P K mg) : FnB P w K mg base 1 (He.ga K "_law_digits") ["number", "base", "many"] (spF (F0 K) [.v, .v, .v] fn__law_digits) :=
  fn_b (N := N__law_digits) z.d__law_digits sc__law_digits rfl (by decide) (fun _ _ _ _ _ _ us hl => match us, hl with | [_, _, _], _ => rfl) fun cdv A outer s H E hr =>
    (ds_cons (ds_own (i := 3) nd__law_digits rfl (by first | exact .inl rfl | exact .inr rfl) (dn_lst da_nil))
      (ds_cons (ds_for (passes_of rfl) rfl (di_range1 rfl z.b_range (da_cons (dv 2) da_nil)) (pg_name (i := 4) nd__law_digits rfl (by first | exact .inl rfl | exact .inr rfl)) g_name
      (ds_cons (ds_append rfl (pn 3) (d_op op_modN (ok_I (c := fun _ j => decide (j ≠ 0)) fun _ _ h => of_decide_eq_true h).ok (d_cty call_int1 (ok_c1 ok_int) rfl z.b_int b_int (da_cons (dv 0) da_nil)) (dv 1)))
      (ds_one (ds_set (i := 0) nd__law_digits rfl (by first | exact .inl rfl | exact .inr rfl) (d_op op_fdivN (ok_I cDiv_ok).ok (dv 0) (dv 1))))))
      (ds_one (ds_ret (d_cty call_tuple_of (ok_tupleOf) rfl z.b_tuple b_tuple (da_cons (dv 3) da_nil))))))
/-! _law_number -/
abbrev N__law_number : List Str := ["actual", "due"]
theorem nd__law_number : N__law_number.Nodup := by decide +kernel
abbrev st__law_number : Stmt := top 33
def g__law_number : SSem := sRet (eAnd (eUn (gIsi "int") (eVar 0)) (eAnd (eNot (eUn (gIsi "bool") (eVar 0))) (eBin gEq (eVar 0) (eVar 1))))
def fn__law_number : FSem := fnOf [.v, .v] 2 g__law_number
theorem sc__law_number : FnScope N__law_number ["actual", "due"] (defScope st__law_number) := ⟨rfl, rfl, rfl, by decide +kernel, rfl, by decide +kernel, by decide +kernel⟩
theorem ok__law_number (z : Z P K mg) : FnBI P w K mg base 1 (He.ga K "_law_number") ["actual", "due"] (spF (F0 K) [.v, .v] fn__law_number) :=
  fn_bI (N := N__law_number) z.d__law_number sc__law_number rfl (by decide) (fun _ _ _ _ _ _ us hl => match us, hl with | [_, _], _ => rfl) fun cdv A outer s H E hr =>
    (ds_one (ds_ret (de_and rfl (de_isi rfl rfl z.b_isinstance rfl z.b_int b_int (dv 0)) (de_and rfl (de_not rfl (de_isi rfl rfl z.b_isinstance rfl z.b_bool b_bool (dv 0))) (de_one (d_cmp (op_eqA rfl (hu64H hr)) ok_eq.ok (dv 0) (dv 1) (nomark _)))))))
/-! _law_subset -/
abbrev N__law_subset : List Str := ["pool", "size", "marks", "x"]
theorem nd__law_subset : N__law_subset.Nodup := by decide +kernel
abbrev st__law_subset : Stmt := top 34
def g__law_subset : SSem := sSeq (sSet 2 (eCall [.v, .v, .v] fn__law_digits (gE (eCall [.m, .v] fn__law_draw (gL 0 (gE (eC (.int 4096)) (gNil')))) (gE (eC (.int 2)) (gE (eVar 1) (gNil')))))) (sRet (eCB (g1 gTupleOf) (aCons (eComp [3] (gV 3) (iArg rng1 (aCons (eVar 1) (aNil))) (bT (eBin gEq (eBin gIx (eVar 2) (eVar 3)) (eC (.int 1)))) (eVar 3)) (aNil))))
def fn__law_subset : FSem := fnOf [.m, .v] 4 g__law_subset
theorem sc__law_subset : FnScope N__law_subset ["pool", "size"] (defScope st__law_subset) := ⟨rfl, rfl, rfl, by decide +kernel, rfl, by decide +kernel, by decide +kernel⟩
theorem ok__law_subset (z : Z P K mg) : FnB P w K mg base 3 (He.ga K "_law_subset") ["pool", "size"] (spF (F0 K) [.m, .v] fn__law_subset) :=
  fn_b (N := N__law_subset) z.d__law_subset sc__law_subset rfl (by decide) (fun _ _ _ _ _ _ us hl => match us, hl with | [_, _], _ => rfl) fun cdv A outer s H E hr =>
    (ds_cons (ds_set (i := 2) nd__law_subset rfl (by first | exact .inl rfl | exact .inr rfl) (c_call (takes_of rfl rfl rfl rfl) (ok__law_digits z) (by decide) hr z.f__law_digits rfl (dg_e (c_call (takes_of rfl rfl rfl rfl) (ok__law_draw z) (by decide) hr z.f__law_draw rfl (dg_l 0 (pn 0) (dg_e d_int dg_nil))) (dg_e d_int (dg_e (dv 1) dg_nil)))))
      (ds_one (ds_ret (d_cty call_tuple_of (ok_tupleOf) rfl z.b_tuple b_tuple (da_cons (DN.de (dn_comp (own := [("x", 3)]) rfl nd__law_subset (di_range1 rfl z.b_range (da_cons (dv 1) da_nil)) (blk_ok [("x", 3)] rfl rfl rfl) g_name (insideN (by decide)) (fun _ _ _ _ _ => (pg_name (i := 3) nd__law_subset rfl (by first | exact .inl rfl | exact .inr rfl))) (fun _ _ _ _ _ => dts_one (dt_cmp (op_eqA rfl (hu64 hr)) ok_eq.ok (d_ix rfl (dv 2) (dv 3) (fun _ _ => rfl)) d_int (nomark _))) (fun _ _ _ _ _ => (dv 3)))) da_nil)))))
/-! _law_subsets -/
abbrev N__law_subsets : List Str := ["size", "rows", "x", "row"]
theorem nd__law_subsets : N__law_subsets.Nodup := by decide +kernel
abbrev st__law_subsets : Stmt := top 35
def g__law_subsets : SSem := sSeq (sSet 1 (eLst (aCons (eTup (aNil)) (aNil)))) (sSeq (sFor (gV 2) (iArg rng1 (aCons (eVar 0) (aNil))) (sSet 1 (eBin gAdd (eVar 1) (eComp [3] (gV 3) (iSeq (eVar 1)) (bYes) (eBin gAdd (eVar 3) (eTup (aCons (eVar 2) (aNil)))))))) (sRet (eVar 1)))
def fn__law_subsets : FSem := fnOf [.v] 4 g__law_subsets
theorem sc__law_subsets : FnScope N__law_subsets ["size"] (defScope st__law_subsets) := ⟨rfl, rfl, rfl, by decide +kernel, rfl, by decide +kernel, by decide +kernel⟩
theorem ok__law_subsets (z : Z P K mg) : FnB P w K mg base 1 (He.ga K "_law_subsets") ["size"] (spF (F0 K) [.v] fn__law_subsets) :=
  fn_b (N := N__law_subsets) z.d__law_subsets sc__law_subsets rfl (by decide) (fun _ _ _ _ _ _ us hl => match us, hl with | [_], _ => rfl) fun cdv A outer s H E hr =>
    (ds_cons (ds_set (i := 1) nd__law_subsets rfl (by first | exact .inl rfl | exact .inr rfl) (de_lst (da_cons (de_tup da_nil) da_nil)))
      (ds_cons (ds_for (passes_of rfl) rfl (di_range1 rfl z.b_range (da_cons (dv 0) da_nil)) (pg_name (i := 2) nd__law_subsets rfl (by first | exact .inl rfl | exact .inr rfl)) g_name
      (ds_one (ds_set (i := 1) nd__law_subsets rfl (by first | exact .inl rfl | exact .inr rfl) (d_op (op_plus rfl) ok_plus (dv 1) (DN.de (dn_comp (own := [("row", 3)]) rfl nd__law_subsets (di_seq rfl (dv 1)) (blk_ok [("row", 3)] rfl rfl rfl) g_name (insideN (by decide)) (fun _ _ _ _ _ => (pg_name (i := 3) nd__law_subsets rfl (by first | exact .inl rfl | exact .inr rfl))) (fun _ _ _ _ _ => dts_nil) (fun _ _ _ _ _ => (d_op (op_plus rfl) ok_plus (dv 3) (de_tup (da_cons (dv 2) da_nil))))))))))
      (ds_one (ds_ret (dv 1)))))
/-! _law_counted -/
abbrev N__law_counted : List Str := ["kind", "numbers", "some", "rows", "size", "x", "c", "t", "day"]
theorem nd__law_counted : N__law_counted.Nodup := by decide +kernel
abbrev st__law_counted : Stmt := top 36
def g__law_counted : SSem := sSeq (sSet 3 (eComp [5] (gV 5) (iSeq (eVar 2)) (bYes) (eBin gIx (eBin gIx (eVar 1) (eC (.int 1))) (eVar 5)))) (sSeq (sIf (bT (eBin gEq (eVar 0) (eC (.int 0)))) (sRet (eCB (g2 gMin2) (aCons (eBin gIx (eVar 1) (eC (.int 0))) (aCons (eCB (g1 gLen) (aCons (eVar 2) (aNil))) (aNil))))) (sNil)) (sSeq (sIf (bT (eBin gEq (eVar 0) (eC (.int 1)))) (sRet (eCB (g1 gSum) (aCons (eComp [6] (gV 6) (iArg rng1 (aCons (eCB (g1 gLen) (aCons (eBin gIx (eVar 1) (eC (.int 0))) (aNil))) (aNil))) (bYes) (eCB (g2 gMin2) (aCons (eBin gIx (eBin gIx (eVar 1) (eC (.int 0))) (eVar 6)) (aCons (eBM "list" gCount (eVar 3) (eVar 6)) (aNil))))) (aNil)))) (sNil)) (sSeq (sSet 4 (eCB (g1 gLen) (aCons (eBin gIx (eVar 1) (eC (.int 1))) (aNil)))) (sRet (eCB (g1 gMin1) (aCons (eComp [7] (gV 7) (iArg rng1 (aCons (eBin gAdd (eVar 4) (eC (.int 1))) (aNil))) (bYes) (eBin gAdd (eVar 7) (eCB (g1 gLen) (aCons (eComp [8] (gV 8) (iSeq (eVar 3)) (bT (eBin gGt (eVar 8) (eVar 7))) (eVar 8)) (aNil))))) (aNil)))))))
def fn__law_counted : FSem := fnOf [.v, .v, .v] 9 g__law_counted
theorem sc__law_counted : FnScope N__law_counted ["kind", "numbers", "some"] (defScope st__law_counted) := ⟨rfl, rfl, rfl, by decide +kernel, rfl, by decide +kernel, by decide +kernel⟩
theorem ok__law_counted (z : Z P K mg) : FnB P w K mg base 1 (He.ga K "_law_counted") ["kind", "numbers", "some"] (spF (F0 K) [.v, .v, .v] fn__law_counted) :=
  fn_b (N := N__law_counted) z.d__law_counted sc__law_counted rfl (by decide) (fun _ _ _ _ _ _ us hl => match us, hl with | [_, _, _], _ => rfl) fun cdv A outer s H E hr =>
    (ds_cons (ds_set (i := 3) nd__law_counted rfl (by first | exact .inl rfl | exact .inr rfl) (DN.de (dn_comp (own := [("x", 5)]) rfl nd__law_counted (di_seq rfl (dv 2)) (blk_ok [("x", 5)] rfl rfl rfl) g_name (insideN (by decide)) (fun _ _ _ _ _ => (pg_name (i := 5) nd__law_counted rfl (by first | exact .inl rfl | exact .inr rfl))) (fun _ _ _ _ _ => dts_nil) (fun _ _ _ _ _ => (d_ix rfl (d_ix rfl (dv 1) d_int (fun _ _ => rfl)) (dv 5) (fun _ _ => rfl))))))
      (ds_cons (ds_if (dt_cmp (op_eqA rfl (hu64 hr)) ok_eq.ok (dv 0) d_int (nomark _)) (ds_one (ds_ret (d_cb (call_min2 rfl) (ok_c2 ok_min2) rfl z.b_min b_min (da_cons (d_ix rfl (dv 1) d_int (fun _ _ => rfl)) (da_cons (d_cb (call_ln rfl) (ok_c1 ok_len) rfl z.b_len b_len (da_cons (dv 2) da_nil)) da_nil))))) ds_nil)
      (ds_cons (ds_if (dt_cmp (op_eqA rfl (hu64 hr)) ok_eq.ok (dv 0) d_int (nomark _)) (ds_one (ds_ret (d_cb (cr_sum rfl) (ok_c1 ok_sum) rfl z.b_sum b_sum (da_cons (DN.de (dn_comp (own := [("c", 6)]) rfl nd__law_counted (di_range1 rfl z.b_range (da_cons (d_cb (call_ln rfl) (ok_c1 ok_len) rfl z.b_len b_len (da_cons (d_ix rfl (dv 1) d_int (fun _ _ => rfl)) da_nil)) da_nil)) (blk_ok [("c", 6)] rfl rfl rfl) g_name (insideN (by decide)) (fun _ _ _ _ _ => (pg_name (i := 6) nd__law_counted rfl (by first | exact .inl rfl | exact .inr rfl))) (fun _ _ _ _ _ => dts_nil) (fun _ _ _ _ _ => (d_cb (call_min2 rfl) (ok_c2 ok_min2) rfl z.b_min b_min (da_cons (d_ix rfl (d_ix rfl (dv 1) d_int (fun _ _ => rfl)) (dv 6) (fun _ _ => rfl)) (da_cons (d_count rfl (dv 3) (dv 6)) da_nil)))))) da_nil)))) ds_nil)
      (ds_cons (ds_set (i := 4) nd__law_counted rfl (by first | exact .inl rfl | exact .inr rfl) (d_cb (call_ln rfl) (ok_c1 ok_len) rfl z.b_len b_len (da_cons (d_ix rfl (dv 1) d_int (fun _ _ => rfl)) da_nil)))
      (ds_one (ds_ret (d_cb (cr_min rfl) (ok_c1 ok_min1) rfl z.b_min b_min (da_cons (DN.de (dn_comp (own := [("t", 7)]) rfl nd__law_counted (di_range1 rfl z.b_range (da_cons (d_op (op_plus rfl) ok_plus (dv 4) d_int) da_nil)) (blk_ok [("t", 7)] rfl rfl rfl) g_name (insideN (by decide)) (fun _ _ _ _ _ => (pg_name (i := 7) nd__law_counted rfl (by first | exact .inl rfl | exact .inr rfl))) (fun _ _ _ _ _ => dts_nil) (fun _ _ _ _ _ => (d_op (op_plus rfl) ok_plus (dv 7) (d_cb (call_ln rfl) (ok_c1 ok_len) rfl z.b_len b_len (da_cons (DN.de (dn_comp (own := [("day", 8)]) rfl nd__law_counted (di_seq rfl (dv 3)) (blk_ok [("day", 8)] rfl rfl rfl) g_name (insideN (by decide)) (fun _ _ _ _ _ => (pg_name (i := 8) nd__law_counted rfl (by first | exact .inl rfl | exact .inr rfl))) (fun _ _ _ _ _ => dts_one (dt_cmp op_gt ok_B0.ok (dv 8) (dv 7) (nomark _))) (fun _ _ _ _ _ => (dv 8)))) da_nil)))))) da_nil))))))))
/-! _law_told -/
abbrev N__law_told : List Str := ["pool", "kind", "size", "things", "k", "places", "classes", "lists", "c", "some", "turn", "days", "x", "t"]
theorem nd__law_told : N__law_told.Nodup := by decide +kernel
abbrev st__law_told : Stmt := top 37
def g__law_told : SSem := sSeq (sSet 3 (eUn (gRng1 .tup) (eVar 2))) (sSeq (sIf (bT (eBin gEq (eVar 1) (eC (.int 0)))) (sSeq (sSet 4 (eCall [.m, .v] fn__law_draw (gL 0 (gE (eBin gAdd (eVar 2) (eC (.int 3))) (gNil'))))) (sRet (eTup (aCons (eTup (aCons (eVar 4) (aCons (eBin gMul (eLst (aCons (eC (.int 0)) (aNil))) (eVar 2)) (aNil)))) (aCons (eMake "Firsts" 2 fn_Firsts___init__ (aCons (eVar 2) (aCons (eVar 4) (aNil)))) (aCons (eComp [10] (gV 10) (iArg rng1 (aCons (eVar 4) (aNil))) (bYes) (eVar 3)) (aNil))))))) (sNil)) (sSeq (sIf (bT (eBin gEq (eVar 1) (eC (.int 1)))) (sSeq (sSet 5 (eComp [8] (gV 8) (iArg rng1 (aCons (eBin gAdd (eC (.int 1)) (eCall [.m, .v] fn__law_draw (gL 0 (gE (eC (.int 3)) (gNil'))))) (aNil))) (bYes) (eBin gIx (eLst (aCons (eC (.int 1)) (aCons (eC (.int 2)) (aCons (eC (.int 0)) (aCons (eC (.int 3)) (aNil)))))) (eCall [.m, .v] fn__law_draw (gL 0 (gE (eC (.int 4)) (gNil'))))))) (sSeq (sSet 6 (eComp [12] (gV 12) (iArg rng1 (aCons (eVar 2) (aNil))) (bYes) (eCall [.m, .v] fn__law_draw (gL 0 (gE (eCB (g1 gLen) (aCons (eVar 5) (aNil))) (gNil')))))) (sSeq (sOwn 7 (eLst (aNil))) (sSeq (sFor (gV 8) (iArg rng1 (aCons (eCB (g1 gLen) (aCons (eVar 5) (aNil))) (aNil))) (sSeq (sSet 9 (eCB (g1 gTupleOf) (aCons (eComp [12] (gV 12) (iSeq (eVar 3)) (bT (eBin gEq (eBin gIx (eVar 6) (eVar 12)) (eVar 8))) (eVar 12)) (aNil)))) (sFor (gV 10) (iArg rng1 (aCons (eBin gIx (eVar 5) (eVar 8)) (aNil))) (sAppend' 7 (eVar 9))))) (sRet (eTup (aCons (eTup (aCons (eVar 5) (aCons (eVar 6) (aNil)))) (aCons (eMake "Teams" 2 fn_Teams___init__ (aCons (eVar 6) (aCons (eVar 5) (aNil)))) (aCons (eVar 7) (aNil)))))))))) (sNil)) (sSeq (sSet 11 (eComp [12] (gV 12) (iArg rng1 (aCons (eVar 2) (aNil))) (bYes) (eCall [.m, .v] fn__law_draw (gL 0 (gE (eBin gAdd (eVar 2) (eC (.int 2))) (gNil')))))) (sSeq (sOwn 7 (eComp [13] (gV 13) (iArg rng2 (aCons (eC (.int 1)) (aCons (eBin gAdd (eVar 2) (eC (.int 1))) (aNil)))) (bYes) (eCB (g1 gTupleOf) (aCons (eComp [12] (gV 12) (iSeq (eVar 3)) (bT (eBin gGe (eBin gIx (eVar 11) (eVar 12)) (eVar 13))) (eVar 12)) (aNil))))) (sRet (eTup (aCons (eTup (aCons (eC (.int 0)) (aCons (eVar 11) (aNil)))) (aCons (eMake "Works" 1 fn_Works___init__ (aCons (eVar 11) (aNil))) (aCons (eVar 7) (aNil))))))))))
def fn__law_told : FSem := fnOf [.m, .v, .v] 14 g__law_told
theorem sc__law_told : FnScope N__law_told ["pool", "kind", "size"] (defScope st__law_told) := ⟨rfl, rfl, rfl, by decide +kernel, rfl, by decide +kernel, by decide +kernel⟩
theorem ok__law_told (z : Z P K mg) : FnB P w K mg base 8 (He.ga K "_law_told") ["pool", "kind", "size"] (spF (F0 K) [.m, .v, .v] fn__law_told) :=
  fn_b (N := N__law_told) z.d__law_told sc__law_told rfl (by decide) (fun _ _ _ _ _ _ us hl => match us, hl with | [_, _, _], _ => rfl) fun cdv A outer s H E hr =>
    (ds_cons (ds_set (i := 3) nd__law_told rfl (by first | exact .inl rfl | exact .inr rfl) (de_tupRange1 rfl rfl z.b_tuple rfl z.b_range (dv 2)))
      (ds_cons (ds_if (dt_cmp (op_eqA rfl (hu64 hr)) ok_eq.ok (dv 1) d_int (nomark _)) (ds_cons (ds_set (i := 4) nd__law_told rfl (by first | exact .inl rfl | exact .inr rfl) (c_call (takes_of rfl rfl rfl rfl) (ok__law_draw z) (by decide) hr z.f__law_draw rfl (dg_l 0 (pn 0) (dg_e (d_op (op_plus rfl) ok_plus (dv 2) d_int) dg_nil))))
      (ds_one (ds_ret (de_tup (da_cons (de_tup (da_cons (dv 4) (da_cons (d_op op_times ok_mul (de_lst (da_cons d_int da_nil)) (dv 2)) da_nil))) (da_cons (c_make (takes_of rfl rfl rfl rfl) z.mk_Firsts (ok_Firsts___init__ z) (by decide) hr z.c_Firsts rfl (da_cons (dv 2) (da_cons (dv 4) da_nil))) (da_cons (DN.de (dn_comp (own := [("turn", 10)]) rfl nd__law_told (di_range1 rfl z.b_range (da_cons (dv 4) da_nil)) (blk_ok [("turn", 10)] rfl rfl rfl) g_name (insideN (by decide)) (fun _ _ _ _ _ => (pg_name (i := 10) nd__law_told rfl (by first | exact .inl rfl | exact .inr rfl))) (fun _ _ _ _ _ => dts_nil) (fun _ _ _ _ _ => (dv 3)))) da_nil))))))) ds_nil)
      (ds_cons (ds_if (dt_cmp (op_eqA rfl (hu64 hr)) ok_eq.ok (dv 1) d_int (nomark _)) (ds_cons (ds_set (i := 5) nd__law_told rfl (by first | exact .inl rfl | exact .inr rfl) (DN.de (dn_comp (own := [("c", 8)]) rfl nd__law_told (di_range1 rfl z.b_range (da_cons (d_op (op_plus rfl) ok_plus d_int (c_call (takes_of rfl rfl rfl rfl) (ok__law_draw z) (by decide) hr z.f__law_draw rfl (dg_l 0 (pn 0) (dg_e d_int dg_nil)))) da_nil)) (blk_ok [("c", 8)] rfl rfl rfl) g_name (insideN (by decide)) (fun _ _ _ _ _ => (pg_name (i := 8) nd__law_told rfl (by first | exact .inl rfl | exact .inr rfl))) (fun _ _ _ _ _ => dts_nil) (fun _ _ _ _ _ => (d_ix rfl (de_lst (da_cons d_int (da_cons d_int (da_cons d_int (da_cons d_int da_nil))))) (c_call takes0 (ok__law_draw z) (by decide) hr z.f__law_draw rfl (dg_l 0 (pn 0) (dg_e d_int dg_nil))) (fun _ _ => rfl))))))
      (ds_cons (ds_set (i := 6) nd__law_told rfl (by first | exact .inl rfl | exact .inr rfl) (DN.de (dn_comp (own := [("x", 12)]) rfl nd__law_told (di_range1 rfl z.b_range (da_cons (dv 2) da_nil)) (blk_ok [("x", 12)] rfl rfl rfl) g_name (insideN (by decide)) (fun _ _ _ _ _ => (pg_name (i := 12) nd__law_told rfl (by first | exact .inl rfl | exact .inr rfl))) (fun _ _ _ _ _ => dts_nil) (fun _ _ _ _ _ => (c_call takes0 (ok__law_draw z) (by decide) hr z.f__law_draw rfl (dg_l 0 (pn 0) (dg_e (d_cb (call_ln rfl) (ok_c1 ok_len) rfl z.b_len b_len (da_cons (dv 5) da_nil)) dg_nil)))))))
      (ds_cons (ds_own (i := 7) nd__law_told rfl (by first | exact .inl rfl | exact .inr rfl) (dn_lst da_nil))
      (ds_cons (ds_for (passes_of rfl) rfl (di_range1 rfl z.b_range (da_cons (d_cb (call_ln rfl) (ok_c1 ok_len) rfl z.b_len b_len (da_cons (dv 5) da_nil)) da_nil)) (pg_name (i := 8) nd__law_told rfl (by first | exact .inl rfl | exact .inr rfl)) g_name
      (ds_cons (ds_set (i := 9) nd__law_told rfl (by first | exact .inl rfl | exact .inr rfl) (d_cty call_tuple_of (ok_tupleOf) rfl z.b_tuple b_tuple (da_cons (DN.de (dn_comp (own := [("x", 12)]) rfl nd__law_told (di_seq rfl (dv 3)) (blk_ok [("x", 12)] rfl rfl rfl) g_name (insideN (by decide)) (fun _ _ _ _ _ => (pg_name (i := 12) nd__law_told rfl (by first | exact .inl rfl | exact .inr rfl))) (fun _ _ _ _ _ => dts_one (dt_cmp (op_eqA rfl (hu64 hr)) ok_eq.ok (d_ix rfl (dv 6) (dv 12) (fun _ _ => rfl)) (dv 8) (nomark _))) (fun _ _ _ _ _ => (dv 12)))) da_nil)))
      (ds_one (ds_for (passes_of rfl) rfl (di_range1 rfl z.b_range (da_cons (d_ix rfl (dv 5) (dv 8) (fun _ _ => rfl)) da_nil)) (pg_name (i := 10) nd__law_told rfl (by first | exact .inl rfl | exact .inr rfl)) g_name
      (ds_one (ds_append rfl (pn 7) (dv 9)))))))
      (ds_one (ds_ret (de_tup (da_cons (de_tup (da_cons (dv 5) (da_cons (dv 6) da_nil))) (da_cons (c_make (takes_of rfl rfl rfl rfl) z.mk_Teams (ok_Teams___init__ z) (by decide) hr z.c_Teams rfl (da_cons (dv 6) (da_cons (dv 5) da_nil))) (da_cons (dv 7) da_nil)))))))))) ds_nil)
      (ds_cons (ds_set (i := 11) nd__law_told rfl (by first | exact .inl rfl | exact .inr rfl) (DN.de (dn_comp (own := [("x", 12)]) rfl nd__law_told (di_range1 rfl z.b_range (da_cons (dv 2) da_nil)) (blk_ok [("x", 12)] rfl rfl rfl) g_name (insideN (by decide)) (fun _ _ _ _ _ => (pg_name (i := 12) nd__law_told rfl (by first | exact .inl rfl | exact .inr rfl))) (fun _ _ _ _ _ => dts_nil) (fun _ _ _ _ _ => (c_call takes0 (ok__law_draw z) (by decide) hr z.f__law_draw rfl (dg_l 0 (pn 0) (dg_e (d_op (op_plus rfl) ok_plus (dv 2) d_int) dg_nil)))))))
      (ds_cons (ds_ownComp (i := 7) (own := [("t", 13)]) rfl nd__law_told rfl rfl (by rfl) (di_range2 rfl z.b_range (da_cons d_int (da_cons (d_op (op_plus rfl) ok_plus (dv 2) d_int) da_nil))) (blk_ok [("t", 13)] rfl rfl rfl) g_name (insideN (by decide)) (fun _ _ _ _ _ => (pg_name (i := 13) nd__law_told rfl (by first | exact .inl rfl | exact .inr rfl))) (fun _ _ _ _ _ => dts_nil) (fun _ _ _ _ _ => (d_cty call_tuple_of (ok_tupleOf) rfl z.b_tuple b_tuple (da_cons (DN.de (dn_comp (own := [("x", 12)]) rfl nd__law_told (di_seq rfl (dv 3)) (blk_ok [("x", 12)] rfl rfl rfl) g_name (insideN (by decide)) (fun _ _ _ _ _ => (pg_name (i := 12) nd__law_told rfl (by first | exact .inl rfl | exact .inr rfl))) (fun _ _ _ _ _ => dts_one (dt_cmp op_ge ok_B0.ok (d_ix rfl (dv 11) (dv 12) (fun _ _ => rfl)) (dv 13) (nomark _))) (fun _ _ _ _ _ => (dv 12)))) da_nil))))
      (ds_one (ds_ret (de_tup (da_cons (de_tup (da_cons d_int (da_cons (dv 11) da_nil))) (da_cons (c_make (takes_of rfl rfl rfl rfl) z.mk_Works (ok_Works___init__ z) (by decide) hr z.c_Works rfl (da_cons (dv 11) da_nil)) (da_cons (dv 7) da_nil)))))))))))
def dp__rank : Disp := dispL [("Rule", fn_Rule__rank), ("Lists", fn_Lists__rank), ("Firsts", fn_Firsts__rank), ("Teams", fn_Teams__rank), ("Works", fn_Works__rank)]
/-! Rule__free -/
abbrev N_Rule__free : List Str := ["self", "things"]
theorem nd_Rule__free : N_Rule__free.Nodup := by decide +kernel
abbrev st_Rule__free : Stmt := memOf (top 16) 3
def g_Rule__free : SSem := sRet (eBin gEq (eMeth "_rank" [.v] dp__rank (eVar 0) (gE (eVar 1) (gNil'))) (eCB (g1 gLen) (aCons (eVar 1) (aNil))))
def fn_Rule__free : FSem := fnOf [.v, .v] 2 g_Rule__free
theorem sc_Rule__free : FnScope N_Rule__free ["self", "things"] (defScope st_Rule__free) := ⟨rfl, rfl, rfl, by decide +kernel, rfl, by decide +kernel, by decide +kernel⟩
theorem ok_Rule__free (z : Z P K mg) : FnB P w K mg base 5 (Ma K "Rule" "_free") ["self", "things"] (spF (F0 K) [.v, .v] fn_Rule__free) :=
  fn_b (N := N_Rule__free) z.d_Rule__free sc_Rule__free rfl (by decide) (fun _ _ _ _ _ _ us hl => match us, hl with | [_, _], _ => rfl) fun cdv A outer s H E hr =>
    (ds_one (ds_ret (d_cmp (op_eqA rfl (hu64 hr)) ok_eq.ok (d_meth (takes_of rfl rfl rfl rfl) (dv 0) (disp_cons (methOk z.cl_Rule z.m_Rule__rank (ok_Rule__rank z) (by decide) hr) (disp_cons (methOk z.cl_Lists z.m_Lists__rank (ok_Lists__rank z) (by decide) hr) (disp_cons (methOk z.cl_Firsts z.m_Firsts__rank (ok_Firsts__rank z) (by decide) hr) (disp_cons (methOk z.cl_Teams z.m_Teams__rank (ok_Teams__rank z) (by decide) hr) (disp_cons (methOk z.cl_Works z.m_Works__rank (ok_Works__rank z) (by decide) hr) disp_nil))))) (dg_e (dv 1) dg_nil)) (d_cb (call_ln rfl) (ok_c1 ok_len) rfl z.b_len b_len (da_cons (dv 1) da_nil)) (nomark _))))
/-! Rule_full -/
abbrev N_Rule_full : List Str := ["self"]
theorem nd_Rule_full : N_Rule_full.Nodup := by decide +kernel
abbrev st_Rule_full : Stmt := memOf (top 16) 9
def g_Rule_full : SSem := sRet (eMeth "_rank" [.v] dp__rank (eVar 0) (gE (eUn (gFld fc__things "_things") (eVar 0)) (gNil')))
def fn_Rule_full : FSem := fnOf [.v] 1 g_Rule_full
theorem sc_Rule_full : FnScope N_Rule_full ["self"] (defScope st_Rule_full) := ⟨rfl, rfl, rfl, by decide +kernel, rfl, by decide +kernel, by decide +kernel⟩
theorem ok_Rule_full (z : Z P K mg) : FnB P w K mg base 5 (Pg K "Rule" "full") ["self"] (spF (F0 K) [.v] fn_Rule_full) :=
  fn_b (N := N_Rule_full) z.d_Rule_full sc_Rule_full rfl (by decide) (fun _ _ _ _ _ _ us hl => match us, hl with | [_], _ => rfl) fun cdv A outer s H E hr =>
    (ds_one (ds_ret (d_meth (takes_of rfl rfl rfl rfl) (dv 0) (disp_cons (methOk z.cl_Rule z.m_Rule__rank (ok_Rule__rank z) (by decide) hr) (disp_cons (methOk z.cl_Lists z.m_Lists__rank (ok_Lists__rank z) (by decide) hr) (disp_cons (methOk z.cl_Firsts z.m_Firsts__rank (ok_Firsts__rank z) (by decide) hr) (disp_cons (methOk z.cl_Teams z.m_Teams__rank (ok_Teams__rank z) (by decide) hr) (disp_cons (methOk z.cl_Works z.m_Works__rank (ok_Works__rank z) (by decide) hr) disp_nil))))) (dg_e (d_fld rfl z.fld__things (dv 0)) dg_nil))))
def dp__free : Disp := dispL [("Rule", fn_Rule__free), ("Lists", fn_Rule__free), ("Firsts", fn_Rule__free), ("Teams", fn_Rule__free), ("Works", fn_Rule__free)]
/-! Rule_is_free -/
abbrev N_Rule_is_free : List Str := ["self", "things"]
theorem nd_Rule_is_free : N_Rule_is_free.Nodup := by decide +kernel
abbrev st_Rule_is_free : Stmt := memOf (top 16) 10
def g_Rule_is_free : SSem := sRet (eMeth "_free" [.v] dp__free (eVar 0) (gE (eCall [.v, .v] fn_set_of (gE (eUn (gFld fc_size "size") (eVar 0)) (gE (eVar 1) (gNil')))) (gNil')))
def fn_Rule_is_free : FSem := fnOf [.v, .v] 2 g_Rule_is_free
theorem sc_Rule_is_free : FnScope N_Rule_is_free ["self", "things"] (defScope st_Rule_is_free) := ⟨rfl, rfl, rfl, by decide +kernel, rfl, by decide +kernel, by decide +kernel⟩
theorem ok_Rule_is_free (z : Z P K mg) : FnB P w K mg base 6 (Ma K "Rule" "is_free") ["self", "things"] (spF (F0 K) [.v, .v] fn_Rule_is_free) :=
  fn_b (N := N_Rule_is_free) z.d_Rule_is_free sc_Rule_is_free rfl (by decide) (fun _ _ _ _ _ _ us hl => match us, hl with | [_, _], _ => rfl) fun cdv A outer s H E hr =>
    (ds_one (ds_ret (d_meth (takes_of rfl rfl rfl rfl) (dv 0) (disp_cons (methOk z.cl_Rule z.m_Rule__free (ok_Rule__free z) (by decide) hr) (disp_cons (methOk z.cl_Lists z.m_Lists__free (ok_Rule__free z) (by decide) hr) (disp_cons (methOk z.cl_Firsts z.m_Firsts__free (ok_Rule__free z) (by decide) hr) (disp_cons (methOk z.cl_Teams z.m_Teams__free (ok_Rule__free z) (by decide) hr) (disp_cons (methOk z.cl_Works z.m_Works__free (ok_Rule__free z) (by decide) hr) disp_nil))))) (dg_e (c_call (takes_of rfl rfl rfl rfl) (ok_set_of z) (by decide) hr z.f_set_of rfl (dg_e (d_fld rfl z.fld_size (dv 0)) (dg_e (dv 1) dg_nil))) dg_nil))))
/-! Rule_rank -/
abbrev N_Rule_rank : List Str := ["self", "things"]
theorem nd_Rule_rank : N_Rule_rank.Nodup := by decide +kernel
abbrev st_Rule_rank : Stmt := memOf (top 16) 11
def g_Rule_rank : SSem := sRet (eMeth "_rank" [.v] dp__rank (eVar 0) (gE (eCall [.v, .v] fn_set_of (gE (eUn (gFld fc_size "size") (eVar 0)) (gE (eVar 1) (gNil')))) (gNil')))
def fn_Rule_rank : FSem := fnOf [.v, .v] 2 g_Rule_rank
theorem sc_Rule_rank : FnScope N_Rule_rank ["self", "things"] (defScope st_Rule_rank) := ⟨rfl, rfl, rfl, by decide +kernel, rfl, by decide +kernel, by decide +kernel⟩
theorem ok_Rule_rank (z : Z P K mg) : FnB P w K mg base 6 (Ma K "Rule" "rank") ["self", "things"] (spF (F0 K) [.v, .v] fn_Rule_rank) :=
  fn_b (N := N_Rule_rank) z.d_Rule_rank sc_Rule_rank rfl (by decide) (fun _ _ _ _ _ _ us hl => match us, hl with | [_, _], _ => rfl) fun cdv A outer s H E hr =>
    (ds_one (ds_ret (d_meth (takes_of rfl rfl rfl rfl) (dv 0) (disp_cons (methOk z.cl_Rule z.m_Rule__rank (ok_Rule__rank z) (by decide) hr) (disp_cons (methOk z.cl_Lists z.m_Lists__rank (ok_Lists__rank z) (by decide) hr) (disp_cons (methOk z.cl_Firsts z.m_Firsts__rank (ok_Firsts__rank z) (by decide) hr) (disp_cons (methOk z.cl_Teams z.m_Teams__rank (ok_Teams__rank z) (by decide) hr) (disp_cons (methOk z.cl_Works z.m_Works__rank (ok_Works__rank z) (by decide) hr) disp_nil))))) (dg_e (c_call (takes_of rfl rfl rfl rfl) (ok_set_of z) (by decide) hr z.f_set_of rfl (dg_e (d_fld rfl z.fld_size (dv 0)) (dg_e (dv 1) dg_nil))) dg_nil))))
/-! Rule_dead -/
abbrev N_Rule_dead : List Str := ["self", "x"]
theorem nd_Rule_dead : N_Rule_dead.Nodup := by decide +kernel
abbrev st_Rule_dead : Stmt := memOf (top 16) 18
def g_Rule_dead : SSem := sRet (eCB (g1 gTupleOf) (aCons (eComp [1] (gV 1) (iSeq (eUn (gFld fc__things "_things") (eVar 0))) (bT (eBin gEq (eMeth "_rank" [.v] dp__rank (eVar 0) (gE (eTup (aCons (eVar 1) (aNil))) (gNil'))) (eC (.int 0)))) (eVar 1)) (aNil)))
def fn_Rule_dead : FSem := fnOf [.v] 2 g_Rule_dead
theorem sc_Rule_dead : FnScope N_Rule_dead ["self"] (defScope st_Rule_dead) := ⟨rfl, rfl, rfl, by decide +kernel, rfl, by decide +kernel, by decide +kernel⟩
theorem ok_Rule_dead (z : Z P K mg) : FnB P w K mg base 5 (Ma K "Rule" "dead") ["self"] (spF (F0 K) [.v] fn_Rule_dead) :=
  fn_b (N := N_Rule_dead) z.d_Rule_dead sc_Rule_dead rfl (by decide) (fun _ _ _ _ _ _ us hl => match us, hl with | [_], _ => rfl) fun cdv A outer s H E hr =>
    (ds_one (ds_ret (d_cty call_tuple_of (ok_tupleOf) rfl z.b_tuple b_tuple (da_cons (DN.de (dn_comp (own := [("x", 1)]) rfl nd_Rule_dead (di_seq rfl (d_fld rfl z.fld__things (dv 0))) (blk_ok [("x", 1)] rfl rfl rfl) g_name (insideN (by decide)) (fun _ _ _ _ _ => (pg_name (i := 1) nd_Rule_dead rfl (by first | exact .inl rfl | exact .inr rfl))) (fun _ _ _ _ _ => dts_one (dt_cmp (op_eqA rfl (hu64 hr)) ok_eq.ok (d_meth takes0 (dv 0) (disp_cons (methOk z.cl_Rule z.m_Rule__rank (ok_Rule__rank z) (by decide) hr) (disp_cons (methOk z.cl_Lists z.m_Lists__rank (ok_Lists__rank z) (by decide) hr) (disp_cons (methOk z.cl_Firsts z.m_Firsts__rank (ok_Firsts__rank z) (by decide) hr) (disp_cons (methOk z.cl_Teams z.m_Teams__rank (ok_Teams__rank z) (by decide) hr) (disp_cons (methOk z.cl_Works z.m_Works__rank (ok_Works__rank z) (by decide) hr) disp_nil))))) (dg_e (de_tup (da_cons (dv 1) da_nil)) dg_nil)) d_int (nomark _))) (fun _ _ _ _ _ => (dv 1)))) da_nil))))
/-! Rule_firm -/
abbrev N_Rule_firm : List Str := ["self", "full", "x"]
theorem nd_Rule_firm : N_Rule_firm.Nodup := by decide +kernel
abbrev st_Rule_firm : Stmt := memOf (top 16) 19
def g_Rule_firm : SSem := sSeq (sSet 1 (eGet cs_full fn_Rule_full (eVar 0))) (sRet (eCB (g1 gTupleOf) (aCons (eComp [2] (gV 2) (iSeq (eUn (gFld fc__things "_things") (eVar 0))) (bT (eBin gLt0 (eMeth "_rank" [.v] dp__rank (eVar 0) (gE (eCall [.v, .v] fn_minus (gE (eUn (gFld fc__things "_things") (eVar 0)) (gE (eTup (aCons (eVar 2) (aNil))) (gNil')))) (gNil'))) (eVar 1))) (eVar 2)) (aNil))))
def fn_Rule_firm : FSem := fnOf [.v] 3 g_Rule_firm
theorem sc_Rule_firm : FnScope N_Rule_firm ["self"] (defScope st_Rule_firm) := ⟨rfl, rfl, rfl, by decide +kernel, rfl, by decide +kernel, by decide +kernel⟩
theorem ok_Rule_firm (z : Z P K mg) : FnB P w K mg base 7 (Ma K "Rule" "firm") ["self"] (spF (F0 K) [.v] fn_Rule_firm) :=
  fn_b (N := N_Rule_firm) z.d_Rule_firm sc_Rule_firm rfl (by decide) (fun _ _ _ _ _ _ us hl => match us, hl with | [_], _ => rfl) fun cdv A outer s H E hr =>
    (ds_cons (ds_set (i := 1) nd_Rule_firm rfl (by first | exact .inl rfl | exact .inr rfl) (c_prop rfl (dv 0) (z.pr_full) (ok_Rule_full z) (by decide) hr))
      (ds_one (ds_ret (d_cty call_tuple_of (ok_tupleOf) rfl z.b_tuple b_tuple (da_cons (DN.de (dn_comp (own := [("x", 2)]) rfl nd_Rule_firm (di_seq rfl (d_fld rfl z.fld__things (dv 0))) (blk_ok [("x", 2)] rfl rfl rfl) g_name (insideN (by decide)) (fun _ _ _ _ _ => (pg_name (i := 2) nd_Rule_firm rfl (by first | exact .inl rfl | exact .inr rfl))) (fun _ _ _ _ _ => dts_one (dt_cmp op_lt ok_B0.ok (d_meth takes0 (dv 0) (disp_cons (methOk z.cl_Rule z.m_Rule__rank (ok_Rule__rank z) (by decide) hr) (disp_cons (methOk z.cl_Lists z.m_Lists__rank (ok_Lists__rank z) (by decide) hr) (disp_cons (methOk z.cl_Firsts z.m_Firsts__rank (ok_Firsts__rank z) (by decide) hr) (disp_cons (methOk z.cl_Teams z.m_Teams__rank (ok_Teams__rank z) (by decide) hr) (disp_cons (methOk z.cl_Works z.m_Works__rank (ok_Works__rank z) (by decide) hr) disp_nil))))) (dg_e (c_call takes0 (ok_minus z) (by decide) hr z.f_minus rfl (dg_e (d_fld rfl z.fld__things (dv 0)) (dg_e (de_tup (da_cons (dv 2) da_nil)) dg_nil))) dg_nil)) (dv 1) (nomark _))) (fun _ _ _ _ _ => (dv 2)))) da_nil)))))
def dp_is_free : Disp := dispL [("Rule", fn_Rule_is_free), ("Lists", fn_Rule_is_free), ("Firsts", fn_Rule_is_free), ("Teams", fn_Rule_is_free), ("Works", fn_Rule_is_free)]
/-! _law_axioms -/
abbrev N__law_axioms : List Str := ["rule", "every", "pool", "free", "turn", "one", "other", "x", "more", "some", "y"]
theorem nd__law_axioms : N__law_axioms.Nodup := by decide +kernel
abbrev st__law_axioms : Stmt := top 38
def g__law_axioms : SSem := sSeq (sSet 3 (eComp [9] (gV 9) (iSeq (eVar 1)) (bE (eMeth "is_free" [.v] dp_is_free (eVar 0) (gE (eVar 9) (gNil')))) (eVar 9))) (sSeq (sIf (bT (eBin (gIn true) (eTup (aNil)) (eVar 3))) (sRet (eC (.bl false))) (sNil)) (sSeq (sFor (gV 4) (iArg rng1 (aCons (eC (.int 12)) (aNil))) (sSeq (sSet 5 (eBin gIx (eVar 3) (eCall [.m, .v] fn__law_draw (gL 2 (gE (eCB (g1 gLen) (aCons (eVar 3) (aNil))) (gNil')))))) (sSeq (sSet 6 (eBin gIx (eVar 3) (eCall [.m, .v] fn__law_draw (gL 2 (gE (eCB (g1 gLen) (aCons (eVar 3) (aNil))) (gNil')))))) (sSeq (sFor (gV 7) (iSeq (eVar 5)) (sIf (bT (eBin (gIn true) (eCB (g1 gTupleOf) (aCons (eComp [10] (gV 10) (iSeq (eVar 5)) (bT (eBin gNe (eVar 10) (eVar 7))) (eVar 10)) (aNil))) (eVar 3))) (sRet (eC (.bl false))) (sNil))) (sIf (bT (eBin gLt0 (eCB (g1 gLen) (aCons (eVar 5) (aNil))) (eCB (g1 gLen) (aCons (eVar 6) (aNil))))) (sSeq (sSet 8 (eComp [7] (gV 7) (iSeq (eVar 6)) (bAnd (bT (eBin (gIn true) (eVar 7) (eVar 5))) (bT (eBin (gIn false) (eCB (g1 gTupleOf) (aCons (eCB (g1 gSortedT) (aCons (eBin gAdd (eVar 5) (eTup (aCons (eVar 7) (aNil)))) (aNil))) (aNil))) (eVar 3)))) (eVar 7))) (sIf (bT (eBin gEq (eVar 8) (eLst (aNil)))) (sRet (eC (.bl false))) (sNil))) (sNil)))))) (sRet (eC (.bl true)))))
def fn__law_axioms : FSem := fnOf [.v, .v, .m] 11 g__law_axioms
theorem sc__law_axioms : FnScope N__law_axioms ["rule", "every", "pool"] (defScope st__law_axioms) := ⟨rfl, rfl, rfl, by decide +kernel, rfl, by decide +kernel, by decide +kernel⟩
theorem ok__law_axioms (z : Z P K mg) : FnB P w K mg base 7 (He.ga K "_law_axioms") ["rule", "every", "pool"] (spF (F0 K) [.v, .v, .m] fn__law_axioms) :=
  fn_b (N := N__law_axioms) z.d__law_axioms sc__law_axioms rfl (by decide) (fun _ _ _ _ _ _ us hl => match us, hl with | [_, _, _], _ => rfl) fun cdv A outer s H E hr =>
    (ds_cons (ds_set (i := 3) nd__law_axioms rfl (by first | exact .inl rfl | exact .inr rfl) (DN.de (dn_comp (own := [("some", 9)]) rfl nd__law_axioms (di_seq rfl (dv 1)) (blk_ok [("some", 9)] rfl rfl rfl) g_name (insideN (by decide)) (fun _ _ _ _ _ => (pg_name (i := 9) nd__law_axioms rfl (by first | exact .inl rfl | exact .inr rfl))) (fun _ _ _ _ _ => dts_one (dt_e rfl (d_meth takes0 (dv 0) (disp_cons (methOk z.cl_Rule z.m_Rule_is_free (ok_Rule_is_free z) (by decide) hr) (disp_cons (methOk z.cl_Lists z.m_Lists_is_free (ok_Rule_is_free z) (by decide) hr) (disp_cons (methOk z.cl_Firsts z.m_Firsts_is_free (ok_Rule_is_free z) (by decide) hr) (disp_cons (methOk z.cl_Teams z.m_Teams_is_free (ok_Rule_is_free z) (by decide) hr) (disp_cons (methOk z.cl_Works z.m_Works_is_free (ok_Rule_is_free z) (by decide) hr) disp_nil))))) (dg_e (dv 9) dg_nil)))) (fun _ _ _ _ _ => (dv 9)))))
      (ds_cons (ds_if (dt_cmp (op_notInA rfl (hu65 hr)) (ok_in true).ok (de_tup da_nil) (dv 3) rfl) (ds_one (ds_ret d_bl)) ds_nil)
      (ds_cons (ds_for (passes_of rfl) rfl (di_range1 rfl z.b_range (da_cons d_int da_nil)) (pg_name (i := 4) nd__law_axioms rfl (by first | exact .inl rfl | exact .inr rfl)) g_name
      (ds_cons (ds_set (i := 5) nd__law_axioms rfl (by first | exact .inl rfl | exact .inr rfl) (d_ix rfl (dv 3) (c_call (takes_of rfl rfl rfl rfl) (ok__law_draw z) (by decide) hr z.f__law_draw rfl (dg_l 2 (pn 2) (dg_e (d_cb (call_ln rfl) (ok_c1 ok_len) rfl z.b_len b_len (da_cons (dv 3) da_nil)) dg_nil))) (fun _ _ => rfl)))
      (ds_cons (ds_set (i := 6) nd__law_axioms rfl (by first | exact .inl rfl | exact .inr rfl) (d_ix rfl (dv 3) (c_call (takes_of rfl rfl rfl rfl) (ok__law_draw z) (by decide) hr z.f__law_draw rfl (dg_l 2 (pn 2) (dg_e (d_cb (call_ln rfl) (ok_c1 ok_len) rfl z.b_len b_len (da_cons (dv 3) da_nil)) dg_nil))) (fun _ _ => rfl)))
      (ds_cons (ds_for (passes_of rfl) rfl (di_seq rfl (dv 5)) (pg_name (i := 7) nd__law_axioms rfl (by first | exact .inl rfl | exact .inr rfl)) g_name
      (ds_one (ds_if (dt_cmp (op_notInA rfl (hu65 hr)) (ok_in true).ok (d_cty call_tuple_of (ok_tupleOf) rfl z.b_tuple b_tuple (da_cons (DN.de (dn_comp (own := [("y", 10)]) rfl nd__law_axioms (di_seq rfl (dv 5)) (blk_ok [("y", 10)] rfl rfl rfl) g_name (insideN (by decide)) (fun _ _ _ _ _ => (pg_name (i := 10) nd__law_axioms rfl (by first | exact .inl rfl | exact .inr rfl))) (fun _ _ _ _ _ => dts_one (dt_cmp (op_neA rfl (hu64 hr)) ok_ne.ok (dv 10) (dv 7) (nomark _))) (fun _ _ _ _ _ => (dv 10)))) da_nil)) (dv 3) rfl) (ds_one (ds_ret d_bl)) ds_nil)))
      (ds_one (ds_if (dt_cmp op_lt ok_B0.ok (d_cb (call_ln rfl) (ok_c1 ok_len) rfl z.b_len b_len (da_cons (dv 5) da_nil)) (d_cb (call_ln rfl) (ok_c1 ok_len) rfl z.b_len b_len (da_cons (dv 6) da_nil)) (nomark _)) (ds_cons (ds_setComp (i := 8) (own := [("x", 7)]) rfl nd__law_axioms rfl rfl (by rfl) (di_seq rfl (dv 6)) (blk_ok [("x", 7)] rfl rfl rfl) g_name (insideN (by decide)) (fun _ _ _ _ _ => (pg_name (i := 7) nd__law_axioms rfl (by first | exact .inl rfl | exact .inr rfl))) (fun _ _ _ _ _ => dts_one (dt_w (dw_and (dt_cmp (op_notInA rfl (hu65 hr)) (ok_in true).ok (dv 7) (dv 5) rfl) (dw_and1 (dt_cmp (op_inA rfl (hu65 hr)) (ok_in false).ok (d_cty call_tuple_of (ok_tupleOf) rfl z.b_tuple b_tuple (da_cons (d_cb cr_sortedT0 (ok_c1 ok_sortedT) rfl z.b_sorted b_sorted (da_cons (d_op (op_plus rfl) ok_plus (dv 5) (de_tup (da_cons (dv 7) da_nil))) da_nil)) da_nil)) (dv 3) rfl))))) (fun _ _ _ _ _ => (dv 7)))
      (ds_one (ds_if (dt_cmp (op_eqA rfl (hu64 hr)) ok_eq.ok (dv 8) (de_lst da_nil) (nomark _)) (ds_one (ds_ret d_bl)) ds_nil))) ds_nil))))))
      (ds_one (ds_ret d_bl)))))
def dp_rank : Disp := dispL [("Rule", fn_Rule_rank), ("Lists", fn_Rule_rank), ("Firsts", fn_Rule_rank), ("Teams", fn_Rule_rank), ("Works", fn_Rule_rank)]
/-! _law_refused -/
abbrev N__law_refused : List Str := ["rule", "size", "way", "error"]
theorem nd__law_refused : N__law_refused.Nodup := by decide +kernel
abbrev st__law_refused : Stmt := top 39
def g__law_refused : SSem := sSeq (sTry (sIf (bT (eBin gEq (eVar 2) (eC (.int 0)))) (sExpr (eMeth "is_free" [.v] dp_is_free (eVar 0) (gE (eIf (bT (eBin gGt (eVar 1) (eC (.int 0)))) (eTup (aCons (eC (.int 0)) (aCons (eC (.int 0)) (aNil)))) (eTup (aCons (eC (.int 0)) (aNil)))) (gNil')))) (sIf (bT (eBin gEq (eVar 2) (eC (.int 1)))) (sExpr (eMeth "rank" [.v] dp_rank (eVar 0) (gE (eLst (aCons (eVar 1) (aNil))) (gNil')))) (sIf (bT (eBin gEq (eVar 2) (eC (.int 2)))) (sExpr (eCall [.v, .v] fn_places_for (gE (eVar 0) (gE (eTup (aCons (eVar 1) (aNil))) (gNil'))))) (sIf (bT (eBin gEq (eVar 2) (eC (.int 3)))) (sExpr (eMake "Lists" 2 fn_Lists___init__ (aCons (eVar 1) (aCons (eLst (aCons (eUn (gRng1 .tup) (eVar 1)) (aCons (eUn (gRng1 .tup) (eBin gAdd (eVar 1) (eC (.int 1)))) (aNil)))) (aNil))))) (sExpr (eMake "Rule" 1 fn_Rule___init__ (aCons (eUn gNeg (eC (.int 1))) (aNil)))))))) [⟨testL tl_BadSet, some 3, sRet (eAnd (eBin gLt0 (eVar 2) (eC (.int 3))) (eCall [.v, .v] fn__law_number (gE (eXf 3 "place") (gE (eIf (bAnd (bT (eBin gEq (eVar 2) (eC (.int 0)))) (bT (eBin gGt (eVar 1) (eC (.int 0))))) (eC (.int 1)) (eC (.int 0))) (gNil')))))⟩, ⟨testL tl_BadEntry, some 3, sRet (eAnd (eBin gEq (eVar 2) (eC (.int 3))) (eCall [.v, .v] fn__law_number (gE (eXf 3 "place") (gE (eC (.int 1)) (gNil')))))⟩, ⟨testL tl_BadNumber, some 3, sRet (eAnd (eBin gEq (eVar 2) (eC (.int 4))) (eBin gEq (eXf 3 "name") (eC (.str "size"))))⟩, ⟨testL tl_PricesError, none, sRet (eC (.bl false))⟩]) (sRet (eC (.bl false)))
def fn__law_refused : FSem := fnOf [.v, .v, .v] 4 g__law_refused
theorem sc__law_refused : FnScope N__law_refused ["rule", "size", "way"] (defScope st__law_refused) := ⟨rfl, rfl, rfl, by decide +kernel, rfl, by decide +kernel, by decide +kernel⟩
theorem ok__law_refused (z : Z P K mg) : FnB P w K mg base 8 (He.ga K "_law_refused") ["rule", "size", "way"] (spF (F0 K) [.v, .v, .v] fn__law_refused) :=
  fn_b (N := N__law_refused) z.d__law_refused sc__law_refused rfl (by decide) (fun _ _ _ _ _ _ us hl => match us, hl with | [_, _, _], _ => rfl) fun cdv A outer s H E hr =>
    (ds_cons (ds_try rfl rfl rfl (takes_of rfl rfl rfl rfl) (fun WT pnS xe tkT poT => (ds_one (ds_if (dt_cmp (op_eqA rfl (hu64 hr)) ok_eq.ok (dv 2) d_int (nomark _)) (ds_one (ds_expr (d_meth tkT (dv 0) (disp_cons (methOk z.cl_Rule z.m_Rule_is_free (ok_Rule_is_free z) (by decide) hr) (disp_cons (methOk z.cl_Lists z.m_Lists_is_free (ok_Rule_is_free z) (by decide) hr) (disp_cons (methOk z.cl_Firsts z.m_Firsts_is_free (ok_Rule_is_free z) (by decide) hr) (disp_cons (methOk z.cl_Teams z.m_Teams_is_free (ok_Rule_is_free z) (by decide) hr) (disp_cons (methOk z.cl_Works z.m_Works_is_free (ok_Rule_is_free z) (by decide) hr) disp_nil))))) (dg_e (de_if (dt_cmp op_gt ok_B0.ok (dv 1) d_int (nomark _)) (de_tup (da_cons d_int (da_cons d_int da_nil))) (de_tup (da_cons d_int da_nil))) dg_nil)))) (ds_one (ds_if (dt_cmp (op_eqA rfl (hu64 hr)) ok_eq.ok (dv 2) d_int (nomark _)) (ds_one (ds_expr (d_meth tkT (dv 0) (disp_cons (methOk z.cl_Rule z.m_Rule_rank (ok_Rule_rank z) (by decide) hr) (disp_cons (methOk z.cl_Lists z.m_Lists_rank (ok_Rule_rank z) (by decide) hr) (disp_cons (methOk z.cl_Firsts z.m_Firsts_rank (ok_Rule_rank z) (by decide) hr) (disp_cons (methOk z.cl_Teams z.m_Teams_rank (ok_Rule_rank z) (by decide) hr) (disp_cons (methOk z.cl_Works z.m_Works_rank (ok_Rule_rank z) (by decide) hr) disp_nil))))) (dg_e (de_lst (da_cons (dv 1) da_nil)) dg_nil)))) (ds_one (ds_if (dt_cmp (op_eqA rfl (hu64 hr)) ok_eq.ok (dv 2) d_int (nomark _)) (ds_one (ds_expr (c_call tkT (ok_places_for z) (by decide) hr z.f_places_for rfl (dg_e (dv 0) (dg_e (de_tup (da_cons (dv 1) da_nil)) dg_nil))))) (ds_one (ds_if (dt_cmp (op_eqA rfl (hu64 hr)) ok_eq.ok (dv 2) d_int (nomark _)) (ds_one (ds_expr (c_make tkT z.mk_Lists (ok_Lists___init__ z) (by decide) hr z.c_Lists rfl (da_cons (dv 1) (da_cons (de_lst (da_cons (de_tupRange1 rfl rfl z.b_tuple rfl z.b_range (dv 1)) (da_cons (de_tupRange1 rfl rfl z.b_tuple rfl z.b_range (d_op (op_plus rfl) ok_plus (dv 1) d_int)) da_nil))) da_nil))))) (ds_one (ds_expr (c_make tkT z.mk_Rule (ok_Rule___init__ z) (by decide) hr z.c_Rule rfl (da_cons (d_un un_neg ok_neg.ok d_int) da_nil)))))))))))))
      (.consAs (i := 3) nd__law_refused rfl rfl ⟨rfl, by decide, .inl z.c_BadSet⟩ rfl (test_of z.ex_BadSet) (fun c0 a0 dd oe pnS htr hz hfl => (ds_one (ds_ret (de_and rfl (d_cmp op_lt ok_B0.ok (dv 2) d_int (nomark _)) (de_one (c_callI rfl (ok__law_number z) (by decide) (roomH_mark hr) z.f__law_number rfl (dg_e (d_xf (n := "") (z.xf_BadSet c0 (tr_BadSet c0 htr)) (z.xn_BadSet_place c0 (tr_BadSet c0 htr)) hz hfl (pn 3)) (dg_e (de_if (dt_w (dw_and (dt_cmp (op_eqA rfl (hu64m hr)) ok_eq.ok (dv 2) d_int (nomark _)) (dw_and1 (dt_cmp op_gt ok_B0.ok (dv 1) d_int (nomark _))))) d_int d_int) dg_nil)))))))) (.consAs (i := 3) nd__law_refused rfl rfl ⟨rfl, by decide, .inl z.c_BadEntry⟩ rfl (test_of z.ex_BadEntry) (fun c0 a0 dd oe pnS htr hz hfl => (ds_one (ds_ret (de_and rfl (d_cmp (op_eqA rfl (hu64m hr)) ok_eq.ok (dv 2) d_int (nomark _)) (de_one (c_callI rfl (ok__law_number z) (by decide) (roomH_mark hr) z.f__law_number rfl (dg_e (d_xf (n := "") (z.xf_BadEntry c0 (tr_BadEntry c0 htr)) (z.xn_BadEntry_place c0 (tr_BadEntry c0 htr)) hz hfl (pn 3)) (dg_e d_int dg_nil)))))))) (.consAs (i := 3) nd__law_refused rfl rfl ⟨rfl, by decide, .inl z.c_BadNumber⟩ rfl (test_of z.ex_BadNumber) (fun c0 a0 dd oe pnS htr hz hfl => (ds_one (ds_ret (de_and rfl (d_cmp (op_eqA rfl (hu64m hr)) ok_eq.ok (dv 2) d_int (nomark _)) (de_one (d_cmp (op_eqA rfl (hu64m hr)) ok_eq.ok (d_xf (n := "") (z.xf_BadNumber c0 (tr_BadNumber c0 htr)) (z.xn_BadNumber_name c0 (tr_BadNumber c0 htr)) hz hfl (pn 3)) d_str (nomark _))))))) (.cons ⟨rfl, by decide, .inl z.c_PricesError⟩ rfl (test_of z.ex_PricesError) (fun a0 oe pnS => (ds_one (ds_ret d_bl))) .nil)))))
      (ds_one (ds_ret d_bl)))
def dp_dead : Disp := dispL [("Rule", fn_Rule_dead), ("Lists", fn_Rule_dead), ("Firsts", fn_Rule_dead), ("Teams", fn_Rule_dead), ("Works", fn_Rule_dead)]
def dp_firm : Disp := dispL [("Rule", fn_Rule_firm), ("Lists", fn_Rule_firm), ("Firsts", fn_Rule_firm), ("Teams", fn_Rule_firm), ("Works", fn_Rule_firm)]
/-! law -/
abbrev N_law : List Str := ["script", "pool", "size", "kind", "numbers", "rule", "lists", "twin", "every", "some", "rank", "loose", "turn", "way"]
theorem nd_law : N_law.Nodup := by decide +kernel
abbrev st_law : Stmt := top 40
def g_law : SSem := sSeq (sOwn 1 (eCallN 1 fn__law_pool (aCons (eVar 0) (aNil)))) (sSeq (sSet 2 (eBin gIx (eLst (aCons (eC (.int 4)) (aCons (eC (.int 5)) (aCons (eC (.int 3)) (aCons (eC (.int 6)) (aCons (eC (.int 7)) (aCons (eC (.int 2)) (aCons (eC (.int 5)) (aCons (eC (.int 1)) (aCons (eC (.int 0)) (aCons (eC (.int 6)) (aNil)))))))))))) (eCall [.m, .v] fn__law_draw (gL 1 (gE (eC (.int 10)) (gNil')))))) (sSeq (sSet 3 (eCall [.m, .v] fn__law_draw (gL 1 (gE (eC (.int 3)) (gNil'))))) (sSeq (sAsg (gV3 4 5 6) (eCall [.m, .v, .v] fn__law_told (gL 1 (gE (eVar 3) (gE (eVar 2) (gNil')))))) (sSeq (sSet 7 (eMake "Lists" 2 fn_Lists___init__ (aCons (eVar 2) (aCons (eVar 6) (aNil))))) (sSeq (sSet 8 (eCall [.v] fn__law_subsets (gE (eVar 2) (gNil')))) (sSeq (sIf (bOr (bNot (bE (eCall [.v, .v] fn__law_number (gE (eLenO cs___len__ fn_Rule___len__ (eVar 7)) (gE (eVar 2) (gNil')))))) (bOr (bNot (bE (eCall [.v, .v] fn__law_number (gE (eUn (gFld fc_size "size") (eVar 7)) (gE (eVar 2) (gNil')))))) (bT (eBin gNe (eLenO cs___len__ fn_Rule___len__ (eVar 5)) (eVar 2))))) (sRet (eC (.bl false))) (sNil)) (sSeq (sFor (gV 9) (iSeq (eVar 8)) (sSeq (sSet 10 (eCall [.v, .v, .v] fn__law_counted (gE (eVar 3) (gE (eVar 4) (gE (eVar 9) (gNil')))))) (sSeq (sIf (bOr (bNot (bE (eCall [.v, .v] fn__law_number (gE (eMeth "rank" [.v] dp_rank (eVar 7) (gE (eUn gListOf (eVar 9)) (gNil'))) (gE (eVar 10) (gNil')))))) (bNot (bE (eCall [.v, .v] fn__law_number (gE (eMeth "rank" [.v] dp_rank (eVar 5) (gE (eVar 9) (gNil'))) (gE (eVar 10) (gNil'))))))) (sRet (eC (.bl false))) (sNil)) (sSeq (sIf (bOr (bT (eBin gNe (eUn gRepr (eMeth "is_free" [.v] dp_is_free (eVar 7) (gE (eVar 9) (gNil')))) (eUn gRepr (eBin gEq (eVar 10) (eCB (g1 gLen) (aCons (eVar 9) (aNil))))))) (bT (eBin gNe (eUn gRepr (eMeth "is_free" [.v] dp_is_free (eVar 5) (gE (eUn gListOf (eVar 9)) (gNil')))) (eUn gRepr (eBin gEq (eVar 10) (eCB (g1 gLen) (aCons (eVar 9) (aNil)))))))) (sRet (eC (.bl false))) (sNil)) (sIf (bT (eBin gNotB (eMeth "is_free" [.v] dp_is_free (eMake "Rule" 1 fn_Rule___init__ (aCons (eVar 2) (aNil))) (gE (eVar 9) (gNil'))) (eC (.bl true)))) (sRet (eC (.bl false))) (sNil)))))) (sSeq (sIf (bOr (bT (eBin gNe (eUn gRepr (eMeth "dead" [] dp_dead (eVar 7) gNil')) (eUn gRepr (eMeth "dead" [] dp_dead (eVar 5) gNil')))) (bOr (bT (eBin gNe (eGet cs_full fn_Rule_full (eVar 7)) (eGet cs_full fn_Rule_full (eVar 5)))) (bT (eBin gNe (eMeth "firm" [] dp_firm (eVar 7) gNil') (eMeth "firm" [] dp_firm (eVar 5) gNil'))))) (sRet (eC (.bl false))) (sNil)) (sSeq (sSet 11 (eMake "Lists" 2 fn_Lists___init__ (aCons (eVar 2) (aCons (eComp [12] (gV 12) (iArg rng1 (aCons (eCall [.m, .v] fn__law_draw (gL 1 (gE (eC (.int 5)) (gNil')))) (aNil))) (bYes) (eCall [.m, .v] fn__law_subset (gL 1 (gE (eVar 2) (gNil'))))) (aNil))))) (sSeq (sIf (bNot (bE (eCall [.v, .v, .m] fn__law_axioms (gE (eVar 11) (gE (eVar 8) (gL 1 (gNil'))))))) (sRet (eC (.bl false))) (sNil)) (sRet (eCB (g1 gAll) (aCons (eComp [13] (gV 13) (iArg rng1 (aCons (eC (.int 5)) (aNil))) (bYes) (eCall [.v, .v, .v] fn__law_refused (gE (eVar 7) (gE (eVar 2) (gE (eVar 13) (gNil')))))) (aNil))))))))))))))
def fn_law : FSem := fnOf [.v] 14 g_law
theorem sc_law : FnScope N_law ["script"] (defScope st_law) := ⟨rfl, rfl, rfl, by decide +kernel, rfl, by decide +kernel, by decide +kernel⟩
theorem ok_law (z : Z P K mg) : ∃ fd, (∀ base : Heap, FnOkG P w K mg base (L2.CX P w) 9 (He.ga K "law") fd ["script"] (spF (F0 K) [.v] fn_law)) ∧ Binds K fd ["script"] [] :=
  fn_bGA (N := N_law) z.d_law sc_law rfl (by decide) (fun _ _ _ _ _ _ us hl => match us, hl with | [_], _ => rfl) fun base cdv A outer s H E hr hG =>
    (ds_cons (ds_own (i := 1) nd_law rfl (by first | exact .inl rfl | exact .inr rfl) (dn_call (takes_of rfl rfl rfl rfl) (ok__law_pool z) (by decide) hr z.f__law_pool rfl (da_cons (dv 0) da_nil)))
      (ds_cons (ds_set (i := 2) nd_law rfl (by first | exact .inl rfl | exact .inr rfl) (d_ix rfl (de_lst (da_cons d_int (da_cons d_int (da_cons d_int (da_cons d_int (da_cons d_int (da_cons d_int (da_cons d_int (da_cons d_int (da_cons d_int (da_cons d_int da_nil))))))))))) (c_call (takes_of rfl rfl rfl rfl) (ok__law_draw z) (by decide) hr z.f__law_draw rfl (dg_l 1 (pn 1) (dg_e d_int dg_nil))) (fun _ _ => rfl)))
      (ds_cons (ds_set (i := 3) nd_law rfl (by first | exact .inl rfl | exact .inr rfl) (c_call (takes_of rfl rfl rfl rfl) (ok__law_draw z) (by decide) hr z.f__law_draw rfl (dg_l 1 (pn 1) (dg_e d_int dg_nil))))
      (ds_cons (ds_asg (c_call (takes_of rfl rfl rfl rfl) (ok__law_told z) (by decide) hr z.f__law_told rfl (dg_l 1 (pn 1) (dg_e (dv 3) (dg_e (dv 2) dg_nil)))) (pg_tup rfl (pgs_cons (pg_name (i := 4) nd_law rfl (by first | exact .inl rfl | exact .inr rfl)) (pgs_cons (pg_name (i := 5) nd_law rfl (by first | exact .inl rfl | exact .inr rfl)) (pgs_cons (pg_name (i := 6) nd_law rfl (by first | exact .inl rfl | exact .inr rfl)) pgs_nil)))) g_three)
      (ds_cons (ds_set (i := 7) nd_law rfl (by first | exact .inl rfl | exact .inr rfl) (c_make (takes_of rfl rfl rfl rfl) z.mk_Lists (ok_Lists___init__ z) (by decide) hr z.c_Lists rfl (da_cons (dv 2) (da_cons (dv 6) da_nil))))
      (ds_cons (ds_set (i := 8) nd_law rfl (by first | exact .inl rfl | exact .inr rfl) (c_call (takes_of rfl rfl rfl rfl) (ok__law_subsets z) (by decide) hr z.f__law_subsets rfl (dg_e (dv 2) dg_nil)))
      (ds_cons (ds_if (dt_w (dw_or (dt_not (dt_e rfl (c_call (takes_of rfl rfl rfl rfl) (ok__law_number z).b (by decide) hr z.f__law_number rfl (dg_e (c_lenO rfl (dv 7) z.ln (ok_Rule___len__ z) (by decide) hr z.b_len rfl) (dg_e (dv 2) dg_nil))))) (dw_or (dt_not (dt_e rfl (c_call (takes_of rfl rfl rfl rfl) (ok__law_number z).b (by decide) hr z.f__law_number rfl (dg_e (d_fld rfl z.fld_size (dv 7)) (dg_e (dv 2) dg_nil))))) (dw_or1 (dt_cmp (op_neA rfl (hu64 hr)) ok_ne.ok (c_lenO rfl (dv 5) z.ln (ok_Rule___len__ z) (by decide) hr z.b_len rfl) (dv 2) (nomark _)))))) (ds_one (ds_ret d_bl)) ds_nil)
      (ds_cons (ds_for (passes_of rfl) rfl (di_seq rfl (dv 8)) (pg_name (i := 9) nd_law rfl (by first | exact .inl rfl | exact .inr rfl)) g_name
      (ds_cons (ds_set (i := 10) nd_law rfl (by first | exact .inl rfl | exact .inr rfl) (c_call (takes_of rfl rfl rfl rfl) (ok__law_counted z) (by decide) hr z.f__law_counted rfl (dg_e (dv 3) (dg_e (dv 4) (dg_e (dv 9) dg_nil)))))
      (ds_cons (ds_if (dt_w (dw_or (dt_not (dt_e rfl (c_call (takes_of rfl rfl rfl rfl) (ok__law_number z).b (by decide) hr z.f__law_number rfl (dg_e (d_meth (takes_of rfl rfl rfl rfl) (dv 7) (disp_cons (methOk z.cl_Rule z.m_Rule_rank (ok_Rule_rank z) (by decide) hr) (disp_cons (methOk z.cl_Lists z.m_Lists_rank (ok_Rule_rank z) (by decide) hr) (disp_cons (methOk z.cl_Firsts z.m_Firsts_rank (ok_Rule_rank z) (by decide) hr) (disp_cons (methOk z.cl_Teams z.m_Teams_rank (ok_Rule_rank z) (by decide) hr) (disp_cons (methOk z.cl_Works z.m_Works_rank (ok_Rule_rank z) (by decide) hr) disp_nil))))) (dg_e (DN.de (dn_listOf rfl rfl rfl z.b_list b_list (dv 9))) dg_nil)) (dg_e (dv 10) dg_nil))))) (dw_or1 (dt_not (dt_e rfl (c_call (takes_of rfl rfl rfl rfl) (ok__law_number z).b (by decide) hr z.f__law_number rfl (dg_e (d_meth (takes_of rfl rfl rfl rfl) (dv 5) (disp_cons (methOk z.cl_Rule z.m_Rule_rank (ok_Rule_rank z) (by decide) hr) (disp_cons (methOk z.cl_Lists z.m_Lists_rank (ok_Rule_rank z) (by decide) hr) (disp_cons (methOk z.cl_Firsts z.m_Firsts_rank (ok_Rule_rank z) (by decide) hr) (disp_cons (methOk z.cl_Teams z.m_Teams_rank (ok_Rule_rank z) (by decide) hr) (disp_cons (methOk z.cl_Works z.m_Works_rank (ok_Rule_rank z) (by decide) hr) disp_nil))))) (dg_e (dv 9) dg_nil)) (dg_e (dv 10) dg_nil)))))))) (ds_one (ds_ret d_bl)) ds_nil)
      (ds_cons (ds_if (dt_w (dw_or (dt_cmp (op_neA rfl (hu64 hr)) ok_ne.ok (d_repr rfl hG (hu30 hr) rfl z.b_repr (d_meth (takes_of rfl rfl rfl rfl) (dv 7) (disp_cons (methOk z.cl_Rule z.m_Rule_is_free (ok_Rule_is_free z) (by decide) hr) (disp_cons (methOk z.cl_Lists z.m_Lists_is_free (ok_Rule_is_free z) (by decide) hr) (disp_cons (methOk z.cl_Firsts z.m_Firsts_is_free (ok_Rule_is_free z) (by decide) hr) (disp_cons (methOk z.cl_Teams z.m_Teams_is_free (ok_Rule_is_free z) (by decide) hr) (disp_cons (methOk z.cl_Works z.m_Works_is_free (ok_Rule_is_free z) (by decide) hr) disp_nil))))) (dg_e (dv 9) dg_nil))) (d_repr rfl hG (hu30 hr) rfl z.b_repr (d_cmp (op_eqA rfl (hu64 hr)) ok_eq.ok (dv 10) (d_cb (call_ln rfl) (ok_c1 ok_len) rfl z.b_len b_len (da_cons (dv 9) da_nil)) (nomark _))) (nomark _)) (dw_or1 (dt_cmp (op_neA rfl (hu64 hr)) ok_ne.ok (d_repr rfl hG (hu30 hr) rfl z.b_repr (d_meth (takes_of rfl rfl rfl rfl) (dv 5) (disp_cons (methOk z.cl_Rule z.m_Rule_is_free (ok_Rule_is_free z) (by decide) hr) (disp_cons (methOk z.cl_Lists z.m_Lists_is_free (ok_Rule_is_free z) (by decide) hr) (disp_cons (methOk z.cl_Firsts z.m_Firsts_is_free (ok_Rule_is_free z) (by decide) hr) (disp_cons (methOk z.cl_Teams z.m_Teams_is_free (ok_Rule_is_free z) (by decide) hr) (disp_cons (methOk z.cl_Works z.m_Works_is_free (ok_Rule_is_free z) (by decide) hr) disp_nil))))) (dg_e (DN.de (dn_listOf rfl rfl rfl z.b_list b_list (dv 9))) dg_nil))) (d_repr rfl hG (hu30 hr) rfl z.b_repr (d_cmp (op_eqA rfl (hu64 hr)) ok_eq.ok (dv 10) (d_cb (call_ln rfl) (ok_c1 ok_len) rfl z.b_len b_len (da_cons (dv 9) da_nil)) (nomark _))) (nomark _))))) (ds_one (ds_ret d_bl)) ds_nil)
      (ds_one (ds_if (dt_cmp op_notBl ok_notB (d_meth (takes_of rfl rfl rfl rfl) (c_make (takes_of rfl rfl rfl rfl) z.mk_Rule (ok_Rule___init__ z) (by decide) hr z.c_Rule rfl (da_cons (dv 2) da_nil)) (disp_cons (methOk z.cl_Rule z.m_Rule_is_free (ok_Rule_is_free z) (by decide) hr) (disp_cons (methOk z.cl_Lists z.m_Lists_is_free (ok_Rule_is_free z) (by decide) hr) (disp_cons (methOk z.cl_Firsts z.m_Firsts_is_free (ok_Rule_is_free z) (by decide) hr) (disp_cons (methOk z.cl_Teams z.m_Teams_is_free (ok_Rule_is_free z) (by decide) hr) (disp_cons (methOk z.cl_Works z.m_Works_is_free (ok_Rule_is_free z) (by decide) hr) disp_nil))))) (dg_e (dv 9) dg_nil)) d_bl (nomark _)) (ds_one (ds_ret d_bl)) ds_nil))))))
      (ds_cons (ds_if (dt_w (dw_or (dt_cmp (op_neA rfl (hu64 hr)) ok_ne.ok (d_repr rfl hG (hu30 hr) rfl z.b_repr (d_meth0 (takes_of rfl rfl rfl rfl) (dv 7) (disp_cons (methOk z.cl_Rule z.m_Rule_dead (ok_Rule_dead z) (by decide) hr) (disp_cons (methOk z.cl_Lists z.m_Lists_dead (ok_Rule_dead z) (by decide) hr) (disp_cons (methOk z.cl_Firsts z.m_Firsts_dead (ok_Rule_dead z) (by decide) hr) (disp_cons (methOk z.cl_Teams z.m_Teams_dead (ok_Rule_dead z) (by decide) hr) (disp_cons (methOk z.cl_Works z.m_Works_dead (ok_Rule_dead z) (by decide) hr) disp_nil))))))) (d_repr rfl hG (hu30 hr) rfl z.b_repr (d_meth0 (takes_of rfl rfl rfl rfl) (dv 5) (disp_cons (methOk z.cl_Rule z.m_Rule_dead (ok_Rule_dead z) (by decide) hr) (disp_cons (methOk z.cl_Lists z.m_Lists_dead (ok_Rule_dead z) (by decide) hr) (disp_cons (methOk z.cl_Firsts z.m_Firsts_dead (ok_Rule_dead z) (by decide) hr) (disp_cons (methOk z.cl_Teams z.m_Teams_dead (ok_Rule_dead z) (by decide) hr) (disp_cons (methOk z.cl_Works z.m_Works_dead (ok_Rule_dead z) (by decide) hr) disp_nil))))))) (nomark _)) (dw_or (dt_cmp (op_neA rfl (hu64 hr)) ok_ne.ok (c_prop rfl (dv 7) (z.pr_full) (ok_Rule_full z) (by decide) hr) (c_prop rfl (dv 5) (z.pr_full) (ok_Rule_full z) (by decide) hr) (nomark _)) (dw_or1 (dt_cmp (op_neA rfl (hu64 hr)) ok_ne.ok (d_meth0 (takes_of rfl rfl rfl rfl) (dv 7) (disp_cons (methOk z.cl_Rule z.m_Rule_firm (ok_Rule_firm z) (by decide) hr) (disp_cons (methOk z.cl_Lists z.m_Lists_firm (ok_Rule_firm z) (by decide) hr) (disp_cons (methOk z.cl_Firsts z.m_Firsts_firm (ok_Rule_firm z) (by decide) hr) (disp_cons (methOk z.cl_Teams z.m_Teams_firm (ok_Rule_firm z) (by decide) hr) (disp_cons (methOk z.cl_Works z.m_Works_firm (ok_Rule_firm z) (by decide) hr) disp_nil)))))) (d_meth0 (takes_of rfl rfl rfl rfl) (dv 5) (disp_cons (methOk z.cl_Rule z.m_Rule_firm (ok_Rule_firm z) (by decide) hr) (disp_cons (methOk z.cl_Lists z.m_Lists_firm (ok_Rule_firm z) (by decide) hr) (disp_cons (methOk z.cl_Firsts z.m_Firsts_firm (ok_Rule_firm z) (by decide) hr) (disp_cons (methOk z.cl_Teams z.m_Teams_firm (ok_Rule_firm z) (by decide) hr) (disp_cons (methOk z.cl_Works z.m_Works_firm (ok_Rule_firm z) (by decide) hr) disp_nil)))))) (nomark _)))))) (ds_one (ds_ret d_bl)) ds_nil)
      (ds_cons (ds_set (i := 11) nd_law rfl (by first | exact .inl rfl | exact .inr rfl) (c_make (takes_of rfl rfl rfl rfl) z.mk_Lists (ok_Lists___init__ z) (by decide) hr z.c_Lists rfl (da_cons (dv 2) (da_cons (DN.de (dn_comp (own := [("turn", 12)]) rfl nd_law (di_range1 rfl z.b_range (da_cons (c_call (takes_of rfl rfl rfl rfl) (ok__law_draw z) (by decide) hr z.f__law_draw rfl (dg_l 1 (pn 1) (dg_e d_int dg_nil))) da_nil)) (blk_ok [("turn", 12)] rfl rfl rfl) g_name (insideN (by decide)) (fun _ _ _ _ _ => (pg_name (i := 12) nd_law rfl (by first | exact .inl rfl | exact .inr rfl))) (fun _ _ _ _ _ => dts_nil) (fun _ _ _ _ _ => (c_call takes0 (ok__law_subset z) (by decide) hr z.f__law_subset rfl (dg_l 1 (pn 1) (dg_e (dv 2) dg_nil)))))) da_nil))))
      (ds_cons (ds_if (dt_not (dt_e rfl (c_call (takes_of rfl rfl rfl rfl) (ok__law_axioms z) (by decide) hr z.f__law_axioms rfl (dg_e (dv 11) (dg_e (dv 8) (dg_l 1 (pn 1) dg_nil)))))) (ds_one (ds_ret d_bl)) ds_nil)
      (ds_one (ds_ret (d_cb (cr_all rfl) (ok_c1 ok_all) rfl z.b_all b_all (da_cons (DN.de (dn_comp (own := [("way", 13)]) rfl nd_law (di_range1 rfl z.b_range (da_cons d_int da_nil)) (blk_ok [("way", 13)] rfl rfl rfl) g_name (insideN (by decide)) (fun _ _ _ _ _ => (pg_name (i := 13) nd_law rfl (by first | exact .inl rfl | exact .inr rfl))) (fun _ _ _ _ _ => dts_nil) (fun _ _ _ _ _ => (c_call takes0 (ok__law_refused z) (by decide) hr z.f__law_refused rfl (dg_e (dv 7) (dg_e (dv 2) (dg_e (dv 13) dg_nil))))))) da_nil)))))))))))))))
def fa : List (PySem.W.Frag → Bool) := [
  (He.Fa.free "abs").ok,
  (He.Fa.free "all").ok,
  (He.Fa.free "bool").ok,
  (He.Fa.free "enumerate").ok,
  (He.Fa.free "int").ok,
  (He.Fa.free "isinstance").ok,
  (He.Fa.free "len").ok,
  (He.Fa.free "list").ok,
  (He.Fa.free "min").ok,
  (He.Fa.free "range").ok,
  (He.Fa.free "repr").ok,
  (He.Fa.free "sorted").ok,
  (He.Fa.free "sum").ok,
  (He.Fa.free "super").ok,
  (He.Fa.free "tuple").ok,
  (He.Fa.glo "is_integer").ok,
  (He.Fa.glo "is_count").ok,
  (He.Fa.glo "is_row").ok,
  (He.Fa.glo "is_thing").ok,
  (He.Fa.glo "misplaced").ok,
  (He.Fa.glo "set_of").ok,
  (He.Fa.glo "minus").ok,
  (He.Fa.glo "lists_of").ok,
  (He.Fa.glo "shifted").ok,
  (He.Fa.glo "placed").ok,
  (He.Fa.glo "seated").ok,
  (He.Fa.glo "places_for").ok,
  (He.Fa.glo "_law_pool").ok,
  (He.Fa.glo "_law_mixed").ok,
  (He.Fa.glo "_law_draw").ok,
  (He.Fa.glo "_law_digits").ok,
  (He.Fa.glo "_law_number").ok,
  (He.Fa.glo "_law_subset").ok,
  (He.Fa.glo "_law_subsets").ok,
  (He.Fa.glo "_law_counted").ok,
  (He.Fa.glo "_law_told").ok,
  (He.Fa.glo "_law_axioms").ok,
  (He.Fa.glo "_law_refused").ok,
  (He.Fa.glo "law").ok,
  (He.Fa.glo "PricesError").ok,
  (He.Fa.glo "BadNumber").ok,
  (He.Fa.glo "BadSet").ok,
  (He.Fa.glo "BadEntry").ok,
  (He.Fa.glo "NotFree").ok,
  (He.Fa.glo "Rule").ok,
  (He.Fa.glo "Lists").ok,
  (He.Fa.glo "Firsts").ok,
  (He.Fa.glo "Teams").ok,
  (He.Fa.glo "Works").ok,
  (He.Fa.cls "Rule").ok,
  b_mk "Rule" "Rule",
  b_meth "Rule" "_free" "Rule",
  b_meth "Rule" "_rank" "Rule",
  b_meth "Rule" "dead" "Rule",
  b_meth "Rule" "firm" "Rule",
  b_meth "Rule" "is_free" "Rule",
  b_meth "Rule" "rank" "Rule",
  (He.Fa.cls "Lists").ok,
  b_mk "Lists" "Lists",
  b_meth "Lists" "_free" "Rule",
  b_meth "Lists" "_rank" "Lists",
  b_meth "Lists" "dead" "Rule",
  b_meth "Lists" "firm" "Rule",
  b_meth "Lists" "is_free" "Rule",
  b_meth "Lists" "rank" "Rule",
  (He.Fa.cls "Firsts").ok,
  b_mk "Firsts" "Firsts",
  b_meth "Firsts" "_free" "Rule",
  b_meth "Firsts" "_rank" "Firsts",
  b_meth "Firsts" "dead" "Rule",
  b_meth "Firsts" "firm" "Rule",
  b_meth "Firsts" "is_free" "Rule",
  b_meth "Firsts" "rank" "Rule",
  (He.Fa.cls "Teams").ok,
  b_mk "Teams" "Teams",
  b_meth "Teams" "_free" "Rule",
  b_meth "Teams" "_rank" "Teams",
  b_meth "Teams" "dead" "Rule",
  b_meth "Teams" "firm" "Rule",
  b_meth "Teams" "is_free" "Rule",
  b_meth "Teams" "rank" "Rule",
  (He.Fa.cls "Works").ok,
  b_mk "Works" "Works",
  b_meth "Works" "_free" "Rule",
  b_meth "Works" "_rank" "Works",
  b_meth "Works" "dead" "Rule",
  b_meth "Works" "firm" "Rule",
  b_meth "Works" "is_free" "Rule",
  b_meth "Works" "rank" "Rule",
  b_fld fc__things "_things",
  b_fld fc_classes "classes",
  b_fld fc_days "days",
  b_fld fc_lists "lists",
  b_fld fc_number "number",
  b_fld fc_places "places",
  b_fld fc_size "size",
  b_prop cs_full "full" "Rule",
  Dl.b_len cs___len__ "Rule",
  b_sup sp_Firsts___init__ "Firsts" "__init__" "Rule",
  b_sup sp_Firsts__rank "Firsts" "_rank" "Rule",
  b_sup sp_Lists___init__ "Lists" "__init__" "Rule",
  b_sup sp_Teams___init__ "Teams" "__init__" "Rule",
  b_sup sp_Works___init__ "Works" "__init__" "Rule",
  b_oex "BadEntry",
  b_supI "BadEntry",
  b_noX xf_BadEntry "BadEntry",
  b_ini "BadEntry",
  b_oex "BadNumber",
  b_supI "BadNumber",
  b_noX xf_BadNumber "BadNumber",
  b_ini "BadNumber",
  b_oex "BadSet",
  b_supI "BadSet",
  b_noX xf_BadSet "BadSet",
  b_ini "BadSet",
  b_oex "NotFree",
  b_supI "NotFree",
  b_noX xf_NotFree "NotFree",
  b_ini "NotFree",
  b_exm tl_BadEntry "BadEntry",
  b_exm tl_BadNumber "BadNumber",
  b_exm tl_BadSet "BadSet",
  b_exm tl_PricesError "PricesError",
  b_xf tt_BadEntry,
  b_xf tt_BadNumber,
  b_xf tt_BadSet,
  b_xn tt_BadEntry "place",
  b_xn tt_BadNumber "name",
  b_xn tt_BadSet "place"]
def fn : List HD := [
  ⟨fun K => Ma K "BadNumber" "__init__", some "BadNumber", "__init__", "BadNumber.__init__", memOf (top 3) 0⟩,
  ⟨fun K => Ma K "BadSet" "__init__", some "BadSet", "__init__", "BadSet.__init__", memOf (top 4) 0⟩,
  ⟨fun K => Ma K "BadEntry" "__init__", some "BadEntry", "__init__", "BadEntry.__init__", memOf (top 5) 0⟩,
  ⟨fun K => Ma K "NotFree" "__init__", some "NotFree", "__init__", "NotFree.__init__", memOf (top 6) 0⟩,
  ⟨fun K => He.ga K "is_integer", none, "is_integer", "is_integer", top 8⟩,
  ⟨fun K => He.ga K "is_count", none, "is_count", "is_count", top 9⟩,
  ⟨fun K => He.ga K "is_row", none, "is_row", "is_row", top 10⟩,
  ⟨fun K => He.ga K "is_thing", none, "is_thing", "is_thing", top 11⟩,
  ⟨fun K => He.ga K "misplaced", none, "misplaced", "misplaced", top 12⟩,
  ⟨fun K => He.ga K "set_of", none, "set_of", "set_of", top 13⟩,
  ⟨fun K => He.ga K "minus", none, "minus", "minus", top 14⟩,
  ⟨fun K => Ma K "Rule" "__init__", none, "__init__", "Rule.__init__", memOf (top 16) 0⟩,
  ⟨fun K => Ma K "Rule" "__len__", none, "__len__", "Rule.__len__", memOf (top 16) 1⟩,
  ⟨fun K => Ma K "Rule" "_rank", none, "_rank", "Rule._rank", memOf (top 16) 2⟩,
  ⟨fun K => Ma K "Rule" "_free", none, "_free", "Rule._free", memOf (top 16) 3⟩,
  ⟨fun K => Pg K "Rule" "full", none, "full", "Rule.full", memOf (top 16) 9⟩,
  ⟨fun K => Ma K "Rule" "is_free", none, "is_free", "Rule.is_free", memOf (top 16) 10⟩,
  ⟨fun K => Ma K "Rule" "rank", none, "rank", "Rule.rank", memOf (top 16) 11⟩,
  ⟨fun K => Ma K "Rule" "dead", none, "dead", "Rule.dead", memOf (top 16) 18⟩,
  ⟨fun K => Ma K "Rule" "firm", none, "firm", "Rule.firm", memOf (top 16) 19⟩,
  ⟨fun K => He.ga K "lists_of", none, "lists_of", "lists_of", top 18⟩,
  ⟨fun K => He.ga K "shifted", none, "shifted", "shifted", top 19⟩,
  ⟨fun K => He.ga K "placed", none, "placed", "placed", top 20⟩,
  ⟨fun K => He.ga K "seated", none, "seated", "seated", top 21⟩,
  ⟨fun K => Ma K "Lists" "__init__", some "Lists", "__init__", "Lists.__init__", memOf (top 22) 0⟩,
  ⟨fun K => Ma K "Lists" "_rank", none, "_rank", "Lists._rank", memOf (top 22) 1⟩,
  ⟨fun K => He.ga K "places_for", none, "places_for", "places_for", top 23⟩,
  ⟨fun K => Ma K "Firsts" "__init__", some "Firsts", "__init__", "Firsts.__init__", memOf (top 25) 0⟩,
  ⟨fun K => Ma K "Firsts" "_rank", some "Firsts", "_rank", "Firsts._rank", memOf (top 25) 1⟩,
  ⟨fun K => Ma K "Teams" "__init__", some "Teams", "__init__", "Teams.__init__", memOf (top 26) 0⟩,
  ⟨fun K => Ma K "Teams" "_rank", none, "_rank", "Teams._rank", memOf (top 26) 1⟩,
  ⟨fun K => Ma K "Works" "__init__", some "Works", "__init__", "Works.__init__", memOf (top 27) 0⟩,
  ⟨fun K => Ma K "Works" "_rank", none, "_rank", "Works._rank", memOf (top 27) 1⟩,
  ⟨fun K => He.ga K "_law_pool", none, "_law_pool", "_law_pool", top 29⟩,
  ⟨fun K => He.ga K "_law_mixed", none, "_law_mixed", "_law_mixed", top 30⟩,
  ⟨fun K => He.ga K "_law_draw", none, "_law_draw", "_law_draw", top 31⟩,
  ⟨fun K => He.ga K "_law_digits", none, "_law_digits", "_law_digits", top 32⟩,
  ⟨fun K => He.ga K "_law_number", none, "_law_number", "_law_number", top 33⟩,
  ⟨fun K => He.ga K "_law_subset", none, "_law_subset", "_law_subset", top 34⟩,
  ⟨fun K => He.ga K "_law_subsets", none, "_law_subsets", "_law_subsets", top 35⟩,
  ⟨fun K => He.ga K "_law_counted", none, "_law_counted", "_law_counted", top 36⟩,
  ⟨fun K => He.ga K "_law_told", none, "_law_told", "_law_told", top 37⟩,
  ⟨fun K => He.ga K "_law_axioms", none, "_law_axioms", "_law_axioms", top 38⟩,
  ⟨fun K => He.ga K "_law_refused", none, "_law_refused", "_law_refused", top 39⟩,
  ⟨fun K => He.ga K "law", none, "law", "law", top 40⟩]
theorem z_of {h : Heap} (KX : K.In h) (G : h.Ns mainGlobals mg) (c : SaysX "/claim/cut.py" fa fn K) : Z pw K mg where
  b_abs := He.free_ok KX G (x := "abs") (c.fact 0)
  b_all := He.free_ok KX G (x := "all") (c.fact 1)
  b_bool := He.free_ok KX G (x := "bool") (c.fact 2)
  b_enumerate := He.free_ok KX G (x := "enumerate") (c.fact 3)
  b_int := He.free_ok KX G (x := "int") (c.fact 4)
  b_isinstance := He.free_ok KX G (x := "isinstance") (c.fact 5)
  b_len := He.free_ok KX G (x := "len") (c.fact 6)
  b_list := He.free_ok KX G (x := "list") (c.fact 7)
  b_min := He.free_ok KX G (x := "min") (c.fact 8)
  b_range := He.free_ok KX G (x := "range") (c.fact 9)
  b_repr := He.free_ok KX G (x := "repr") (c.fact 10)
  b_sorted := He.free_ok KX G (x := "sorted") (c.fact 11)
  b_sum := He.free_ok KX G (x := "sum") (c.fact 12)
  b_super := He.free_ok KX G (x := "super") (c.fact 13)
  b_tuple := He.free_ok KX G (x := "tuple") (c.fact 14)
  f_is_integer := He.glo_ok KX G (x := "is_integer") (c.fact 15)
  f_is_count := He.glo_ok KX G (x := "is_count") (c.fact 16)
  f_is_row := He.glo_ok KX G (x := "is_row") (c.fact 17)
  f_is_thing := He.glo_ok KX G (x := "is_thing") (c.fact 18)
  f_misplaced := He.glo_ok KX G (x := "misplaced") (c.fact 19)
  f_set_of := He.glo_ok KX G (x := "set_of") (c.fact 20)
  f_minus := He.glo_ok KX G (x := "minus") (c.fact 21)
  f_lists_of := He.glo_ok KX G (x := "lists_of") (c.fact 22)
  f_shifted := He.glo_ok KX G (x := "shifted") (c.fact 23)
  f_placed := He.glo_ok KX G (x := "placed") (c.fact 24)
  f_seated := He.glo_ok KX G (x := "seated") (c.fact 25)
  f_places_for := He.glo_ok KX G (x := "places_for") (c.fact 26)
  f__law_pool := He.glo_ok KX G (x := "_law_pool") (c.fact 27)
  f__law_mixed := He.glo_ok KX G (x := "_law_mixed") (c.fact 28)
  f__law_draw := He.glo_ok KX G (x := "_law_draw") (c.fact 29)
  f__law_digits := He.glo_ok KX G (x := "_law_digits") (c.fact 30)
  f__law_number := He.glo_ok KX G (x := "_law_number") (c.fact 31)
  f__law_subset := He.glo_ok KX G (x := "_law_subset") (c.fact 32)
  f__law_subsets := He.glo_ok KX G (x := "_law_subsets") (c.fact 33)
  f__law_counted := He.glo_ok KX G (x := "_law_counted") (c.fact 34)
  f__law_told := He.glo_ok KX G (x := "_law_told") (c.fact 35)
  f__law_axioms := He.glo_ok KX G (x := "_law_axioms") (c.fact 36)
  f__law_refused := He.glo_ok KX G (x := "_law_refused") (c.fact 37)
  f_law := He.glo_ok KX G (x := "law") (c.fact 38)
  c_PricesError := He.glo_ok KX G (x := "PricesError") (c.fact 39)
  c_BadNumber := He.glo_ok KX G (x := "BadNumber") (c.fact 40)
  c_BadSet := He.glo_ok KX G (x := "BadSet") (c.fact 41)
  c_BadEntry := He.glo_ok KX G (x := "BadEntry") (c.fact 42)
  c_NotFree := He.glo_ok KX G (x := "NotFree") (c.fact 43)
  c_Rule := He.glo_ok KX G (x := "Rule") (c.fact 44)
  c_Lists := He.glo_ok KX G (x := "Lists") (c.fact 45)
  c_Firsts := He.glo_ok KX G (x := "Firsts") (c.fact 46)
  c_Teams := He.glo_ok KX G (x := "Teams") (c.fact 47)
  c_Works := He.glo_ok KX G (x := "Works") (c.fact 48)
  cl_Rule := He.cls_ok (x := "Rule") (c.fact 49)
  mk_Rule := mk_okX (c.fact 50)
  m_Rule__free := meth_okX (c.fact 51)
  m_Rule__rank := meth_okX (c.fact 52)
  m_Rule_dead := meth_okX (c.fact 53)
  m_Rule_firm := meth_okX (c.fact 54)
  m_Rule_is_free := meth_okX (c.fact 55)
  m_Rule_rank := meth_okX (c.fact 56)
  cl_Lists := He.cls_ok (x := "Lists") (c.fact 57)
  mk_Lists := mk_okX (c.fact 58)
  m_Lists__free := meth_okX (c.fact 59)
  m_Lists__rank := meth_okX (c.fact 60)
  m_Lists_dead := meth_okX (c.fact 61)
  m_Lists_firm := meth_okX (c.fact 62)
  m_Lists_is_free := meth_okX (c.fact 63)
  m_Lists_rank := meth_okX (c.fact 64)
  cl_Firsts := He.cls_ok (x := "Firsts") (c.fact 65)
  mk_Firsts := mk_okX (c.fact 66)
  m_Firsts__free := meth_okX (c.fact 67)
  m_Firsts__rank := meth_okX (c.fact 68)
  m_Firsts_dead := meth_okX (c.fact 69)
  m_Firsts_firm := meth_okX (c.fact 70)
  m_Firsts_is_free := meth_okX (c.fact 71)
  m_Firsts_rank := meth_okX (c.fact 72)
  cl_Teams := He.cls_ok (x := "Teams") (c.fact 73)
  mk_Teams := mk_okX (c.fact 74)
  m_Teams__free := meth_okX (c.fact 75)
  m_Teams__rank := meth_okX (c.fact 76)
  m_Teams_dead := meth_okX (c.fact 77)
  m_Teams_firm := meth_okX (c.fact 78)
  m_Teams_is_free := meth_okX (c.fact 79)
  m_Teams_rank := meth_okX (c.fact 80)
  cl_Works := He.cls_ok (x := "Works") (c.fact 81)
  mk_Works := mk_okX (c.fact 82)
  m_Works__free := meth_okX (c.fact 83)
  m_Works__rank := meth_okX (c.fact 84)
  m_Works_dead := meth_okX (c.fact 85)
  m_Works_firm := meth_okX (c.fact 86)
  m_Works_is_free := meth_okX (c.fact 87)
  m_Works_rank := meth_okX (c.fact 88)
  fld__things := fld_okX (c.fact 89)
  fld_classes := fld_okX (c.fact 90)
  fld_days := fld_okX (c.fact 91)
  fld_lists := fld_okX (c.fact 92)
  fld_number := fld_okX (c.fact 93)
  fld_places := fld_okX (c.fact 94)
  fld_size := fld_okX (c.fact 95)
  pr_full := prop_okX (c.fact 96)
  ln := len_okX (c.fact 97)
  sup_Firsts___init__ := sup_okX (by decide) (c.fact 98)
  sup_Firsts__rank := sup_okX (by decide) (c.fact 99)
  sup_Lists___init__ := sup_okX (by decide) (c.fact 100)
  sup_Teams___init__ := sup_okX (by decide) (c.fact 101)
  sup_Works___init__ := sup_okX (by decide) (c.fact 102)
  ox_BadEntry := oex_ok (c.fact 103)
  si_BadEntry := supI_ok (c.fact 104)
  no_BadEntry := noX_ok (c.fact 105)
  in_BadEntry := ini_ok (c.fact 106)
  ox_BadNumber := oex_ok (c.fact 107)
  si_BadNumber := supI_ok (c.fact 108)
  no_BadNumber := noX_ok (c.fact 109)
  in_BadNumber := ini_ok (c.fact 110)
  ox_BadSet := oex_ok (c.fact 111)
  si_BadSet := supI_ok (c.fact 112)
  no_BadSet := noX_ok (c.fact 113)
  in_BadSet := ini_ok (c.fact 114)
  ox_NotFree := oex_ok (c.fact 115)
  si_NotFree := supI_ok (c.fact 116)
  no_NotFree := noX_ok (c.fact 117)
  in_NotFree := ini_ok (c.fact 118)
  ex_BadEntry := exm_okX (c.fact 119)
  ex_BadNumber := exm_okX (c.fact 120)
  ex_BadSet := exm_okX (c.fact 121)
  ex_PricesError := exm_okX (c.fact 122)
  xf_BadEntry := xf_okX (c.fact 123)
  xf_BadNumber := xf_okX (c.fact 124)
  xf_BadSet := xf_okX (c.fact 125)
  xn_BadEntry_place := xn_okX (c.fact 126)
  xn_BadNumber_name := xn_okX (c.fact 127)
  xn_BadSet_place := xn_okX (c.fact 128)
  nosuper := by rfl
  s_BadNumber___init__ := c.defS 0 (P := pw) rfl "BadNumber"
  s_BadSet___init__ := c.defS 1 (P := pw) rfl "BadSet"
  s_BadEntry___init__ := c.defS 2 (P := pw) rfl "BadEntry"
  s_NotFree___init__ := c.defS 3 (P := pw) rfl "NotFree"
  d_is_integer := c.def_ 4
  d_is_count := c.def_ 5
  d_is_row := c.def_ 6
  d_is_thing := c.def_ 7
  d_misplaced := c.def_ 8
  d_set_of := c.def_ 9
  d_minus := c.def_ 10
  d_Rule___init__ := c.def_ 11
  d_Rule___len__ := c.def_ 12
  d_Rule__rank := c.def_ 13
  d_Rule__free := c.def_ 14
  d_Rule_full := c.def_ 15
  d_Rule_is_free := c.def_ 16
  d_Rule_rank := c.def_ 17
  d_Rule_dead := c.def_ 18
  d_Rule_firm := c.def_ 19
  d_lists_of := c.def_ 20
  d_shifted := c.def_ 21
  d_placed := c.def_ 22
  d_seated := c.def_ 23
  s_Lists___init__ := c.defS 24 (P := pw) rfl "Lists"
  d_Lists__rank := c.def_ 25
  d_places_for := c.def_ 26
  s_Firsts___init__ := c.defS 27 (P := pw) rfl "Firsts"
  s_Firsts__rank := c.defS 28 (P := pw) rfl "Firsts"
  s_Teams___init__ := c.defS 29 (P := pw) rfl "Teams"
  d_Teams__rank := c.def_ 30
  s_Works___init__ := c.defS 31 (P := pw) rfl "Works"
  d_Works__rank := c.def_ 32
  d__law_pool := c.def_ 33
  d__law_mixed := c.def_ 34
  d__law_draw := c.def_ 35
  d__law_digits := c.def_ 36
  d__law_number := c.def_ 37
  d__law_subset := c.def_ 38
  d__law_subsets := c.def_ 39
  d__law_counted := c.def_ 40
  d__law_told := c.def_ 41
  d__law_axioms := c.def_ 42
  d__law_refused := c.def_ 43
  d_law := c.def_ 44
-- left: [] fields ['_things', 'classes', 'days', 'lists', 'number', 'places', 'size'] builtins ['abs', 'all', 'bool', 'enumerate', 'int', 'isinstance', 'len', 'list', 'min', 'range', 'repr', 'sorted', 'sum', 'super', 'tuple'] raised ['BadEntry', 'BadNumber', 'BadSet', 'NotFree'] sups [('Firsts', '__init__'), ('Firsts', '_rank'), ('Lists', '__init__'), ('Teams', '__init__'), ('Works', '__init__')]

end K00

namespace K00
open PySem PySem.Spec PyProof.Rows L2 Dl
theorem is_integer_int (i : Int) : fn_is_integer [.int i] = .ret (.bl true) [] := by rfl
theorem is_count_int (i : Int) : fn_is_count [.int i] = .ret (.bl (decide (0 ≤ i))) [] := by
  simp [fn_is_count, g_is_count, is_integer_int]
theorem is_thing_int (s i : Int) : fn_is_thing [.int s, .int i] = .ret (.bl (decide (0 ≤ i ∧ i < s))) [] := by
  by_cases h : 0 ≤ i <;> simp [fn_is_thing, g_is_thing, is_integer_int, h]
/-- a set of things, ascending -/
def Asc (size : Nat) (xs : List Nat) : Prop := xs.Pairwise (· < ·) ∧ ∀ x ∈ xs, x < size
/-- misplaced: the entries up to ys continue a set; what comes then -/
theorem misplaced_gen {size : Nat} {ys zs : List Nat} (hy : Asc size ys) (rest : List Nat) (hz : zs = ys ++ rest) (th : D) (hi : items th = some (zs.map nD)) (Q : FOut → Prop)
    (h0 : rest = [] → Q (.ret .non [])) (h1 : ∀ x r, rest = x :: r → (size ≤ x ∨ ∃ y, ys.getLast? = some y ∧ x ≤ y) ∧ Q (.ret (.int ys.length) [])) : Q (fn_misplaced [.int size, th]) := by
  refine fin_fn rfl ?_
  simp [g_misplaced, hi, numbered_map nD zs 0]
  refine sat_for_seq (fun (done : List (Nat × Nat)) e => (∃ s3 s4 b, e = [.val (.int size), .val th, .val (.int b), s3, s4] ∧ ((b = -1 ∧ done = []) ∨ ∃ p, done.getLast? = some p ∧ b = (p.1 : Int)) ∧ done.length ≤ ys.length)) ?_ ?_ ?_
  · exact ⟨.un, .un, -1, rfl, .inl ⟨rfl, rfl⟩, by simp⟩
  · rintro done ⟨x, i⟩ tl he e ⟨s3, s4, b, rfl, hb, hd⟩
    have hg : (zs.zipIdx 0)[done.length]? = some (x, i) := by rw [he]; simp
    simp only [List.getElem?_zipIdx, Option.map_eq_some_iff] at hg
    obtain ⟨x', hx', hq⟩ := hg
    simp at hq
    obtain ⟨rfl, rfl⟩ := hq
    refine ⟨_, rfl, ?_⟩
    -- the last one before
    have hl : ∀ p, done.getLast? = some p → zs[done.length - 1]? = some p.1 := fun p hp => by
      have h1 := List.getLast?_eq_getElem? (l := done)
      rw [hp] at h1
      have hpos : 0 < done.length := by cases done with | nil => simp at hp | cons _ _ => simp
      have h2 : (zs.zipIdx 0)[done.length - 1]? = some p := by rw [he, List.getElem?_append_left (by omega), ← h1]
      simp only [List.getElem?_zipIdx, Option.map_eq_some_iff] at h2
      obtain ⟨a, h3, h4⟩ := h2
      rw [h3, ← h4]
    by_cases hlt : done.length < ys.length
    · have hxy : ys[done.length]? = some x' := by rw [hz, List.getElem?_append_left hlt] at hx'; exact hx'
      have h1 : x' < size := hy.2 x' (List.mem_of_getElem? hxy)
      have h2 : b < x' := by
        rcases hb with ⟨rfl, _⟩ | ⟨p, hp, rfl⟩
        · omega
        · have hpos : 0 < done.length := by cases done with | nil => simp at hp | cons _ _ => simp
          have h3 := hl p hp
          rw [hz, List.getElem?_append_left (by omega)] at h3
          have h4 := List.pairwise_iff_getElem.mp hy.1 (done.length - 1) done.length (by omega) hlt (by omega)
          rw [List.getElem?_eq_getElem (by omega)] at h3 hxy
          simp at h3 hxy
          omega
      have h3 : ¬ size ≤ x' := by omega
      have h4 : ¬ (x' : Int) ≤ b := by omega
      simp [is_thing_int, h3, h4, h1]
      exact ⟨_, _, _, ⟨rfl, rfl, rfl⟩, rfl, by omega⟩
    · have hyl : ys.length = done.length := by omega
      have hxr : rest.head? = some x' := by
        rw [hz, List.getElem?_append_right (by omega), ← hyl, Nat.sub_self] at hx'
        rw [List.head?_eq_getElem?, hx']
      cases rest with
      | nil => simp at hxr
      | cons x'' r =>
        simp at hxr
        subst hxr
        obtain ⟨h3, h4⟩ := h1 _ r rfl
        rw [hyl] at h4
        by_cases h5 : x'' < size
        · have h8 : (x'' : Int) ≤ b := ?_
          · simp [is_thing_int, h5, h8, h4]
          · rcases h3 with h3 | ⟨y, h3, h6⟩
            · omega
            · rcases hb with ⟨rfl, rfl⟩ | ⟨p, hp, rfl⟩
              · simp at hyl; subst hyl; simp at h3
              · have h7 := hl p hp
                have hyp : 0 < ys.length := by
                  cases ys with
                  | nil => simp at h3
                  | cons _ _ => simp
                rw [hz, ← hyl, List.getElem?_append_left (by omega), ← List.getLast?_eq_getElem?, h3] at h7
                simp at h7
                omega
        · simp [is_thing_int, h5, h4]
  · rintro e ⟨s3, s4, b, rfl, hb, hd⟩
    simp
    cases rest with
    | nil => exact h0 rfl
    | cons x r => simp [hz] at hd; omega
theorem misplaced_ok {size : Nat} {xs : List Nat} (h : Asc size xs) (th : D) (hi : items th = some (xs.map nD)) : fn_misplaced [.int size, th] = .ret .non [] :=
  misplaced_gen h [] (by simp) th hi (· = .ret .non []) (fun _ => rfl) (by simp)
theorem misplaced_at {size : Nat} {ys r zs : List Nat} {x : Nat} (h : Asc size ys) (hz : zs = ys ++ x :: r) (hb : size ≤ x ∨ ∃ y, ys.getLast? = some y ∧ x ≤ y) (th : D) (hi : items th = some (zs.map nD)) : fn_misplaced [.int size, th] = .ret (.int ys.length) [] :=
  misplaced_gen h (x :: r) hz th hi (· = .ret (.int ys.length) []) (by simp) (fun a b e => by cases e; exact ⟨hb, rfl⟩)
theorem set_of_ok {size : Nat} {xs : List Nat} (h : Asc size xs) (th : D) (hi : items th = some (xs.map nD)) : fn_set_of [.int size, th] = .ret (tN xs) [] := by
  have hg : gTupleOf th = some (tN xs) := by
    cases th <;> simp [items] at hi <;> simp [gTupleOf, tN, hi]
  simp [fn_set_of, g_set_of, misplaced_ok h th hi, hg]
theorem set_of_bad {size : Nat} {n : Int} {th : D} (h : fn_misplaced [.int size, th] = .ret (.int n) []) : fn_set_of [.int size, th] = .exc "BadSet" ["place"] [.int n] [] := by
  simp [fn_set_of, g_set_of, h, sRaise]
end K00

namespace K00
open PySem PySem.Spec PyProof.Rows L2 Dl
/-- an object of a rule -/
def oR (c : Str) (size : Nat) (ns : List Str) (ds : List D) : D := .ins c ("size" :: "_things" :: ns) (.int size :: tN (List.range size) :: ds)
def rules : List Str := ["Rule", "Lists", "Firsts", "Teams", "Works"]
theorem Rule_init {c : Str} (hc : c ∈ rules) {size : Nat} (hs : size ≤ 1000000) : fn_Rule___init__ [.ins c [] [], .int size] = .ret .non [oR c size [] []] := by
  simp [rules] at hc
  simp [fn_Rule___init__, g_Rule___init__, is_count_int, hc, hs, oR, tN]
theorem Rule_init_bad {c : Str} {s : Int} (hs : s < 0) : fn_Rule___init__ [.ins c [] [], .int s] = .exc "BadNumber" ["name"] [.str "size"] [.ins c [] []] := by
  simp [fn_Rule___init__, g_Rule___init__, is_count_int, hs]
theorem Rule_len {c : Str} (hc : c ∈ rules) {size : Nat} {ns : List Str} {ds : List D} : fn_Rule___len__ [oR c size ns ds] = .ret (.int size) [] := by
  simp [rules] at hc
  simp [fn_Rule___len__, g_Rule___len__, hc, oR]
theorem rank_Rule {x : D} (xs : List Nat) : fn_Rule__rank [x, tN xs] = .ret (.int xs.length) [] := by
  simp [fn_Rule__rank, g_Rule__rank]
end K00
namespace K00
open PySem PySem.Spec PyProof.Rows L2 Dl
def mths : List Str := ["_rank", "_free", "is_free", "rank", "dead", "firm", "size", "_things"]
structure RuleD (o : D) (size : Nat) (rk : List Nat → Nat) : Prop where
  le : size ≤ 1000
  form : ∃ c ns ds, c ∈ rules ∧ o = oR c size ns ds ∧ ∀ m ∈ mths, m ∉ ns
  rank : ∀ xs, Asc size xs → ∃ f, methOf "_rank" dp__rank o = some f ∧ f [o, tN xs] = .ret (.int (rk xs)) []
section
variable {o : D} {size : Nat} {rk : List Nat → Nat}
theorem RuleD.fsize (h : RuleD o size rk) : gFld fc_size "size" o = some (.int size) := by
  obtain ⟨c, ns, ds, hc, rfl, hm⟩ := h.form
  simp [rules] at hc
  simp [oR, hc]
theorem RuleD.things (h : RuleD o size rk) : gFld fc__things "_things" o = some (tN (List.range size)) := by
  obtain ⟨c, ns, ds, hc, rfl, hm⟩ := h.form
  simp [rules] at hc
  simp [oR, hc]
theorem RuleD.meth (h : RuleD o size rk) {m : Str} {f : FSem} (hm : m ∈ mths ∧ m ≠ "size" ∧ m ≠ "_things") {dp : Disp} (hd : ∀ c ∈ rules, dp c = some f) : methOf m dp o = some f := by
  obtain ⟨c, ns, ds, hc, rfl, hn⟩ := h.form
  have h1 := hn m hm.1
  have h2 := hd c hc
  simp [oR, h1, h2, hm.2.1, hm.2.2]
theorem RuleD.m_free (h : RuleD o size rk) : methOf "_free" dp__free o = some fn_Rule__free := h.meth (by simp [mths]) (by simp [rules, dp__free])
theorem RuleD.m_is_free (h : RuleD o size rk) : methOf "is_free" dp_is_free o = some fn_Rule_is_free := h.meth (by simp [mths]) (by simp [rules, dp_is_free])
theorem RuleD.m_rank (h : RuleD o size rk) : methOf "rank" dp_rank o = some fn_Rule_rank := h.meth (by simp [mths]) (by simp [rules, dp_rank])
theorem RuleD.m_dead (h : RuleD o size rk) : methOf "dead" dp_dead o = some fn_Rule_dead := h.meth (by simp [mths]) (by simp [rules, dp_dead])
theorem RuleD.m_firm (h : RuleD o size rk) : methOf "firm" dp_firm o = some fn_Rule_firm := h.meth (by simp [mths]) (by simp [rules, dp_firm])
theorem Rule_free (h : RuleD o size rk) {xs : List Nat} (hx : Asc size xs) : fn_Rule__free [o, tN xs] = .ret (.bl (decide (rk xs = xs.length))) [] := by
  obtain ⟨f, h1, h2⟩ := h.rank xs hx
  simp [fn_Rule__free, g_Rule__free, h1, h2]
theorem Rule_is_free (h : RuleD o size rk) {xs : List Nat} (hx : Asc size xs) {th : D} (ht : items th = some (xs.map nD)) : fn_Rule_is_free [o, th] = .ret (.bl (decide (rk xs = xs.length))) [] := by
  simp [fn_Rule_is_free, g_Rule_is_free, h.fsize, set_of_ok hx th ht, h.m_free, Rule_free h hx]
theorem Rule_is_free_bad (h : RuleD o size rk) {th : D} {n : Int} (ht : fn_misplaced [.int size, th] = .ret (.int n) []) : fn_Rule_is_free [o, th] = .exc "BadSet" ["place"] [.int n] [] := by
  simp [fn_Rule_is_free, g_Rule_is_free, h.fsize, set_of_bad ht, h.m_free]
theorem Rule_rank (h : RuleD o size rk) {xs : List Nat} (hx : Asc size xs) {th : D} (ht : items th = some (xs.map nD)) : fn_Rule_rank [o, th] = .ret (.int (rk xs)) [] := by
  obtain ⟨f, h1, h2⟩ := h.rank xs hx
  simp [fn_Rule_rank, g_Rule_rank, h.fsize, set_of_ok hx th ht, h1, h2]
theorem Rule_rank_bad (h : RuleD o size rk) {th : D} {n : Int} (ht : fn_misplaced [.int size, th] = .ret (.int n) []) : fn_Rule_rank [o, th] = .exc "BadSet" ["place"] [.int n] [] := by
  obtain ⟨f, h1, h2⟩ := h.rank [] ⟨by simp, by simp⟩
  simp [fn_Rule_rank, g_Rule_rank, h.fsize, set_of_bad ht, h1]
theorem asc_range {size : Nat} : Asc size (List.range size) := ⟨List.pairwise_lt_range, by simp⟩
theorem Asc.sub {xs ys : List Nat} (h : Asc size xs) (s : ys.Sublist xs) : Asc size ys := ⟨h.1.sublist s, fun x hx => h.2 x (s.mem hx)⟩
theorem Asc.nodup {xs : List Nat} (h : Asc size xs) : xs.Nodup := h.1.imp (by omega)
theorem Asc.len {xs : List Nat} (h : Asc size xs) : xs.length ≤ size := by
  have := List.Nodup.length_le_of_subset (l₂ := List.range size) h.nodup (fun x hx => by simpa using h.2 x hx)
  simpa using this
theorem Rule_full (h : RuleD o size rk) : fn_Rule_full [o] = .ret (.int (rk (List.range size))) [] := by
  obtain ⟨f, h1, h2⟩ := h.rank _ asc_range
  simp [fn_Rule_full, g_Rule_full, h.things, h1, h2]
theorem minus_tN (xs ys : List Nat) (hl : xs.length ≤ 1000000) : fn_minus [tN xs, tN ys] = .ret (tN (xs.filter fun x => !decide (x ∈ ys))) [] := by
  simp [fn_minus, g_minus]
  rw [comp_eq (xs := xs) (en := nD) (e1 := [.val (tN xs), .val (tN ys), .un]) (fun x => !decide (x ∈ ys)) nD (by simp) hl rfl]
  · simp; rfl
  · intro x hx
    exact ⟨_, rfl, by simp, by simp, rfl⟩
theorem Rule_dead (h : RuleD o size rk) : fn_Rule_dead [o] = .ret (tN ((List.range size).filter fun x => decide (rk [x] = 0))) [] := by
  simp [fn_Rule_dead, g_Rule_dead]
  rw [comp_eq (xs := List.range size) (en := nD) (e1 := [.val o, .un]) (fun x => decide (rk [x] = 0)) nD (by simp [h.things]) (by have := h.le; simp; omega) rfl]
  · simp; rfl
  · intro x hx
    obtain ⟨f, h1, h2⟩ := h.rank [x] ⟨by simp, by simpa using hx⟩
    have e : tN [x] = .tup [.int x] := rfl
    rw [e] at h2
    refine ⟨_, rfl, by simp [h1, h2], by simp, rfl⟩
theorem Rule_firm (h : RuleD o size rk) : fn_Rule_firm [o] = .ret (tN ((List.range size).filter fun x => decide (rk ((List.range size).filter fun y => !decide (y = x)) < rk (List.range size)))) [] := by
  have hins : ∃ c ns ds, c ∈ rules ∧ o = .ins c ns ds := by
    obtain ⟨c, ns, ds, hc, rfl, hm⟩ := h.form
    exact ⟨c, _, _, hc, rfl⟩
  obtain ⟨c, ns, ds, hc, hins⟩ := hins
  have hf : eGet cs_full fn_Rule_full (eVar 0) [.val o, .un, .un] = .ok (.int (rk (List.range size))) [.val o, .un, .un] := by
    have := Rule_full h
    simp [rules] at hc
    subst hins
    simp [this, hc]
  simp only [fn_Rule_firm, g_Rule_firm, fnOf', List.length_cons, List.length_nil, mkEnv_v, mkEnv_0, sSeq', sSet']
  have er : (List.replicate 2 Sl.un) = [.un, .un] := rfl
  rw [er, hf]
  simp
  rw [comp_eq (xs := List.range size) (en := nD) (e1 := [.val o, .val (.int (rk (List.range size))), .un]) (fun x => decide (rk ((List.range size).filter fun y => !decide (y = x)) < rk (List.range size))) nD (by simp [h.things]) (by have := h.le; simp; omega) rfl]
  · simp; rfl
  · intro x hx
    obtain ⟨f, h1, h2⟩ := h.rank _ (asc_range.sub (List.filter_sublist (p := fun y => !decide (y = x))))
    have e := minus_tN (List.range size) [x] (by have := h.le; simp; omega)
    have e1 : tN [x] = .tup [.int x] := rfl
    rw [e1] at e
    simp at e h2
    refine ⟨_, rfl, by simp [h1, h2, h.things, e], by simp, rfl⟩
end
end K00

namespace K00
open PySem PySem.Spec PyProof.Rows L2 Dl
theorem Firsts_init {size k : Nat} (hs : size ≤ 1000000) : fn_Firsts___init__ [.ins "Firsts" [] [], .int size, .int k] = .ret .non [oR "Firsts" size ["number"] [.int k]] := by
  have h := Rule_init (c := "Firsts") (by simp [rules]) hs
  simp [fn_Firsts___init__, g_Firsts___init__, h, is_count_int, oR]
theorem mk_Firsts {size k : Nat} (hs : size ≤ 1000) : RuleD (oR "Firsts" size ["number"] [.int k]) size (fun xs => min k xs.length) := by
  refine ⟨hs, ⟨_, _, _, by simp [rules], rfl, by simp [mths]⟩, fun xs hx => ⟨fn_Firsts__rank, by simp [oR, dp__rank], ?_⟩⟩
  have h := fun x => rank_Rule (x := x) xs
  simp [fn_Firsts__rank, g_Firsts__rank, oR, h]
  omega
theorem Rule_ok {size : Nat} (hs : size ≤ 1000) : RuleD (oR "Rule" size [] []) size (fun xs => xs.length) := 
  ⟨hs, ⟨_, _, _, by simp [rules], rfl, by simp [mths]⟩, fun xs hx => ⟨fn_Rule__rank, by simp [oR, dp__rank], rank_Rule xs⟩⟩
/-- a loop that only looks, over numbered entries -/
theorem Teams_init {classes places : List Nat} (hc : ∀ x ∈ classes, x < places.length) (hl : classes.length ≤ 1000000) (hp : places.length ≤ 1000000) :
    fn_Teams___init__ [.ins "Teams" [] [], lN classes, lN places] = .ret .non [oR "Teams" classes.length ["classes", "places"] [tN classes, tN places]] := by
  have h := Rule_init (c := "Teams") (by simp [rules]) hl
  refine ret_fn rfl ?_
  simp [g_Teams___init__, numbered_map]
  refine sat_for_seq (fun _ e => ∃ s4 s5, e = [.mt (.ins "Teams" [] []), .val (lN classes), .val (lN places), .un, s4, s5, .un]) ⟨.un, .un, rfl⟩ ?_ ?_
  · rintro done ⟨x, i⟩ tl he e ⟨s4, s5, rfl⟩
    have hx : x ∈ classes := by
      have : (x, i) ∈ classes.zipIdx 0 := by rw [he]; simp
      exact (List.mem_zipIdx this).2.2 ▸ List.getElem_mem _
    refine ⟨_, rfl, ?_⟩
    have := hc x hx
    have e1 : fn_is_thing [.int (places.length : Int), nD x] = .ret (.bl true) [] := by rw [is_thing_int]; simp; omega
    simp [e1]
  · rintro e ⟨s4, s5, rfl⟩
    simp [numbered_map]
    refine sat_for_seq (fun _ e => ∃ s4 s5 s6, e = [.mt (.ins "Teams" [] []), .val (lN classes), .val (lN places), .un, s4, s5, s6]) ⟨_, _, _, rfl⟩ ?_ ?_
    · rintro done ⟨x, i⟩ tl he e ⟨s4, s5, s6, rfl⟩
      refine ⟨_, rfl, ?_⟩
      simp [is_count_int]
    · rintro e ⟨s4, s5, s6, rfl⟩
      simp [h, oR]
theorem mk_Teams {classes places : List Nat} (hc : ∀ x ∈ classes, x < places.length) (hl : classes.length ≤ 1000) (hp : places.length ≤ 1000) :
    RuleD (oR "Teams" classes.length ["classes", "places"] [tN classes, tN places]) classes.length (fun xs => ((places.zipIdx 0).map fun p => min p.1 ((xs.map fun x => classes.getD x 0).count p.2)).sum) := by
  refine ⟨hl, ⟨_, _, _, by simp [rules], rfl, by simp [mths]⟩, fun xs hx => ⟨fn_Teams__rank, by simp [oR, dp__rank], ?_⟩⟩
  have hxl := hx.len
  simp [fn_Teams__rank, g_Teams__rank, oR]
  rw [comp_mapN (xs := xs) (en := nD) (e1 := [.val (.ins "Teams" ["size", "_things", "classes", "places"] [.int classes.length, tN (List.range classes.length), tN classes, tN places]), .val (tN xs), .un, .un, .un, .un]) (fun x => classes[x]?.getD 0) (by simp) (by omega) rfl]
  · simp
    rw [comp_mapN (xs := places.zipIdx 0) (en := fun p => .tup [nD p.2, nD p.1]) (e1 := [.val (.ins "Teams" ["size", "_things", "classes", "places"] [.int classes.length, tN (List.range classes.length), tN classes, tN places]), .val (tN xs), .val (lN (xs.map fun x => classes[x]?.getD 0)), .un, .un, .un]) (fun p => min p.1 ((xs.map fun x => classes[x]?.getD 0).count p.2)) (by simp [numbered_map]) (by simp; omega) rfl]
    · simp
    · rintro ⟨m, c⟩ hp
      refine ⟨_, rfl, ?_, rfl⟩
      simp
      omega
  · intro x h
    have h1 := hx.2 x h
    refine ⟨_, rfl, ?_, rfl⟩
    simp [h1]
/-- works: done counts -/
def worksUp : List Nat → Nat → Nat
  | [], n => n
  | d :: ds, n => worksUp ds (if n < d then n + 1 else n)
theorem Works_init {days : List Nat} (hl : days.length ≤ 1000000) : fn_Works___init__ [.ins "Works" [] [], lN days] = .ret .non [oR "Works" days.length ["days"] [tN days]] := by
  have h := Rule_init (c := "Works") (by simp [rules]) hl
  refine ret_fn rfl ?_
  simp [g_Works___init__, numbered_map]
  refine sat_for_seq (fun _ e => ∃ s3 s4, e = [.mt (.ins "Works" [] []), .val (lN days), .un, s3, s4]) ⟨.un, .un, rfl⟩ ?_ ?_
  · rintro done ⟨x, i⟩ tl he e ⟨s3, s4, rfl⟩
    refine ⟨_, rfl, ?_⟩
    simp [is_count_int]
  · rintro e ⟨s3, s4, rfl⟩
    simp [h, oR]
theorem worksUp_app (x : Nat) : ∀ (ds : List Nat) (n : Nat), worksUp (ds ++ [x]) n = if worksUp ds n < x then worksUp ds n + 1 else worksUp ds n
  | [], n => rfl
  | d :: ds, n => worksUp_app x ds _
theorem mk_Works {days : List Nat} (hl : days.length ≤ 1000) : RuleD (oR "Works" days.length ["days"] [tN days]) days.length (fun xs => worksUp (nsort (xs.map fun x => days[x]?.getD 0)) 0) := by
  refine ⟨hl, ⟨_, _, _, by simp [rules], rfl, by simp [mths]⟩, fun xs hx => ⟨fn_Works__rank, by simp [oR, dp__rank], ?_⟩⟩
  have hxl := hx.len
  refine ret_fn rfl ?_
  simp [g_Works__rank, oR]
  rw [comp_mapN (xs := xs) (en := nD) (e1 := [.val (.ins "Works" ["size", "_things", "days"] [.int days.length, tN (List.range days.length), tN days]), .val (tN xs), .val (.int 0), .un, .un]) (fun x => days[x]?.getD 0) (by simp) (by omega) rfl]
  · simp
    refine sat_for_seq (fun (done : List Nat) e => ∃ s3 s4, e = [.val (.ins "Works" ["size", "_things", "days"] [.int days.length, tN (List.range days.length), tN days]), .val (tN xs), .val (.int (worksUp done 0)), s3, s4]) ⟨.un, .un, rfl⟩ ?_ ?_
    · rintro done x tl he e ⟨s3, s4, rfl⟩
      refine ⟨_, rfl, ?_⟩
      rw [worksUp_app]
      by_cases h : worksUp done 0 < x <;> simp [h]
    · rintro e ⟨s3, s4, rfl⟩
      simp
  · intro x h
    have h1 := hx.2 x h
    refine ⟨_, rfl, ?_, rfl⟩
    simp [h1]
end K00

namespace K00
open PySem PySem.Spec PyProof.Rows L2 Dl Tv
/-- seats: places with things, no place, no thing twice -/
structure Seat (R : Nat → Nat → Prop) (s : List (Nat × Nat)) : Prop where
  keys : (s.map (·.1)).Nodup
  inj : ∀ p q x, look s p = some x → look s q = some x → p = q
  fit : ∀ p x, look s p = some x → R x p
/-- the way on which each place was met: by whom -/
def Way (R : Nat → Nat → Prop) (s : List (Nat × Nat)) (thing : Nat) (c : List (Nat × Nat)) : Prop :=
  ∀ (i p m : Nat), c[i]? = some (p, m) → R m p ∧ (m = thing ∨ ∃ (j q m' : Nat), j < i ∧ c[j]? = some (q, m') ∧ look s q = some m)
theorem key_at {c : List (Nat × Nat)} (hc : (c.map (·.1)).Nodup) {i j q a b : Nat} (h1 : c[i]? = some (q, a)) (h2 : c[j]? = some (q, b)) : i = j := by
  have e1 : (c.map (·.1))[i]? = some q := by rw [List.getElem?_map, h1]; rfl
  have e2 : (c.map (·.1))[j]? = some q := by rw [List.getElem?_map, h2]; rfl
  have l1 := (List.getElem?_eq_some_iff.mp e1).1
  exact (List.getElem?_inj l1 hc).mp (e1.trans e2.symm)
structure Fr (R : Nat → Nat → Prop) (s c : List (Nat × Nat)) (f : List (Nat × Nat)) (i : Nat) (mover : Nat) : Prop where
  keys : (f.map (·.1)).Nodup
  len : f.length = s.length + 1
  same : ∀ (j q m : Nat), j < i → c[j]? = some (q, m) → look f q = look s q
  fit : ∀ p x, look f p = some x → R x p
  inj : ∀ p q x, look s p ≠ some mover → look s q ≠ some mover → look f p = some x → look f q = some x → p = q
  img : ∀ x, (∃ p, look s p ≠ some mover ∧ look f p = some x) ↔ (x = mover ∨ ∃ p, look s p = some x)
theorem put_len {α : Type} {f : List (Nat × α)} {q : Nat} {m : α} (h : look f q ≠ none) : (put f q m).length = f.length := by
  have h1 := congrArg List.length (put_keys f q m)
  rw [if_pos (Classical.byContradiction fun z => h (look_none_iff.mpr z))] at h1
  simpa using h1
theorem put_len_new {α : Type} {f : List (Nat × α)} {q : Nat} {m : α} (h : look f q = none) : (put f q m).length = f.length + 1 := by
  rw [put_new (look_none_iff.mp h)]
  simp
section
variable {R : Nat → Nat → Prop} {s c f : List (Nat × Nat)} {i thing place mover : Nat}
theorem Fr.start (hs : Seat R s) (hc : (c.map (·.1)).Nodup) (hi : c[i]? = some (place, mover)) (hw : Way R s thing c) (hf : look s place = none) : Fr R s c (put s place mover) i mover := by
  have hl := look_put s place mover
  refine ⟨put_nodup hs.keys, put_len_new hf, fun j q m hj hq => ?_, fun p x h => ?_, fun p q x h1 h2 h3 h4 => ?_, fun x => ⟨fun ⟨p, h1, h2⟩ => ?_, fun h => ?_⟩⟩
  · have : q ≠ place := fun z => by subst z; have := key_at hc hi hq; omega
    rw [hl, if_neg this]
  · rw [hl] at h
    split at h
    · rename_i e; subst e; cases h; exact (hw i _ _ hi).1
    · exact hs.fit p x h
  · rw [hl] at h3 h4
    have := hs.inj p q x
    grind
  · rw [hl] at h2
    grind
  · rcases h with rfl | ⟨p, h⟩
    · exact ⟨place, by rw [hf]; simp, by rw [hl, if_pos rfl]⟩
    · by_cases e : x = mover
      · exact ⟨place, by rw [hf]; simp, by rw [hl, if_pos rfl, e]⟩
      · refine ⟨p, by rw [h]; simpa using e, ?_⟩
        have : p ≠ place := fun z => by rw [z, hf] at h; cases h
        rw [hl, if_neg this, h]
theorem Fr.step (hs : Seat R s) (hc : (c.map (·.1)).Nodup) (hw : Way R s thing c) (ht : ∀ p, look s p ≠ some thing) (h : Fr R s c f i mover) {j q m' : Nat} (hj : j < i) (hq : c[j]? = some (q, m')) (hm : look s q = some mover) (hne : mover ≠ thing) : Fr R s c (put f q m') j m' := by
  have hl := look_put f q m'
  have hfq : look f q = some mover := by rw [h.same j q m' hj hq, hm]
  have w := hw j q m' hq
  have h1 : m' ≠ mover := by
    rintro rfl
    rcases w.2 with e | ⟨j', q', a, e1, e2, e3⟩
    · exact hne e
    · have : q' = q := hs.inj _ _ _ e3 hm
      subst this
      have := key_at hc hq e2
      omega
  -- the home of m'
  have home : m' = thing ∨ ∃ q1, look s q1 = some m' ∧ look f q1 = some m' := by
    rcases w.2 with e | ⟨j', q', a, e1, e2, e3⟩
    · exact .inl e
    · exact .inr ⟨q', e3, by rw [h.same j' q' a (by omega) e2, e3]⟩
  have nm : ∀ p, p ≠ q → look s p ≠ some mover := fun p hp z => hp (hs.inj _ _ _ z hm)
  -- nobody but at home has m'
  have only : ∀ p, p ≠ q → look f p = some m' → look s p = some m' := fun p hp hpm => by
    rcases home with e | ⟨q1, e1, e2⟩
    · have := (h.img thing).mp ⟨p, nm p hp, by rw [hpm, e]⟩
      rcases this with z | ⟨p', z⟩
      · exact absurd z.symm hne
      · exact absurd z (ht p')
    · have h2 : q1 ≠ q := fun z => by rw [z, hm] at e1; exact h1 (by injection e1.symm)
      have := h.inj p q1 m' (nm p hp) (nm q1 h2) hpm e2
      rw [this, e1]
  refine ⟨put_nodup h.keys, by rw [put_len (by rw [hfq]; simp), h.len], fun j' q' m hj' hq' => ?_, fun p x hp => ?_, fun p r x a1 a2 a3 a4 => ?_, fun x => ⟨fun ⟨p, a1, a2⟩ => ?_, fun hx => ?_⟩⟩
  · have : q' ≠ q := fun z => by subst z; have := key_at hc hq hq'; omega
    rw [hl, if_neg this]
    exact h.same j' q' m (by omega) hq'
  · rw [hl] at hp
    split at hp
    · rename_i e; subst e; cases hp; exact w.1
    · exact h.fit p x hp
  · rw [hl] at a3 a4
    by_cases e1 : p = q
    · by_cases e2 : r = q
      · rw [e1, e2]
      · rw [if_pos e1] at a3
        rw [if_neg e2] at a4
        cases a3
        exact absurd (only r e2 a4) a2
    · by_cases e2 : r = q
      · rw [if_neg e1] at a3
        rw [if_pos e2] at a4
        cases a4
        exact absurd (only p e1 a3) a1
      · rw [if_neg e1] at a3
        rw [if_neg e2] at a4
        exact h.inj p r x (nm p e1) (nm r e2) a3 a4
  · rw [hl] at a2
    by_cases e1 : p = q
    · rw [if_pos e1] at a2
      cases a2
      exact .inl rfl
    · rw [if_neg e1] at a2
      rcases (h.img x).mp ⟨p, nm p e1, a2⟩ with rfl | z
      · exact .inr ⟨q, hm⟩
      · exact .inr z
  · have at_q : ∃ p, look s p ≠ some m' ∧ look (put f q m') p = some m' := ⟨q, by rw [hm]; simpa using Ne.symm h1, by rw [hl, if_pos rfl]⟩
    rcases hx with rfl | hx
    · exact at_q
    · obtain ⟨p, b1, b2⟩ := (h.img x).mpr (.inr hx)
      by_cases e : x = m'
      · rw [e]; exact at_q
      · have hpq : p ≠ q := fun z => b1 (by rw [z, hm])
        refine ⟨p, fun z => ?_, by rw [hl, if_neg hpq, b2]⟩
        rcases home with e' | ⟨q1, c1, c2⟩
        · exact ht p (by rw [z, e'])
        · have : p = q1 := hs.inj _ _ _ z c1
          subst this
          rw [b2] at c2
          exact e (by injection c2)
end
/-- where each seated thing sits -/
def homes (s : List (Nat × Nat)) : List (Nat × Nat) := (s.map (·.1)).map fun p => ((look s p).getD 0, p)
theorem look_isSome {α : Type} {s : List (Nat × α)} {p : Nat} (h : p ∈ s.map (·.1)) : ∃ x, look s p = some x := by
  cases e : look s p with
  | none => exact absurd h (look_none_iff.mp e)
  | some x => exact ⟨x, rfl⟩
section
variable {R : Nat → Nat → Prop} {s c : List (Nat × Nat)} {thing place : Nat}
theorem homes_nodup (hs : Seat R s) : ((s.map (·.1)).map fun p => (look s p).getD 0).Nodup := by
  refine nodup_map_of hs.keys fun p hp q hq e => ?_
  obtain ⟨x, hx⟩ := look_isSome hp
  obtain ⟨y, hy⟩ := look_isSome hq
  rw [hx, hy] at e
  simp at e
  subst e
  exact hs.inj p q x hx hy
theorem homes_look (hs : Seat R s) {q m : Nat} (h : look s q = some m) : look (homes s) m = some q := by
  refine look_of_mem (by unfold homes; rw [List.map_map]; exact homes_nodup hs) ?_
  refine List.mem_map.mpr ⟨q, ?_, by rw [h]; rfl⟩
  exact Classical.byContradiction fun z => by rw [look_none_iff.mpr z] at h; cases h
theorem shifted_ok (hs : Seat R s) (hlen : s.length ≤ 1000) (hlenc : c.length ≤ 1000) (ht : ∀ p, look s p ≠ some thing) (hc : (c.map (·.1)).Nodup) (hw : Way R s thing c) (hp : place ∈ c.map (·.1)) (hfree : look s place = none) :
    ∃ s', fn_shifted [dC nD s, dC nD c, nD place, nD thing] = .ret (dC nD s') [] ∧ Seat R s' ∧ s'.length = s.length + 1 ∧ ∀ x, (∃ p, look s' p = some x) ↔ (x = thing ∨ ∃ p, look s p = some x) := by
  refine fin_fn (R := fun o => ∃ s', o = .ret (dC nD s') [] ∧ Seat R s' ∧ s'.length = s.length + 1 ∧ ∀ x, (∃ p, look s' p = some x) ↔ (x = thing ∨ ∃ p, look s p = some x)) rfl ?_
  have hlen' : s.length ≤ 1000000 := by omega
  obtain ⟨mover, hmv⟩ := look_isSome hp
  obtain ⟨i, hi⟩ := List.getElem?_of_mem (look_some_mem hmv)
  simp [g_shifted, merge_d hs.keys, hlen']
  rw [dcomp_d (xs := s.map (·.1)) (ex := nD) (en := nD) (e1 := [.val (dC nD s), .val (dC nD c), .val (nD place), .val (nD thing), .own (dO nD s), .un, .un, .un]) (fun p => (look s p).getD 0) (fun p => p) (by simp) (by simp; omega) rfl (homes_nodup hs)]
  · have eh : ((s.map (·.1)).map fun p => ((look s p).getD 0, p)) = homes s := rfl
    rw [eh]
    simp [hmv, hlen']
    refine sat_while_seq (fun m e => ∃ (pl mv : Nat) (f : List (Nat × Nat)) (s7 : Sl), e = [.val (dC nD s), .val (dC nD c), .val (nD pl), .val (nD thing), .own (dO nD f), .own (dO nD (homes s)), .val (nD mv), s7] ∧ c[m]? = some (pl, mv) ∧ Fr R s c f m mv) i ?_ ?_ ?_
    · have := (List.getElem?_eq_some_iff.mp hi).1
      unfold turns
      omega
    · exact ⟨place, mover, _, _, rfl, hi, Fr.start hs hc hi hw hfree⟩
    · rintro m e ⟨pl, mv, f, s7, rfl, hm, hf⟩
      refine ⟨!decide (mv = thing), [.val (dC nD s), .val (dC nD c), .val (nD pl), .val (nD thing), .own (dO nD f), .own (dO nD (homes s)), .val (nD mv), s7], by simp, ?_⟩
      by_cases hmt : mv = thing
      · subst hmt
        simp
        refine ⟨f, rfl, ⟨hf.keys, fun p q x => hf.inj p q x (ht p) (ht q), hf.fit⟩, hf.len, fun x => ?_⟩
        rw [← hf.img x]
        exact ⟨fun ⟨p, h⟩ => ⟨p, ht p, h⟩, fun ⟨p, _, h⟩ => ⟨p, h⟩⟩
      · rcases (hw m pl mv hm).2 with e | ⟨j, q, m', h1, h2, h3⟩
        · exact absurd e hmt
        · have hcq : look c q = some m' := look_of_mem hc (List.mem_of_getElem? h2)
          have hfl := hf.len
          have hfl' : f.length ≤ 1000000 := by omega
          simp [hmt, homes_look hs h3, hcq, hfl']
          exact ⟨j, h1, q, m', _, ⟨rfl, rfl, rfl⟩, h2, hf.step hs hc hw ht h1 h2 h3 hmt⟩
  · intro p hp
    obtain ⟨x, hx⟩ := look_isSome hp
    exact ⟨_, rfl, by simp [hx], by simp, rfl⟩
end
end K00

namespace K00
open PySem PySem.Spec PyProof.Rows L2 Dl Tv
/-- x fits the place p -/
def Fits (F : List (Nat × List Nat)) (x p : Nat) : Prop := ∃ l, look F x = some l ∧ p ∈ l
structure FitsOk (F : List (Nat × List Nat)) (P : Nat) : Prop where
  le : P ≤ 1000
  nd : ∀ x l, look F x = some l → l.Nodup ∧ ∀ p ∈ l, p < P
/-- all places of C are taken, and nobody of its things and not the new thing can leave it -/
def Closed (R : Nat → Nat → Prop) (s : List (Nat × Nat)) (thing : Nat) (C : List Nat) : Prop :=
  C.Nodup ∧ (∀ p, R thing p → p ∈ C) ∧ ∀ p ∈ C, ∃ x, look s p = some x ∧ ∀ q, R x q → q ∈ C
def More (R : Nat → Nat → Prop) (s s' : List (Nat × Nat)) (thing : Nat) : Prop :=
  Seat R s' ∧ s'.length = s.length + 1 ∧ ∀ x, (∃ p, look s' p = some x) ↔ (x = thing ∨ ∃ p, look s p = some x)
/-- the search: what is known when the first n places of the row are done -/
structure Bf (F : List (Nat × List Nat)) (s : List (Nat × Nat)) (thing P : Nat) (c : List (Nat × Nat)) (n : Nat) : Prop where
  keys : (c.map (·.1)).Nodup
  lt : ∀ p ∈ c.map (·.1), p < P
  way : Way (Fits F) s thing c
  le : n ≤ c.length
  first : ∀ p, Fits F thing p → p ∈ c.map (·.1)
  done : ∀ (i p m : Nat), i < n → c[i]? = some (p, m) → ∃ x, look s p = some x ∧ ∀ q, Fits F x q → q ∈ c.map (·.1)
theorem Bf.len {F : List (Nat × List Nat)} {s : List (Nat × Nat)} {thing P : Nat} {c : List (Nat × Nat)} {n : Nat} (h : Bf F s thing P c n) : c.length ≤ P := by
  have := List.Nodup.length_le_of_subset (l₂ := List.range P) h.keys (fun x hx => by simpa using h.lt x hx)
  simpa using this
section
variable {F : List (Nat × List Nat)} {s c : List (Nat × Nat)} {thing P n : Nat}
theorem map_pair {α : Type} (l : List Nat) (t : α) : (l.map fun p => (p, t)).map (·.1) = l := by induction l with
  | nil => rfl
  | cons a l ih => rw [List.map_cons, List.map_cons, ih]
theorem Bf.start (hF : FitsOk F P) {l : List Nat} (hl : look F thing = some l) : Bf F s thing P (l.map fun p => (p, thing)) 0 := by
  have e : (l.map fun p => (p, thing)).map (·.1) = l := map_pair l thing
  refine ⟨by rw [e]; exact (hF.nd _ _ hl).1, by rw [e]; exact (hF.nd _ _ hl).2, fun i p m h => ?_, Nat.zero_le _, fun p ⟨l', h1, h2⟩ => ?_, fun i p m h => absurd h (Nat.not_lt_zero _)⟩
  · rw [List.getElem?_map] at h
    obtain ⟨q, h1, h2⟩ := Option.map_eq_some_iff.mp h
    cases h2
    exact ⟨⟨l, hl, List.mem_of_getElem? h1⟩, .inl rfl⟩
  · rw [e]
    rw [hl] at h1
    cases h1
    exact h2
/-- one more place met from the n-th -/
theorem way_more {p0 x o : Nat} (h : Way (Fits F) s thing c) (hn : ∃ r, c[n]? = some (p0, r)) (hx : look s p0 = some x) (ho : Fits F x o) : Way (Fits F) s thing (c ++ [(o, x)]) := by
  intro i p m hi
  by_cases hlt : i < c.length
  · rw [List.getElem?_append_left hlt] at hi
    obtain ⟨h1, h2⟩ := h i p m hi
    refine ⟨h1, h2.imp id fun ⟨j, q, m', a1, a2, a3⟩ => ⟨j, q, m', a1, ?_, a3⟩⟩
    rw [List.getElem?_append_left (by omega)]
    exact a2
  · rw [List.getElem?_append_right (by omega)] at hi
    have : i - c.length = 0 := by
      have := (List.getElem?_eq_some_iff.mp hi).1
      simp at this
      omega
    rw [this] at hi
    simp at hi
    obtain ⟨rfl, rfl⟩ := hi
    obtain ⟨r, hr⟩ := hn
    have hl := (List.getElem?_eq_some_iff.mp hr).1
    refine ⟨ho, .inr ⟨n, p0, r, by omega, ?_, hx⟩⟩
    rw [List.getElem?_append_left hl]
    exact hr
theorem Bf.next {c' : List (Nat × Nat)} {p0 x : Nat} {l : List Nat} (h : Bf F s thing P c n) (hr : ∃ r, c' = c ++ r) (hn : ∃ r, c[n]? = some (p0, r)) (hx : look s p0 = some x) (hl : look F x = some l) (k : (c'.map (·.1)).Nodup) (hP : ∀ p ∈ c'.map (·.1), p < P) (w : Way (Fits F) s thing c') (hall : ∀ q ∈ l, q ∈ c'.map (·.1)) : Bf F s thing P c' (n + 1) := by
  obtain ⟨r, rfl⟩ := hr
  obtain ⟨r0, hn⟩ := hn
  have hlen := (List.getElem?_eq_some_iff.mp hn).1
  refine ⟨k, hP, w, by simp; omega, fun p hp => by have := h.first p hp; simp at this ⊢; exact .inl this, fun i p m hi hc => ?_⟩
  by_cases e : i = n
  · subst e
    rw [List.getElem?_append_left hlen, hn] at hc
    cases hc
    exact ⟨x, hx, fun q ⟨l', h1, h2⟩ => hall q (by rw [hl] at h1; cases h1; exact h2)⟩
  · rw [List.getElem?_append_left (by omega)] at hc
    obtain ⟨y, h1, h2⟩ := h.done i p m (by omega) hc
    exact ⟨y, h1, fun q hq => by have := h2 q hq; simp at this ⊢; exact .inl this⟩
theorem placed_ok (hF : FitsOk F P) (hs : Seat (Fits F) s) (hlen : s.length ≤ 1000) (ht : ∀ p, look s p ≠ some thing) (hin : ∃ l, look F thing = some l) :
    ∃ s', fn_placed [dC lN F, dC nD s, nD thing] = .ret (dC nD s') [] ∧ (More (Fits F) s s' thing ∨ (s' = s ∧ ∃ C, Closed (Fits F) s thing C)) := by
  refine fin_fn (R := fun o => ∃ s', o = .ret (dC nD s') [] ∧ (More (Fits F) s s' thing ∨ (s' = s ∧ ∃ C, Closed (Fits F) s thing C))) rfl ?_
  obtain ⟨l0, hl0⟩ := hin
  have hP := hF.le
  have hl0n := (hF.nd _ _ hl0).1
  have hl0P : l0.length ≤ P := by
    have := List.Nodup.length_le_of_subset (l₂ := List.range P) hl0n (fun x hx => by simpa using (hF.nd _ _ hl0).2 x hx)
    simpa using this
  simp [g_placed]
  rw [dcomp_d (xs := l0) (ex := nD) (en := nD) (e1 := [.val (dC lN F), .val (dC nD s), .val (nD thing), .un, .un, .un, .un, .un]) (fun p => p) (fun p => thing) (by simp [hl0]) (by omega) rfl (by simpa using hl0n)]
  · simp [hl0]
    refine sat_while_seq (fun m e => ∃ (n : Nat) (c : List (Nat × Nat)) (s6 s7 : Sl), e = [.val (dC lN F), .val (dC nD s), .val (nD thing), .own (dO nD c), .own (lN (c.map (·.1))), .val (.int (n : Int)), s6, s7] ∧ m + n = P ∧ Bf F s thing P c n) P ?_ ?_ ?_
    · unfold turns; omega
    · exact ⟨0, _, _, _, by rw [map_pair]; rfl, rfl, Bf.start hF hl0⟩
    · rintro m e ⟨n, c, s6, s7, rfl, hm, h⟩
      have hcl := h.len
      by_cases hn : n < c.length
      · refine ⟨true, [.val (dC lN F), .val (dC nD s), .val (nD thing), .own (dO nD c), .own (lN (c.map (·.1))), .val (.int (n : Int)), s6, s7], by simp [hn], ?_⟩
        obtain ⟨⟨p0, r0⟩, hp0⟩ : ∃ x, c[n]? = some x := ⟨_, List.getElem?_eq_getElem hn⟩
        have hk : p0 ∈ c.map (·.1) := List.mem_map.mpr ⟨_, List.mem_of_getElem? hp0, rfl⟩
        cases hx : look s p0 with
        | none =>
          obtain ⟨s', a1, a2, a3, a4⟩ := shifted_ok hs hlen (by omega) ht h.keys h.way hk hx
          simp [hp0, hx, a1]
          exact ⟨s', rfl, .inl ⟨a2, a3, a4⟩⟩
        | some x =>
          obtain ⟨l, hl, _⟩ := hs.fit p0 x hx
          simp [hp0, hx, hl]
          refine sat_for_seq (fun (done : List Nat) e => ∃ (c' : List (Nat × Nat)) (s7 : Sl), e = [.val (dC lN F), .val (dC nD s), .val (nD thing), .own (dO nD c'), .own (lN (c'.map (·.1))), .val (.int (n : Int)), .val (nD p0), s7] ∧ (∃ r, c' = c ++ r) ∧ (c'.map (·.1)).Nodup ∧ (∀ p ∈ c'.map (·.1), p < P) ∧ Way (Fits F) s thing c' ∧ ∀ q ∈ done, q ∈ c'.map (·.1)) ?_ ?_ ?_
          · exact ⟨c, s7, rfl, ⟨[], by simp⟩, h.keys, h.lt, h.way, by simp⟩
          · rintro done o rest he e ⟨c', s7, rfl, ⟨r, hr⟩, k1, k2, k3, k4⟩
            have ho : o ∈ l := by rw [he]; simp
            have hlr : c'.length ≤ P := by
              have := List.Nodup.length_le_of_subset (l₂ := List.range P) k1 (fun x hx => by simpa using k2 x hx)
              simpa using this
            have hlr2 : c'.length ≤ 1000000 := by omega
            have hlr3 : c'.length + 1 ≤ 1000000 := by omega
            refine ⟨_, rfl, ?_⟩
            cases hc : look c' o with
            | some m' =>
              simp [hc]
              refine ⟨c', ⟨rfl, rfl⟩, ⟨r, hr⟩, k1, by simpa using k2, k3, fun q hq => ?_⟩
              rcases hq with hq | rfl
              · simpa using k4 q hq
              · exact ⟨m', look_some_mem hc⟩
            | none =>
              have hnk := look_none_iff.mp hc
              have hnx : ∃ r, c'[n]? = some (p0, r) := ⟨r0, by rw [hr, List.getElem?_append_left hn]; exact hp0⟩
              simp [hc, hx, hlr2]
              have hol : o < P := (hF.nd _ _ hl).2 o ho
              refine ⟨c' ++ [(o, x)], ⟨by rw [put_new hnk], by simp⟩, ⟨r ++ [(o, x)], by rw [hr]; simp⟩, ?_, ?_, way_more k3 hnx hx ⟨l, hl, ho⟩, ?_⟩
              · have := put_nodup (k := o) (v := x) k1
                rw [put_new hnk] at this
                exact this
              · intro p y hy
                rcases List.mem_append.mp hy with h1 | h1
                · exact k2 p (List.mem_map.mpr ⟨_, h1, rfl⟩)
                · simp at h1; rw [h1.1]; exact hol
              · intro q hq
                rcases hq with hq | rfl
                · obtain ⟨⟨a, b⟩, h1, h2⟩ := List.mem_map.mp (k4 q hq)
                  exact ⟨b, by simp at h2; subst h2; simp [h1]⟩
                · exact ⟨x, by simp⟩
          · rintro e ⟨c', s7, rfl, ⟨r, hr⟩, k1, k2, k3, k4⟩
            simp
            refine ⟨m - 1, by omega, n + 1, c', ⟨rfl, rfl, by omega⟩, by omega, h.next ⟨r, hr⟩ ⟨_, hp0⟩ hx hl k1 k2 k3 k4⟩
      · refine ⟨false, [.val (dC lN F), .val (dC nD s), .val (nD thing), .own (dO nD c), .own (lN (c.map (·.1))), .val (.int (n : Int)), s6, s7], by simp [hn], ?_⟩
        simp
        refine ⟨s, rfl, .inr ⟨rfl, c.map (·.1), h.keys, h.first, fun p hp => ?_⟩⟩
        obtain ⟨⟨p', m'⟩, h1, rfl⟩ := List.mem_map.mp hp
        obtain ⟨i, hi⟩ := List.getElem?_of_mem h1
        have := (List.getElem?_eq_some_iff.mp hi).1
        exact h.done i p' m' (by omega) hi
  · intro p hp
    exact ⟨_, rfl, by simp, by simp, rfl⟩
end
end K00

namespace K00
open PySem PySem.Spec PyProof.Rows L2 Dl Tv
/-- x stands in the p-th list -/
def RL (Ls : List (List Nat)) (x p : Nat) : Prop := ∃ l, Ls[p]? = some l ∧ x ∈ l
def fitL (Ls : List (List Nat)) (x : Nat) : List Nat := ((Ls.zipIdx 0).filter fun q => decide (x ∈ q.1)).map (·.2)
theorem fitL_mem {Ls : List (List Nat)} {x p : Nat} : p ∈ fitL Ls x ↔ RL Ls x p := by
  unfold fitL RL
  simp only [List.mem_map, List.mem_filter, decide_eq_true_eq, Prod.exists]
  constructor
  · rintro ⟨l, q, ⟨h1, h2⟩, rfl⟩
    refine ⟨l, ?_, h2⟩
    have := List.mem_zipIdx h1
    rw [List.getElem?_eq_getElem (by omega)]
    simp [this.2.2]
  · rintro ⟨l, h1, h2⟩
    refine ⟨l, p, ⟨?_, h2⟩, rfl⟩
    have := List.getElem?_zipIdx (l := Ls) (i := 0) (j := p)
    rw [h1] at this
    have := List.mem_of_getElem? this
    simpa using this
theorem fitL_ok {Ls : List (List Nat)} {x : Nat} : (fitL Ls x).Nodup ∧ ∀ p ∈ fitL Ls x, p < Ls.length := by
  constructor
  · unfold fitL
    have h : ((Ls.zipIdx 0).map (·.2)).Nodup := by
      rw [List.zipIdx_map_snd]
      exact List.nodup_range' 
    exact h.sublist (List.Sublist.map _ List.filter_sublist)
  · intro p hp
    obtain ⟨l, h, _⟩ := fitL_mem.mp hp
    exact (List.getElem?_eq_some_iff.mp h).1
def FitsL (Ls : List (List Nat)) (things : List Nat) : List (Nat × List Nat) := things.map fun x => (x, fitL Ls x)
theorem look_FitsL {Ls : List (List Nat)} : ∀ {things : List Nat} {x : Nat}, look (FitsL Ls things) x = if x ∈ things then some (fitL Ls x) else none
  | [], x => rfl
  | t :: ts, x => by
    have := look_FitsL (Ls := Ls) (things := ts) (x := x)
    show look ((t, fitL Ls t) :: FitsL Ls ts) x = _
    rw [look, this]
    by_cases h : t = x
    · subst h; simp
    · have h' : ¬ x = t := fun z => h z.symm
      simp [h, h']
theorem fits_RL {Ls : List (List Nat)} {things : List Nat} {x p : Nat} (hx : x ∈ things) : Fits (FitsL Ls things) x p ↔ RL Ls x p := by
  unfold Fits
  rw [look_FitsL, if_pos hx]
  simp [fitL_mem]
theorem fitsL_ok {Ls : List (List Nat)} {things : List Nat} (h : Ls.length ≤ 1000) : FitsOk (FitsL Ls things) Ls.length := by
  refine ⟨h, fun x l hl => ?_⟩
  rw [look_FitsL] at hl
  split at hl
  · cases hl; exact fitL_ok
  · cases hl
def vals (s : List (Nat × Nat)) : List Nat := s.map (·.2)
section
variable {R : Nat → Nat → Prop} {s : List (Nat × Nat)} {thing : Nat}
theorem mem_vals (hs : Seat R s) {x : Nat} : x ∈ vals s ↔ ∃ p, look s p = some x := by
  constructor
  · intro h
    obtain ⟨⟨p, y⟩, h1, rfl⟩ := List.mem_map.mp h
    exact ⟨p, look_of_mem hs.keys h1⟩
  · rintro ⟨p, h⟩
    exact List.mem_map.mpr ⟨(p, x), look_some_mem h, rfl⟩
theorem vals_nodup (hs : Seat R s) : (vals s).Nodup := by
  have h : s.Nodup := by
    have := hs.keys
    exact List.Pairwise.of_map _ (fun a b h e => h (by rw [e])) this
  refine nodup_map_of h fun a ha b hb e => ?_
  obtain ⟨p, x⟩ := a
  obtain ⟨q, y⟩ := b
  have e : x = y := e
  subst e
  have := hs.inj p q x (look_of_mem hs.keys ha) (look_of_mem hs.keys hb)
  rw [this]
def seatOf (s : List (Nat × Nat)) (x : Nat) : Nat := (look (homes s) x).getD 0
theorem seatOf_eq (hs : Seat R s) {x p : Nat} (h : look s p = some x) : seatOf s x = p := by
  unfold seatOf
  rw [homes_look hs h]
  rfl
theorem seatOf_inj (hs : Seat R s) : ∀ a ∈ vals s, ∀ b ∈ vals s, seatOf s a = seatOf s b → a = b := by
  intro a ha b hb e
  obtain ⟨p, hp⟩ := (mem_vals hs).mp ha
  obtain ⟨q, hq⟩ := (mem_vals hs).mp hb
  rw [seatOf_eq hs hp, seatOf_eq hs hq] at e
  subst e
  rw [hp] at hq
  injection hq
theorem vals_sd (hs : Seat R s) : Sd R (vals s) := by
  refine ⟨seatOf s, fun x hx => ?_, seatOf_inj hs⟩
  obtain ⟨p, hp⟩ := (mem_vals hs).mp hx
  rw [seatOf_eq hs hp]
  exact hs.fit p x hp
theorem closed_none (hs : Seat R s) (ht : ∀ p, look s p ≠ some thing) {C : List Nat} (h : Closed R s thing C) : ¬ Sd R (thing :: vals s) := by
  refine closed_no (φ := seatOf s) h.1 (seatOf_inj hs) (fun z => ?_) h.2.1 fun p hp => ?_
  · obtain ⟨p, hp⟩ := (mem_vals hs).mp z
    exact ht p hp
  · obtain ⟨x, h1, h2⟩ := h.2.2 p hp
    exact ⟨x, (mem_vals hs).mpr ⟨p, h1⟩, seatOf_eq hs h1, h2⟩
end
theorem Sd.congr {R R' : Nat → Nat → Prop} {A : List Nat} (h : ∀ x ∈ A, ∀ p, R x p → R' x p) (g : Sd R A) : Sd R' A := by
  obtain ⟨φ, h1, h2⟩ := g
  exact ⟨φ, fun x hx => h x hx _ (h1 x hx), h2⟩
theorem seated_ok {Ls : List (List Nat)} {things : List Nat} (hL : Ls.length ≤ 1000) (hn : things.Nodup) (hl : things.length ≤ 1000) :
    ∃ s, fn_seated [.tup (Ls.map tN), tN things] = .ret (dC nD s) [] ∧ Seat (RL Ls) s ∧ (∀ x ∈ vals s, x ∈ things) ∧ Top (RL Ls) things s.length := by
  refine fin_fn (R := fun o => ∃ s, o = .ret (dC nD s) [] ∧ Seat (RL Ls) s ∧ (∀ x ∈ vals s, x ∈ things) ∧ Top (RL Ls) things s.length) rfl ?_
  simp [g_seated]
  rw [dcomp_d (xs := things) (ex := nD) (en := lN) (e1 := [.val (.tup (Ls.map tN)), .val (tN things), .un, .un, .un, .un, .un]) (fun x => x) (fitL Ls) (by simp) (by omega) rfl (by simpa using hn)]
  · have eF : (things.map fun x => (x, fitL Ls x)) = FitsL Ls things := rfl
    rw [eF]
    simp
    refine sat_for_seq (fun (done : List Nat) e => ∃ (s : List (Nat × Nat)) (s2 s3 s4 : Sl), e = [.val (.tup (Ls.map tN)), .val (tN things), s2, s3, s4, .un, .un] ∧ (s2 = .own (dO lN (FitsL Ls things)) ∨ s2 = .val (dC lN (FitsL Ls things))) ∧ (s3 = .own (dO nD s) ∨ s3 = .val (dC nD s)) ∧
      Seat (Fits (FitsL Ls things)) s ∧ s.length ≤ done.length ∧ (∀ x ∈ vals s, x ∈ done) ∧ ∀ x ∈ done, x ∉ vals s → ¬ Sd (Fits (FitsL Ls things)) (x :: vals s)) ?_ ?_ ?_
    · exact ⟨[], _, _, _, rfl, .inl rfl, .inl rfl, ⟨by simp, by simp [look], by simp [look]⟩, by simp, by simp [vals], by simp⟩
    · rintro done x rest he e ⟨s, s2, s3, s4, rfl, h2, h3, hs, hle, hv, hno⟩
      have hxt : x ∈ things := by rw [he]; simp
      have hxd : x ∉ done := by
        rw [he] at hn
        have := (List.nodup_append.mp hn).2.2
        intro z
        exact this x z x (by simp) rfl
      have ht : ∀ p, look s p ≠ some x := fun p hp => hxd (hv x ((mem_vals hs).mpr ⟨p, hp⟩))
      have hdl : done.length ≤ 1000 := by
        have := congrArg List.length he
        simp at this
        omega
      obtain ⟨s', a1, a2⟩ := placed_ok (fitsL_ok hL) hs (by omega) ht ⟨fitL Ls x, by rw [look_FitsL, if_pos hxt]⟩
      refine ⟨_, rfl, ?_⟩
      have goal : ∀ s2', (s2' = .own (dO lN (FitsL Ls things)) ∨ s2' = .val (dC lN (FitsL Ls things))) → ∃ (s'' : List (Nat × Nat)) (s2 s3 s4 : Sl), [Sl.val (.tup (Ls.map tN)), .val (tN things), s2', .val (dC nD s'), .val (nD x), .un, .un] = [.val (.tup (Ls.map tN)), .val (tN things), s2, s3, s4, .un, .un] ∧ (s2 = .own (dO lN (FitsL Ls things)) ∨ s2 = .val (dC lN (FitsL Ls things))) ∧ (s3 = .own (dO nD s'') ∨ s3 = .val (dC nD s'')) ∧
          Seat (Fits (FitsL Ls things)) s'' ∧ s''.length ≤ (done ++ [x]).length ∧ (∀ y ∈ vals s'', y ∈ done ++ [x]) ∧ ∀ y ∈ done ++ [x], y ∉ vals s'' → ¬ Sd (Fits (FitsL Ls things)) (y :: vals s'') := fun s2' hs2 => by
        refine ⟨s', s2', _, _, rfl, hs2, .inr rfl, ?_⟩
        rcases a2 with ⟨b1, b2, b3⟩ | ⟨rfl, C, hC⟩
        · have mv : ∀ y, y ∈ vals s' ↔ (y = x ∨ y ∈ vals s) := fun y => by rw [mem_vals b1, b3 y, mem_vals hs]
          refine ⟨b1, by simp; omega, fun y hy => ?_, fun y hy hy' hsd => ?_⟩
          · rcases (mv y).mp hy with rfl | h
            · simp
            · simp [hv y h]
          · have hyd : y ∈ done := by
              rcases List.mem_append.mp hy with h | h
              · exact h
              · simp at h; exact absurd ((mv y).mpr (.inl h)) hy'
            refine hno y hyd (fun z => hy' ((mv y).mpr (.inr z))) (hsd.sub fun z hz => ?_)
            rcases List.mem_cons.mp hz with rfl | hz
            · simp
            · simp [(mv z).mpr (.inr hz)]
        · refine ⟨hs, by simp; omega, fun y hy => by simp [hv y hy], fun y hy hy' => ?_⟩
          rcases List.mem_append.mp hy with h | h
          · exact hno y h hy'
          · simp at h
            subst h
            exact closed_none hs ht hC
      rcases h2 with rfl | rfl <;> rcases h3 with rfl | rfl <;> simp only [sSet', eCall', gE', eVar', List.getElem?_cons_succ, List.getElem?_cons_zero, List.set_cons_succ, List.set_cons_zero, bind_ok', lockD_dO, gNil'', call3, a1, then_ok', sat_turn_nx] <;> exact goal _ (by simp)
    · rintro e ⟨s, s2, s3, s4, rfl, h2, h3, hs, hle, hv, hno⟩
      have hsd : Seat (RL Ls) s := ⟨hs.keys, hs.inj, fun p x h => (fits_RL (hv x ((mem_vals hs).mpr ⟨p, h⟩))).mp (hs.fit p x h)⟩
      have top : Top (RL Ls) things s.length := by
        have e : s.length = (vals s).length := by simp [vals]
        rw [e]
        refine top_of_max (vals_nodup hs) hv (vals_sd hsd) fun x hx hx' h => hno x hx hx' (Sd.congr (fun y hy p => (fits_RL (?_ : y ∈ things)).mpr) h)
        rcases List.mem_cons.mp hy with rfl | hy
        · exact hx
        · exact hv y hy
      rcases h3 with rfl | rfl
      · simp
        exact ⟨s, rfl, hsd, hv, top⟩
      · simp
        exact ⟨s, rfl, hsd, hv, top⟩
  · intro x hx
    refine ⟨_, rfl, by simp, ?_, rfl⟩
    simp
    rw [comp_eq (xs := Ls.zipIdx 0) (en := fun p => .tup [nD p.2, tN p.1]) (e1 := [.val (.tup (Ls.map tN)), .val (tN things), .un, .un, .val (nD x), .un, .un]) (fun q => decide (x ∈ q.1)) (fun q => nD q.2) (by simp [numbered_map]) (by simp; omega) rfl]
    · simp [lN, fitL]
    · rintro ⟨l, p⟩ hp
      exact ⟨_, rfl, by simp, by simp, rfl⟩
end K00

namespace K00
open PySem PySem.Spec PyProof.Rows L2 Dl Tv
theorem is_row_tN (xs : List Nat) : fn_is_row [tN xs] = .ret (.bl true) [] := by rfl
theorem lists_of_ok {size : Nat} {Ls : List (List Nat)} (h : ∀ l ∈ Ls, Asc size l) (hl : Ls.length ≤ 1000) : fn_lists_of [.int size, .lst (Ls.map tN)] = .ret (.tup (Ls.map tN)) [] := by
  refine ret_fn rfl ?_
  simp [g_lists_of, numbered_map]
  refine sat_for_seq (fun _ e => ∃ s2 s3, e = [.val (.int size), .val (.lst (Ls.map tN)), s2, s3] ∧ s3.lent = none) ⟨_, _, rfl, rfl⟩ ?_ ?_
  · rintro done ⟨l, i⟩ tl he e ⟨s2, s3, rfl, hs⟩
    have hx : l ∈ Ls := by
      have : (l, i) ∈ Ls.zipIdx 0 := by rw [he]; simp
      exact (List.mem_zipIdx this).2.2 ▸ List.getElem_mem _
    refine ⟨_, rfl, ?_⟩
    simp [is_row_tN, misplaced_ok (h l hx) (tN l) (by simp)]
    exact ⟨_, _, ⟨rfl, rfl⟩, rfl⟩
  · rintro e ⟨s2, s3, rfl, hs⟩
    simp
    rw [comp_map (xs := Ls) (en := tN) (e1 := [.val (.int size), .val (.lst (Ls.map tN)), s2, s3]) tN (by simp) (by omega) (by simp [clean, hs])]
    · simp
    · intro l hl
      exact ⟨_, rfl, by simp, rfl⟩
theorem lists_of_bad {size : Nat} {n : Int} {l bad : List Nat} (h : Asc size l) (hb : fn_misplaced [.int size, tN bad] = .ret (.int n) []) : fn_lists_of [.int size, .lst [tN l, tN bad]] = .exc "BadEntry" ["place"] [.int 1] [] := by
  refine fin_fn (R := (· = .exc "BadEntry" ["place"] [.int 1] [])) rfl ?_
  have e : [tN l, tN bad] = [l, bad].map tN := rfl
  rw [e]
  simp only [g_lists_of, sSeq', sFor', iEnumD', eVar', mkEnv_v, List.getElem?_cons_succ, List.getElem?_cons_zero, bind_ok', items_lst, Option.map_some, numbered_map, lift_some', then_ok']
  simp [forL, is_row_tN, misplaced_ok h (tN l) (by simp), hb]
theorem Lists_init {size : Nat} {Ls : List (List Nat)} (hs : size ≤ 1000) (h : ∀ l ∈ Ls, Asc size l) (hl : Ls.length ≤ 1000) : fn_Lists___init__ [.ins "Lists" [] [], .int size, .lst (Ls.map tN)] = .ret .non [oR "Lists" size ["lists"] [.tup (Ls.map tN)]] := by
  have h1 := Rule_init (c := "Lists") (by simp [rules]) (size := size) (by omega)
  simp [fn_Lists___init__, g_Lists___init__, h1, lists_of_ok h hl, oR]
theorem Lists_init_bad {size : Nat} {n : Int} {l bad : List Nat} (hs : size ≤ 1000) (h : Asc size l) (hb : fn_misplaced [.int size, tN bad] = .ret (.int n) []) : ∃ o, fn_Lists___init__ [.ins "Lists" [] [], .int size, .lst [tN l, tN bad]] = .exc "BadEntry" ["place"] [.int 1] [o] := by
  have h1 := Rule_init (c := "Lists") (by simp [rules]) (size := size) (by omega)
  simp [fn_Lists___init__, g_Lists___init__, h1, lists_of_bad h hb, oR]
open Classical in
/-- how many of the things can be picked -/
noncomputable def rkL (Ls : List (List Nat)) (xs : List Nat) : Nat := if h : ∃ n, Top (RL Ls) xs n then Classical.choose h else 0
theorem rkL_eq {Ls : List (List Nat)} {xs : List Nat} {n : Nat} (h : Top (RL Ls) xs n) : rkL Ls xs = n := by
  have hx : ∃ n, Top (RL Ls) xs n := ⟨n, h⟩
  unfold rkL
  rw [dif_pos hx]
  exact (Classical.choose_spec hx).uniq h
theorem rkL_top {Ls : List (List Nat)} {xs : List Nat} (hL : Ls.length ≤ 1000) (hn : xs.Nodup) (hl : xs.length ≤ 1000) : Top (RL Ls) xs (rkL Ls xs) := by
  obtain ⟨s, _, _, _, h⟩ := seated_ok hL hn hl
  rw [rkL_eq h]
  exact h
theorem mk_Lists {size : Nat} {Ls : List (List Nat)} (hs : size ≤ 1000) (hl : Ls.length ≤ 1000) : RuleD (oR "Lists" size ["lists"] [.tup (Ls.map tN)]) size (rkL Ls) := by
  refine ⟨hs, ⟨_, _, _, by simp [rules], rfl, by simp [mths]⟩, fun xs hx => ⟨fn_Lists__rank, by simp [oR, dp__rank], ?_⟩⟩
  obtain ⟨s, h1, h2, h3, h4⟩ := seated_ok (Ls := Ls) hl hx.nodup (by have := hx.len; omega)
  simp [fn_Lists__rank, g_Lists__rank, oR, h1, rkL_eq h4]
theorem places_for_bad {size : Nat} {Ls : List (List Nat)} {n : Int} {th : D} (ht : fn_misplaced [.int size, th] = .ret (.int n) []) : fn_places_for [oR "Lists" size ["lists"] [.tup (Ls.map tN)], th] = .exc "BadSet" ["place"] [.int n] [] := by
  simp [fn_places_for, g_places_for, oR, set_of_bad ht]
end K00

namespace K00
open PySem PySem.Spec PyProof.Rows L2 Dl Tv
/-- the pool from which a law draws -/
def Pool (d : D) : Prop := ∃ (cells : List Int) (place : Nat) (st seed : Int), d = .lst [.lst (cells.map D.int), .int place, .int st, .int seed]
theorem fmod_range {a m : Int} (h : 0 < m) : 0 ≤ a.fmod m ∧ a.fmod m < m := ⟨Int.fmod_nonneg_of_pos a h, Int.fmod_lt_of_pos a h⟩
theorem cMul_l {a b : Int} (h : -(2 ^ 64) < a ∧ a < 2 ^ 64) : cMul a b = true := by
  unfold cMul
  rw [decide_eq_true h.1, decide_eq_true h.2]
  rfl
theorem cMul_r {a b : Int} (h : -(2 ^ 64) < b ∧ b < 2 ^ 64) : cMul a b = true := by
  unfold cMul
  rw [decide_eq_true h.1, decide_eq_true h.2]
  simp
theorem mixed_ok {cell : Int} (h : (if cell < 0 then -cell else cell) < 1000000000000000000) (place : Nat) : ∃ r : Int, fn__law_mixed [.int cell, .int place] = .ret (.int r) [] := by
  have hc : -(2 ^ 64) < cell ∧ cell < 2 ^ 64 := by
    split at h <;> omega
  have h1 : cMul 2 (place : Int) = true := cMul_l (by omega)
  have h2 : ∀ b, cMul cell b = true := fun b => cMul_l hc
  obtain ⟨a0, a1⟩ := fmod_range (a := cell * (48271 + 2 * place)) (m := 2147483647) (by omega)
  generalize hone : (cell * (48271 + 2 * place)).fmod 2147483647 = one at a0 a1
  have h3 : ∀ b, cMul one b = true := fun b => cMul_l (by omega)
  have h4 : ∀ b, cMul b one = true := fun b => cMul_r (by omega)
  obtain ⟨b0, b1⟩ := fmod_range (a := one * one + 16807 * one) (m := 2147483629) (by omega)
  generalize htwo : (one * one + 16807 * one).fmod 2147483629 = two at b0 b1
  have h5 : ∀ b, cMul two b = true := fun b => cMul_l (by omega)
  simp [fn__law_mixed, g__law_mixed, h1, h2, hone, h3, h4, htwo, h5]
theorem cDiv_ok' {a : Int} {m : Nat} (h1 : 1 ≤ m) (h2 : m < 1073741824) : cDiv a m = true := by
  unfold cDiv
  rw [decide_eq_true (by omega), decide_eq_true (by omega)]
  rfl
theorem draw_ok {d : D} {m : Nat} (h : Pool d) (h1 : 1 ≤ m) (h2 : m < 1073741824) : ∃ (r : Nat) (d' : D), fn__law_draw [d, nD m] = .ret (nD r) [d'] ∧ Pool d' ∧ r < m := by
  obtain ⟨cells, place, st, seed, rfl⟩ := h
  have hdiv : ∀ a, cDiv a (m : Int) = true := fun a => cDiv_ok' h1 h2
  have hm0 : m ≠ 0 := by omega
  have fin : ∀ a : Int, ∃ r : Nat, D.int (a.fmod (m : Int)) = nD r ∧ r < m := fun a => by
    obtain ⟨b0, b1⟩ := fmod_range (a := a) (m := (m : Int)) (by omega)
    exact ⟨(a.fmod (m : Int)).toNat, by simp only [nD, D.int.injEq]; omega, by omega⟩
  refine fin_fn (R := fun o => ∃ (r : Nat) (d' : D), o = .ret (nD r) [d'] ∧ Pool d' ∧ r < m) rfl ?_
  have i1 : ixN 4 1 = some 1 := rfl
  have i2 : ixN 4 2 = some 2 := rfl
  simp only [g__law_draw, sSeq']
  refine sat_seq (sat_imp (P := fun o => ∃ (pl : Nat) (st' : Int) (s2 s3 : Sl), o = .nx [.mt (.lst [.lst (cells.map D.int), .int pl, .int st', .int seed]), .val (nD m), s2, s3, .un]) ?_ ?_)
  · by_cases hst : st = 0
    · subst hst
      by_cases hp : place < cells.length
      · by_cases hb : (if cells[place] < 0 then -cells[place] else cells[place]) < 1000000000000000000
        · obtain ⟨r, hr⟩ := mixed_ok hb place
          simp [i1, i2, hp, hb, hr]
          exact ⟨place + 1, r, _, _, rfl⟩
        · simp [i1, i2, hp, hb]
          exact ⟨place + 1, _, _, _, rfl⟩
      · by_cases hb : (if seed < 0 then -seed else seed) < 1000000000000000000
        · obtain ⟨r, hr⟩ := mixed_ok hb place
          simp [i1, i2, hp, hb, hr]
          exact ⟨place + 1, r, _, _, rfl⟩
        · simp [i1, i2, hp, hb]
          exact ⟨place + 1, _, _, _, rfl⟩
    · simp [hst]
      exact ⟨place, _, _, _, rfl⟩
  · rintro o ⟨pl, st', s2, s3, rfl⟩
    obtain ⟨r, hr, hlt⟩ := fin st'
    rw [sat_beh_nx]
    simp [hdiv, hm0, i2, hr]
    exact ⟨r, _, ⟨rfl, rfl⟩, ⟨cells, pl, _, seed, rfl⟩, hlt⟩
end K00

namespace K00
open PySem PySem.Spec PyProof.Rows L2 Dl Tv
theorem nseq_sat {fa : SSem} {g : ESem} {e : En} {Q : Out D → Prop} (h : Sat (fun o => ∃ e', o = .nx e' ∧ Q (g e')) (fa e)) : Q (nSeq fa g e) := by
  obtain ⟨e', h1, h2⟩ := h.h
  unfold nSeq
  rw [h1]
  exact h2
def PoolRes (o : Out D) : Prop := ∃ d e, o = .ok d e ∧ Pool d
theorem pool_ok (ns : List Int) : ∃ d, fn__law_pool [.frz (ns.map D.int)] = some d ∧ Pool d := by
  have hcut : ∃ cs : List Int, Dl.cutD (ns.map D.int) none (some 63) = cs.map D.int ∧ cs.length ≤ 1000 := by
    unfold Dl.cutD
    refine ⟨(ns.drop (HT.sIx (ns.map D.int).length 0 none)).take (HT.sIx (ns.map D.int).length (ns.map D.int).length (some 63) - HT.sIx (ns.map D.int).length 0 none), by rw [List.map_take, List.map_drop], ?_⟩
    rw [List.length_take]
    refine Nat.le_trans (Nat.min_le_left _ _) ?_
    have : HT.sIx (ns.map D.int).length (ns.map D.int).length (some 63) ≤ 63 := by
      rw [show (63 : Int) = ((63 : Nat) : Int) from rfl, HT.sIx_nat]
      exact Nat.min_le_left _ _
    omega
  obtain ⟨cs, hcs, hl⟩ := hcut
  have key : ∃ d e, g__law_pool (mkEnv (List.replicate 1 .v) [.frz (ns.map D.int)] 4) = .ok d e ∧ Pool d := by
    have er : mkEnv (List.replicate 1 .v) [.frz (ns.map D.int)] 4 = [.val (.frz (ns.map D.int)), .un, .un, .un] := rfl
    rw [er]
    unfold g__law_pool
    refine nseq_sat (Q := PoolRes) ?_
    simp
    rw [comp_map (xs := cs) (en := D.int) (e1 := [.val (.frz (ns.map D.int)), .un, .un, .un]) D.int (by simp [gSl, hcs]) (by omega) rfl]
    · simp
      rw [sat_eq]
      refine ⟨_, rfl, nseq_sat (Q := PoolRes) ?_⟩
      simp
      refine ⟨_, rfl, nseq_sat (Q := PoolRes) ?_⟩
      simp
      refine sat_for (fun _ e => ∃ (seed : Int) (s3 : Sl), e = [.val (.frz (ns.map D.int)), .val (.lst (cs.map D.int)), .val (.int seed), s3]) ⟨0, _, rfl⟩ ?_ ?_
      · rintro done x rest he e ⟨seed, s3, rfl⟩
        refine ⟨_, rfl, ?_⟩
        have h31 : cMul seed 31 = true := cMul_r (by omega)
        by_cases hb : (if x < 0 then -x else x) < 1000000000000000000
        · simp [hb, h31]
        · simp [hb]
      · rintro e ⟨seed, s3, rfl⟩
        refine ⟨_, rfl, .lst [.lst (cs.map D.int), .int 0, .int 0, .int seed], [.val (.frz (ns.map D.int)), .val (.lst (cs.map D.int)), .val (.int seed), s3], by simp, ⟨cs, 0, 0, seed, rfl⟩⟩
    · intro x hx
      exact ⟨_, rfl, by simp, rfl⟩
  obtain ⟨d, e, h1, h2⟩ := key
  refine ⟨d, ?_, h2⟩
  unfold fn__law_pool fnOfN
  rw [h1]
  rfl
/-- digits -/
theorem digits_ok (number many : Nat) (hm : many ≤ 1000) : ∃ bs : List Nat, fn__law_digits [nD number, nD 2, nD many] = .ret (tN bs) [] ∧ bs.length = many := by
  refine fin_fn (R := fun o => ∃ bs : List Nat, o = .ret (tN bs) [] ∧ bs.length = many) rfl ?_
  have hm' : many < 4611686018427387904 := by omega
  simp [g__law_digits, hm']
  refine sat_for_seq (fun (done : List Nat) e => ∃ (n : Nat) (s4 : Sl) (bs : List Nat), e = [.val (nD n), .val (nD 2), .val (nD many), .own (lN bs), s4] ∧ bs.length = done.length) ⟨number, _, [], rfl, rfl⟩ ?_ ?_
  · rintro done x rest he e ⟨n, s4, bs, rfl, hbs⟩
    have hd : done.length ≤ many := by
      have := congrArg List.length he
      simp at this
      omega
    have hbl : bs.length ≤ 1000000 := by omega
    have e1 : D.int ((n : Int).fmod 2) = nD (n % 2) := by
      rw [Int.fmod_eq_emod_of_nonneg _ (by omega)]; rfl
    have e2 : D.int ((n : Int).fdiv 2) = nD (n / 2) := by
      rw [Int.fdiv_eq_ediv_of_nonneg _ (by omega)]; rfl
    have e3 : cDiv (n : Int) 2 = true := cDiv_ok' (m := 2) (by omega) (by omega)
    refine ⟨_, rfl, ?_⟩
    simp [e1, e2, e3, hbl]
    exact ⟨_, _, _, ⟨rfl, rfl, rfl⟩, by simp [hbs]⟩
  · rintro e ⟨n, s4, bs, rfl, hbs⟩
    simp
    exact ⟨bs, rfl, by simpa using hbs⟩
theorem subset_ok {d : D} {size : Nat} (h : Pool d) (hs : size ≤ 1000) : ∃ (xs : List Nat) (d' : D), fn__law_subset [d, nD size] = .ret (tN xs) [d'] ∧ Pool d' ∧ Asc size xs := by
  obtain ⟨r, d', h1, h2, h3⟩ := draw_ok (m := 4096) h (by omega) (by omega)
  obtain ⟨bs, g1, g2⟩ := digits_ok r size hs
  refine fin_fn (R := fun o => ∃ (xs : List Nat) (d' : D), o = .ret (tN xs) [d'] ∧ Pool d' ∧ Asc size xs) rfl ?_
  have hs' : size < 4611686018427387904 := by omega
  simp [g__law_subset]
  have e1 : nD 4096 = .int 4096 := by simp [nD]
  have e2 : nD 2 = .int 2 := by simp [nD]
  rw [e1] at h1
  rw [e2] at g1
  simp [h1, g1]
  rw [comp_filN (xs := List.range size) (e1 := [.mt d', .val (nD size), .val (tN bs), .un]) (fun x => decide (bs[x]? = some 1)) (by simp [hs']) (by simp; omega) rfl]
  · simp
    exact ⟨_, _, ⟨rfl, rfl⟩, h2, asc_range.sub List.filter_sublist⟩
  · intro x hx
    have hx' : x < bs.length := by rw [g2]; simpa using hx
    refine ⟨_, rfl, ?_, by simp, rfl⟩
    simp [hx']
    omega
end K00

namespace K00
open PySem PySem.Spec PyProof.Rows L2 Dl Tv
theorem number_int (a b : Int) : fn__law_number [.int a, .int b] = .ret (.bl (decide (a = b))) [] := by
  simp [fn__law_number, g__law_number]
/-- all sets of things below n -/
def sub : Nat → List (List Nat)
  | 0 => [[]]
  | n + 1 => sub n ++ (sub n).map fun r => r ++ [n]
theorem sub_len : ∀ n, (sub n).length = 2 ^ n
  | 0 => rfl
  | n + 1 => by rw [sub, List.length_append, List.length_map, sub_len n, Nat.pow_succ]; omega
theorem sub_mem : ∀ {n : Nat} {xs : List Nat}, xs ∈ sub n ↔ Asc n xs
  | 0, xs => by
    simp only [sub, List.mem_singleton, Asc]
    constructor
    · rintro rfl; simp
    · rintro ⟨_, h⟩
      cases xs with
      | nil => rfl
      | cons x xs => exact absurd (h x (by simp)) (by omega)
  | n + 1, xs => by
    rw [sub, List.mem_append, List.mem_map, sub_mem]
    constructor
    · rintro (h | ⟨r, h, rfl⟩)
      · exact ⟨h.1, fun x hx => Nat.lt_succ_of_lt (h.2 x hx)⟩
      · have h := sub_mem.mp h
        refine ⟨List.pairwise_append.mpr ⟨h.1, by simp, fun a ha b hb => ?_⟩, fun x hx => ?_⟩
        · simp at hb; subst hb; exact h.2 a ha
        · rcases List.mem_append.mp hx with hx | hx
          · exact Nat.lt_succ_of_lt (h.2 x hx)
          · simp at hx; omega
    · rintro ⟨h1, h2⟩
      by_cases hn : n ∈ xs
      · refine .inr ⟨xs.dropLast, ?_, ?_⟩
        · rw [sub_mem]
          have hne : xs ≠ [] := by rintro rfl; simp at hn
          have hx := List.dropLast_concat_getLast hne
          rw [← hx, List.pairwise_append] at h1
          refine ⟨h1.1, fun x hxm => ?_⟩
          have hl := h1.2.2 x hxm _ (List.mem_singleton_self _)
          have := h2 (xs.getLast hne) (List.getLast_mem hne)
          omega
        · have hne : xs ≠ [] := by rintro rfl; simp at hn
          have hx := List.dropLast_concat_getLast hne
          have hl : xs.getLast hne = n := by
            rw [← hx] at hn
            rcases List.mem_append.mp hn with h | h
            · rw [← hx, List.pairwise_append] at h1
              have hl := h1.2.2 n h _ (List.mem_singleton_self _)
              have := h2 (xs.getLast hne) (List.getLast_mem hne)
              omega
            · simp at h; exact h.symm
          rw [hl] at hx
          exact hx
      · refine .inl ⟨h1, fun x hx => ?_⟩
        have := h2 x hx
        have : x ≠ n := fun z => hn (z ▸ hx)
        omega
theorem subsets_ok {size : Nat} (hs : size ≤ 10) : fn__law_subsets [nD size] = .ret (.lst ((sub size).map tN)) [] := by
  refine ret_fn rfl ?_
  have hs' : size < 4611686018427387904 := by omega
  simp [g__law_subsets, hs']
  refine sat_for_seq (fun (done : List Nat) e => ∃ s2 s3, e = [.val (nD size), .val (.lst ((sub done.length).map tN)), s2, s3] ∧ s3.lent = none) ⟨_, _, rfl, rfl⟩ ?_ ?_
  · rintro done x rest he e ⟨s2, s3, rfl, hl⟩
    have hx : x = done.length := by
      have h := congrArg (fun l => l[done.length]?) he
      have hd : done.length < size := by
        have := congrArg List.length he
        simp at this
        omega
      simp [hd] at h
      exact h.symm
    have hd : done.length < size := by
      have := congrArg List.length he
      simp at this
      omega
    have h10 : 2 ^ done.length ≤ 2 ^ 10 := Nat.pow_le_pow_right (by omega) (by omega)
    have hlen := sub_len done.length
    refine ⟨_, rfl, ?_⟩
    simp
    rw [comp_map (xs := sub done.length) (en := tN) (e1 := [.val (nD size), .val (.lst ((sub done.length).map tN)), .val (nD x), s3]) (fun r => tN (r ++ [x])) (by simp) (by omega) (by simp [clean, hl])]
    · have e : (sub done.length).map (fun r => tN (r ++ [x])) = ((sub done.length).map (fun r => r ++ [x])).map tN := by simp
      rw [e]
      have hb : ((sub done.length).map tN).length + (((sub done.length).map (fun r => r ++ [x])).map tN).length ≤ 1000000 := by
        simp; omega
      simp only [bind_ok', gAdd_lst hb, lift_some', then_ok', sat_turn_nx, List.set_cons_succ, List.set_cons_zero]
      refine ⟨.val (nD x), s3, ?_, hl⟩
      rw [sub, hx, List.map_append]
    · intro r hr
      have hr' := (sub_mem.mp hr).len
      have hr2 : r.length < 1000000 := by omega
      refine ⟨_, rfl, by simp [hr2], rfl⟩
  · rintro e ⟨s2, s3, rfl, hl⟩
    simp

section
variable {xs ys places classes days : List Nat} {k : Nat}
theorem atN {ys : List Nat} {x : Nat} (h : x < ys.length) : (ys.map nD)[x]? = some (nD (ys[x]?.getD 0)) := by
  simp [h]
theorem rows_ok {env e1 : En} {fi fl : ESem} {vs : List Nat} {i : Nat} : True := trivial
theorem counted0 (hy : xs.all (· < ys.length)) (hl : xs.length ≤ 1000000) : fn__law_counted [.int 0, .tup [nD k, lN ys], tN xs] = .ret (nD (min k xs.length)) [] := by
  refine ret_fn rfl ?_
  simp [g__law_counted]
  rw [comp_mapN (xs := xs) (en := nD) (e1 := [.val (.int 0), .val (.tup [nD k, lN ys]), .val (tN xs), .un, .un, .un, .un, .un, .un]) (fun x => ys[x]?.getD 0) (by simp) hl rfl]
  · simp
    omega
  · intro x hx
    have h1 : x < ys.length := by simp at hy; exact hy x hx
    exact ⟨_, rfl, by simp [h1], rfl⟩
theorem counted1 (hy : xs.all (· < classes.length)) (hl : xs.length ≤ 1000000) (hp : places.length ≤ 1000000) : fn__law_counted [.int 1, .tup [lN places, lN classes], tN xs] = .ret (nD ((List.range places.length).map fun c => min (places[c]?.getD 0) ((xs.map fun x => classes[x]?.getD 0).count c)).sum) [] := by
  refine ret_fn rfl ?_
  have hp' : places.length < 4611686018427387904 := by omega
  simp [g__law_counted]
  rw [comp_mapN (xs := xs) (en := nD) (e1 := [.val (.int 1), .val (.tup [lN places, lN classes]), .val (tN xs), .un, .un, .un, .un, .un, .un]) (fun x => classes[x]?.getD 0) (by simp) hl rfl]
  · simp
    rw [comp_mapN (xs := List.range places.length) (en := nD) (e1 := [.val (.int 1), .val (.tup [lN places, lN classes]), .val (tN xs), .val (lN (xs.map fun x => classes[x]?.getD 0)), .un, .un, .un, .un, .un]) (fun c => min (places[c]?.getD 0) ((xs.map fun x => classes[x]?.getD 0).count c)) (by simp [hp']) (by simpa using hp) rfl]
    · simp
    · intro c hc
      have hc' : c < places.length := by simpa using hc
      refine ⟨_, rfl, ?_, rfl⟩
      simp [hc']
      omega
  · intro x hx
    have h1 : x < classes.length := by simp at hy; exact hy x hx
    exact ⟨_, rfl, by simp [h1], rfl⟩
theorem counted2 (hy : xs.all (· < days.length)) (hl : xs.length ≤ 1000000) (hp : days.length ≤ 1000) : fn__law_counted [.int 2, .tup [.int 0, lN days], tN xs] = .ret (nD (minN ((List.range (days.length + 1)).map fun t => t + ((xs.map fun x => days[x]?.getD 0).filter fun d => decide (t < d)).length))) [] := by
  refine ret_fn rfl ?_
  have hp' : days.length + 1 < 4611686018427387904 := by omega
  have e1 : (days.length : Int) + 1 = ((days.length + 1 : Nat) : Int) := by omega
  simp [g__law_counted]
  rw [comp_mapN (xs := xs) (en := nD) (e1 := [.val (.int 2), .val (.tup [.int 0, lN days]), .val (tN xs), .un, .un, .un, .un, .un, .un]) (fun x => days[x]?.getD 0) (by simp) hl rfl]
  · simp 
    rw [comp_mapN (xs := List.range (days.length + 1)) (en := nD) (e1 := [.val (.int 2), .val (.tup [.int 0, lN days]), .val (tN xs), .val (lN (xs.map fun x => days[x]?.getD 0)), .val (nD days.length), .un, .un, .un, .un]) (fun t => t + ((xs.map fun x => days[x]?.getD 0).filter fun d => decide (t < d)).length) (by simp; rw [e1, rng1_nat _ hp']; rfl) (by simp; omega) rfl]
    · simp 
    · intro t ht
      refine ⟨_, rfl, ?_, rfl⟩
      simp 
      rw [comp_filN (xs := xs.map fun x => days[x]?.getD 0) (e1 := [.val (.int 2), .val (.tup [.int 0, lN days]), .val (tN xs), .val (lN (xs.map fun x => days[x]?.getD 0)), .val (nD days.length), .un, .un, .val (nD t), .un]) (fun d => decide (t < d)) (by simp) (by simpa using hl) rfl]
      · simp 
      · intro d hd
        exact ⟨_, rfl, by simp, by simp, rfl⟩
  · intro x hx
    have h1 : x < days.length := by simp at hy; exact hy x hx
    exact ⟨_, rfl, by simp [h1], rfl⟩
end
end K00

namespace K00
open PySem PySem.Spec PyProof.Rows L2 Dl Tv
/-- what the drawn numbers and lists tell -/
def Told (size kind : Nat) (o : FOut) : Prop := ∃ (numbers rule pool' : D) (Ls : List (List Nat)) (rk : List Nat → Nat), o = .ret (.tup [numbers, rule, .lst (Ls.map tN)]) [pool'] ∧ Pool pool' ∧ RuleD rule size rk ∧ (∀ l ∈ Ls, Asc size l) ∧ Ls.length ≤ 1000 ∧
  (∀ xs, Asc size xs → fn__law_counted [nD kind, numbers, tN xs] = .ret (nD (rk xs)) []) ∧ ∀ xs, Asc size xs → Top (RL Ls) xs (rk xs)
theorem tags_top {size : Nat} {tags : List Nat} {cl : Nat → Nat} {P : Nat} {xs : List Nat} (hs : size ≤ 1000) (ht : tags.length ≤ 1000) (hx : Asc size xs) (hP : ∀ x ∈ xs, cl x < P) :
    Top (RL (tags.map fun c => (List.range size).filter fun x => decide (cl x = c))) xs ((List.range P).map fun c => min (tags.count c) ((xs.map cl).count c)).sum := by
  have hT := rkL_top (Ls := tags.map fun c => (List.range size).filter fun x => decide (cl x = c)) (xs := xs) (by simpa using ht) hx.nodup (by have := hx.len; omega)
  have := top_tags (tags := tags) (cl := cl) (P := P) hx.nodup (fun x hxm p => ?_) hP hT
  · rw [← this]; exact hT
  · unfold RL
    rw [List.getElem?_map]
    constructor
    · rintro ⟨l, h1, h2⟩
      obtain ⟨c, h3, rfl⟩ := Option.map_eq_some_iff.mp h1
      simp at h2
      rw [h3, h2.2]
    · intro h
      rw [h]
      exact ⟨_, rfl, by simp [hx.2 x hxm]⟩
theorem map_const'' {α β : Type} : ∀ (xs : List α) (b : β), (xs.map fun _ => b) = List.replicate xs.length b
  | [], b => rfl
  | x :: xs, b => by rw [List.map_cons, map_const'' xs b]; rfl
theorem map_const' {β : Type} (k : Nat) (b : β) : ((List.range k).map fun _ => b) = List.replicate k b := by
  rw [map_const'' (List.range k) b, List.length_range]
theorem told0 {d : D} {size : Nat} (h : Pool d) (hs : size ≤ 10) : Told size 0 (fn__law_told [d, nD 0, nD size]) := by
  obtain ⟨k, d', h1, h2, h3⟩ := draw_ok (m := size + 3) h (by omega) (by omega)
  refine fin_fn rfl ?_
  have e0 : nD (size + 3) = .int ((size : Int) + 3) := by simp [nD]
  rw [e0] at h1
  have hk : k < 4611686018427387904 := by omega
  have hm : gMul (.lst [.int 0]) (.int (size : Int)) = some (lN (List.replicate size 0)) := by
    show (if (decide (0 ≤ (size : Int)) && decide ((size : Int) ≤ 1000) && decide (([D.int 0]).length ≤ 1000)) = true then some (D.lst (List.replicate (size : Int).toNat [D.int 0]).flatten) else none) = _
    rw [if_pos (by simp; omega)]
    simp [lN, List.map_replicate]
  have hi := Firsts_init (size := size) (k := k) (by omega)
  simp [g__law_told, h1, hm, hi, hk, show size ≤ 1000000 by omega]
  rw [comp_map (xs := List.range k) (en := nD) (e1 := [.mt d', .val (nD 0), .val (nD size), .val (tN (List.range size)), .val (nD k), .un, .un, .un, .un, .un, .un, .un, .un, .un]) (fun _ => tN (List.range size)) (by simp [hk]; rfl) (by simp; omega) rfl]
  · simp
    refine ⟨.tup [nD k, lN (List.replicate size 0)], oR "Firsts" size ["number"] [.int k], d', List.replicate k (List.range size), fun xs => min k xs.length, by rw [map_const']; simp, h2, mk_Firsts (by omega), ?_, ?_, ?_, ?_⟩
    · intro l hl
      obtain ⟨_, rfl⟩ := List.mem_replicate.mp hl
      exact asc_range
    · simp; omega
    · intro xs hx
      exact counted0 (by simp; intro x hxm; exact hx.2 x hxm) (by have := hx.len; omega)
    · intro xs hx
      have := tags_top (size := size) (tags := List.replicate k 0) (cl := fun _ => 0) (P := 1) (xs := xs) (by omega) (by simp; omega) hx (by simp)
      have e : (List.replicate k 0).map (fun c => (List.range size).filter fun x => decide ((fun _ => 0) x = c)) = List.replicate k (List.range size) := by
        rw [List.map_replicate]
        congr 1
        simp
      rw [e] at this
      have e2 : ((List.range 1).map fun c => min ((List.replicate k 0).count c) ((xs.map fun _ => 0).count c)).sum = min k xs.length := by
        have : (xs.map fun _ => 0) = List.replicate xs.length 0 := map_const'' xs 0
        rw [this]
        simp [List.range_succ]
      rw [e2] at this
      exact this
  · intro x hx
    refine ⟨_, rfl, by simp, rfl⟩

theorem sum_zip (places : List Nat) (g : Nat → Nat) : ((places.zipIdx 0).map fun p => min p.1 (g p.2)).sum = ((List.range places.length).map fun c => min (places[c]?.getD 0) (g c)).sum := by
  congr 1
  refine List.ext_getElem? fun i => ?_
  simp only [List.getElem?_map, List.getElem?_zipIdx]
  by_cases h : i < places.length
  · simp [h]
  · rw [List.getElem?_eq_none (by omega), List.getElem?_eq_none (by simp; omega)]
    rfl
/-- the tags of the places of a Teams rule -/
def tagsOf (places : List Nat) (n : Nat) : List Nat := ((List.range n).map fun c => List.replicate (places[c]?.getD 0) c).flatten
theorem tagsOf_succ (places : List Nat) (n : Nat) : tagsOf places (n + 1) = tagsOf places n ++ List.replicate (places[n]?.getD 0) n := by
  unfold tagsOf
  rw [List.range_succ, List.map_append, List.flatten_append]
  simp
theorem tagsOf_count (places : List Nat) (c : Nat) : ∀ n, (tagsOf places n).count c = if c < n then places[c]?.getD 0 else 0
  | 0 => by simp [tagsOf]
  | n + 1 => by
    rw [tagsOf_succ, List.count_append, tagsOf_count places c n, List.count_replicate]
    by_cases h : c < n
    · have h2 : ¬ n = c := by omega
      simp [h, h2, show c < n + 1 by omega]
    · by_cases h2 : n = c
      · subst h2; simp
      · simp [h, h2, show ¬ c < n + 1 by omega]
theorem tagsOf_len {places : List Nat} (hp : ∀ p ∈ places, p ≤ 3) : ∀ n, (tagsOf places n).length ≤ 3 * n
  | 0 => by simp [tagsOf]
  | n + 1 => by
    rw [tagsOf_succ, List.length_append, List.length_replicate]
    have := tagsOf_len hp n
    have : places[n]?.getD 0 ≤ 3 := by
      cases h : places[n]? with
      | none => simp
      | some p => simpa using hp p (List.mem_of_getElem? h)
    omega
abbrev pE (p : D) (size : Nat) (k : Nat) : En := [.mt p, .val (nD k), .val (nD size), .val (tN (List.range size)), .un, .un, .un, .un, .un, .un, .un, .un, .un, .un]
theorem draw_lit {d : D} {m : Nat} {i : Int} (hi : (m : Int) = i) (h : Pool d) (h1 : 1 ≤ m) (h2 : m < 1073741824) : ∃ (r : Nat) (d' : D), fn__law_draw [d, .int i] = .ret (nD r) [d'] ∧ Pool d' ∧ r < m := by
  subst hi
  exact draw_ok h h1 h2
theorem places_ok {d : D} {size k : Nat} (h : Pool d) : ∃ (places : List Nat) (d' : D), eComp [8] (gV 8) (iArg rng1 (aCons (eBin gAdd (eC (.int 1)) (eCall [.m, .v] fn__law_draw (gL 0 (gE (eC (.int 3)) (gNil'))))) (aNil))) bYes (eBin gIx (eLst (aCons (eC (.int 1)) (aCons (eC (.int 2)) (aCons (eC (.int 0)) (aCons (eC (.int 3)) (aNil)))))) (eCall [.m, .v] fn__law_draw (gL 0 (gE (eC (.int 4)) (gNil'))))) (pE d size k) = .ok (lN places) (pE d' size k) ∧ Pool d' ∧ 1 ≤ places.length ∧ places.length ≤ 3 ∧ ∀ p ∈ places, p ≤ 3 := by
  obtain ⟨k0, d0, h1, h2, h3⟩ := draw_lit (m := 3) (i := 3) rfl h (by omega) (by omega)
  have e : (1 : Int) + k0 = ((1 + k0 : Nat) : Int) := by omega
  have hfi : iArg rng1 (aCons (eBin gAdd (eC (.int 1)) (eCall [.m, .v] fn__law_draw (gL 0 (gE (eC (.int 3)) (gNil'))))) (aNil)) (pE d size k) = .ok ((List.range (1 + k0)).map nD) (pE d0 size k) := by
    simp [h1]
    rw [e, rng1_nat _ (by omega)]
    rfl
  obtain ⟨places, d1, p1, p2, p3, p4⟩ := comp_st (vs := [8]) (tg := gV 8) (fe := eBin gIx (eLst (aCons (eC (.int 1)) (aCons (eC (.int 2)) (aCons (eC (.int 0)) (aCons (eC (.int 3)) (aNil)))))) (eCall [.m, .v] fn__law_draw (gL 0 (gE (eC (.int 4)) (gNil')))))
    (en := nD) nD (fun s => pE s size k) Pool (fun _ y => y ≤ 3) d0 hfi (by simp; omega) rfl rfl h2 (fun s hs x hx => by
      obtain ⟨r, s', a1, a2, a3⟩ := draw_lit (m := 4) (i := 4) rfl hs (by omega) (by omega)
      have hr : ∃ y : Nat, ([D.int 1, .int 2, .int 0, .int 3] : List D)[r]? = some (nD y) ∧ y ≤ 3 := by
        match r, a3 with
        | 0, _ => exact ⟨1, rfl, by omega⟩
        | 1, _ => exact ⟨2, rfl, by omega⟩
        | 2, _ => exact ⟨0, rfl, by omega⟩
        | 3, _ => exact ⟨3, rfl, by omega⟩
      obtain ⟨y, hy, hy3⟩ := hr
      exact ⟨y, s', _, (pE s' size k).set 8 (.val (nD x)), a2, hy3, rfl, by simp [a1, hy], rfl⟩)
  refine ⟨places, d1, p4, p1, by rw [p2, List.length_range]; omega, by rw [p2, List.length_range]; omega, fun p hp => ?_⟩
  obtain ⟨i, hi⟩ := List.getElem?_of_mem hp
  have := (List.getElem?_eq_some_iff.mp hi).1
  rw [p2, List.length_range] at this
  exact p3 i i p (by rw [List.getElem?_range (by omega)]) hi

theorem draws_ok {d : D} {size m : Nat} {fm : ESem} {r1 r3 r4 r5 r6 r7 r8 r9 r10 r11 r13 : Sl} (h : Pool d) (hs : size ≤ 1000) (hm : 1 ≤ m) (hm2 : m < 1073741824)
    (hf : ∀ s x, fm [.mt s, r1, .val (nD size), r3, r4, r5, r6, r7, r8, r9, r10, r11, .val x, r13] = .ok (nD m) [.mt s, r1, .val (nD size), r3, r4, r5, r6, r7, r8, r9, r10, r11, .val x, r13]) :
    ∃ (ys : List Nat) (d' : D), eComp [12] (gV 12) (iArg rng1 (aCons (eVar 2) (aNil))) bYes (eCall [.m, .v] fn__law_draw (gL 0 (gE fm (gNil')))) [.mt d, r1, .val (nD size), r3, r4, r5, r6, r7, r8, r9, r10, r11, .un, r13] = .ok (lN ys) [.mt d', r1, .val (nD size), r3, r4, r5, r6, r7, r8, r9, r10, r11, .un, r13] ∧ Pool d' ∧ ys.length = size ∧ ∀ y ∈ ys, y < m := by
  have hfi : iArg rng1 (aCons (eVar 2) (aNil)) [.mt d, r1, .val (nD size), r3, r4, r5, r6, r7, r8, r9, r10, r11, .un, r13] = .ok ((List.range size).map nD) [.mt d, r1, .val (nD size), r3, r4, r5, r6, r7, r8, r9, r10, r11, .un, r13] := by
    simp [show size < 4611686018427387904 by omega]
  obtain ⟨ys, d1, p1, p2, p3, p4⟩ := comp_st (vs := [12]) (tg := gV 12) (fe := eCall [.m, .v] fn__law_draw (gL 0 (gE fm (gNil')))) (en := nD) nD (fun s => [.mt s, r1, .val (nD size), r3, r4, r5, r6, r7, r8, r9, r10, r11, .un, r13]) Pool (fun _ y => y < m) d hfi (by simp; omega) rfl rfl h (fun s hs x hx => by
      obtain ⟨r, s', a1, a2, a3⟩ := draw_ok (m := m) hs hm hm2
      exact ⟨r, s', _, [.mt s', r1, .val (nD size), r3, r4, r5, r6, r7, r8, r9, r10, r11, .val (nD x), r13], a2, a3, rfl, by simp [hf, a1], rfl⟩)
  refine ⟨ys, d1, p4, p1, by simpa using p2, fun y hy => ?_⟩
  obtain ⟨i, hi⟩ := List.getElem?_of_mem hy
  have := (List.getElem?_eq_some_iff.mp hi).1
  rw [p2, List.length_range] at this
  exact p3 i i y (by rw [List.getElem?_range (by omega)]) hi

theorem tupN (xs : List Nat) : D.tup (xs.map nD) = tN xs := rfl
def teamLs (places classes : List Nat) (size n : Nat) : List (List Nat) := (tagsOf places n).map fun c => (List.range size).filter fun x => decide (classes[x]?.getD 0 = c)
theorem told1 {d : D} {size : Nat} (h : Pool d) (hs : size ≤ 10) : Told size 1 (fn__law_told [d, nD 1, nD size]) := by
  have hs6 : size ≤ 1000000 := by omega
  obtain ⟨places, d1, p1, p2, p3, p4, p5⟩ := places_ok (size := size) (k := 1) h
  obtain ⟨classes, d2, c1, c2, c3, c4⟩ := draws_ok (size := size) (m := places.length) (fm := eCB (g1 gLen) (aCons (eVar 5) aNil)) (r1 := .val (nD 1)) (r3 := .val (tN (List.range size))) (r4 := .un) (r5 := .val (lN places)) (r6 := .un) (r7 := .un) (r8 := .un) (r9 := .un) (r10 := .un) (r11 := .un) (r13 := .un) p2 (by omega) p3 (by omega) (fun s x => by simp)
  refine fin_fn rfl ?_
  have hcl : ∀ x, x < size → classes[x]? = some (classes[x]?.getD 0) := fun x hx => by
    rw [List.getElem?_eq_getElem (by omega)]; rfl
  simp [g__law_told, hs6, tupN, p1, c1, show places.length < 4611686018427387904 by omega]
  refine sat_seq ?_
  refine sat_for_seq (fun (done : List Nat) e => ∃ s8 s9 s10, e = [.mt d2, .val (nD 1), .val (nD size), .val (tN (List.range size)), .un, .val (lN places), .val (lN classes), .own (.lst ((teamLs places classes size done.length).map tN)), s8, s9, s10, .un, .un, .un]) ⟨_, _, _, rfl⟩ ?_ ?_
  · rintro done c rest he e ⟨s8, s9, s10, rfl⟩
    have hdl : done.length < places.length := by
      have := congrArg List.length he
      simp at this
      omega
    have hc : c = done.length := by
      have h := congrArg (fun l => l[done.length]?) he
      simp [hdl] at h
      exact h.symm
    have htl := tagsOf_len p5 done.length
    have hpc : places[c]?.getD 0 ≤ 3 := by
      rw [hc, List.getElem?_eq_getElem hdl]
      exact p5 _ (List.getElem_mem hdl)
    refine ⟨_, rfl, ?_⟩
    simp
    rw [comp_filN (xs := List.range size) (e1 := [.mt d2, .val (nD 1), .val (nD size), .val (tN (List.range size)), .un, .val (lN places), .val (lN classes), .own (.lst ((teamLs places classes size done.length).map tN)), .val (nD c), s9, s10, .un, .un, .un]) (fun x => decide (classes[x]?.getD 0 = c)) (by simp) (by simp; omega) rfl]
    · obtain ⟨m, hm⟩ : ∃ m, places[c]? = some m := ⟨_, List.getElem?_eq_getElem (by omega)⟩
      rw [hm] at hpc
      have hpc : m ≤ 3 := hpc
      simp [hm, show m < 4611686018427387904 by omega]
      refine sat_for (fun (done2 : List Nat) e => ∃ (s10 : Sl) (L : List (List Nat)), e = [.mt d2, .val (nD 1), .val (nD size), .val (tN (List.range size)), .un, .val (lN places), .val (lN classes), .own (.lst (L.map tN)), .val (nD c), .val (tN ((List.range size).filter fun x => decide (classes[x]?.getD 0 = c))), s10, .un, .un, .un] ∧ L = teamLs places classes size done.length ++ List.replicate done2.length ((List.range size).filter fun x => decide (classes[x]?.getD 0 = c))) ?_ ?_ ?_
      · exact ⟨_, _, rfl, by simp⟩
      · rintro done2 y rest2 he2 e ⟨s10, L, rfl, hL⟩
        have hd2 : done2.length ≤ m := by
          have := congrArg List.length he2
          simp at this
          omega
        have hLl : L.length ≤ 1000 := by
          rw [hL, List.length_append, List.length_replicate]
          unfold teamLs
          rw [List.length_map]
          omega
        refine ⟨_, rfl, ?_⟩
        simp [show L.length ≤ 1000000 by omega]
        rw [hL, List.map_append, List.append_assoc, List.replicate_succ', List.map_replicate]
      · rintro e ⟨s10, L, rfl, hL⟩
        have e1 : L = teamLs places classes size (done.length + 1) := by
          rw [hL, List.length_range]
          unfold teamLs
          rw [tagsOf_succ, List.map_append, List.map_replicate, ← hc, hm]
          rfl
        simp [e1]
    · intro x hx
      have hx : x < size := by simpa using hx
      have hx' : x < classes.length := by omega
      exact ⟨_, rfl, by simp [hx'], by simp, rfl⟩
  · rintro e ⟨s8, s9, s10, rfl⟩
    have hti := Teams_init (classes := classes) (places := places) c4 (by omega) (by omega)
    simp [hti]
    have hL : ∀ l ∈ teamLs places classes size places.length, Asc size l := by
      intro l hl
      obtain ⟨c, _, rfl⟩ := List.mem_map.mp hl
      exact asc_range.sub List.filter_sublist
    have hlen : (teamLs places classes size places.length).length ≤ 1000 := by
      unfold teamLs
      rw [List.length_map]
      have := tagsOf_len p5 places.length
      omega
    refine ⟨.tup [lN places, lN classes], oR "Teams" classes.length ["classes", "places"] [tN classes, tN places], d2, teamLs places classes size places.length, fun xs => ((places.zipIdx 0).map fun p => min p.1 ((xs.map fun x => classes.getD x 0).count p.2)).sum, by simp, c2, ?_, hL, hlen, ?_, ?_⟩
    · have := mk_Teams (classes := classes) (places := places) c4 (by omega) (by omega)
      rw [c3] at this ⊢
      exact this
    · intro xs hx
      have := counted1 (xs := xs) (places := places) (classes := classes) (by simp; intro x hxm; rw [c3]; exact hx.2 x hxm) (by have := hx.len; omega) (by omega)
      dsimp only
      rw [sum_zip places fun c => (xs.map fun x => classes.getD x 0).count c]
      have e1 : nD 1 = .int 1 := by simp [nD]
      rw [e1]
      simpa using this
    · intro xs hx
      have hcl : ∀ x ∈ xs, classes[x]?.getD 0 < places.length := fun x hxm => by
        have := hx.2 x hxm
        rw [List.getElem?_eq_getElem (by omega)]
        exact c4 _ (List.getElem_mem _)
      have h1 := tags_top (size := size) (tags := tagsOf places places.length) (cl := fun x => classes[x]?.getD 0) (P := places.length) (xs := xs) (by omega) (by have := tagsOf_len p5 places.length; omega) hx hcl
      dsimp only
      rw [sum_zip places fun c => (xs.map fun x => classes.getD x 0).count c]
      have e : ((List.range places.length).map fun c => min ((tagsOf places places.length).count c) ((xs.map fun x => classes[x]?.getD 0).count c)) = ((List.range places.length).map fun c => min (places[c]?.getD 0) ((xs.map fun x => classes.getD x 0).count c)) := by
        refine List.map_congr_left fun c hc => ?_
        rw [tagsOf_count, if_pos (by simpa using hc)]
        simp
      rw [e] at h1
      exact h1

def workLs (days : List Nat) (size : Nat) : List (List Nat) := (List.range size).map fun p => (List.range size).filter fun x => decide (p + 1 ≤ days[x]?.getD 0)
theorem insN_map (f : Nat → Nat) (x : Nat) : ∀ ys : List Nat, (insK f x ys).map f = insN (f x) (ys.map f)
  | [] => rfl
  | y :: ys => by
    unfold insK
    rw [List.map_cons, insN]
    split
    · rfl
    · rw [List.map_cons, insN_map f x ys]
theorem ksort_map (f : Nat → Nat) : ∀ xs : List Nat, (ksort f xs).map f = nsort (xs.map f)
  | [] => rfl
  | x :: xs => by rw [ksort, insN_map, ksort_map f xs]; rfl
theorem wUp_eq : ∀ (ds : List Nat) (n : Nat), worksUp ds n = wUp ds n
  | [], _ => rfl
  | d :: ds, n => wUp_eq ds _
theorem works_top {size : Nat} {days xs : List Nat} (hs : size ≤ 1000) (hx : Asc size xs) :
    Top (RL (workLs days size)) xs (worksUp (nsort (xs.map fun x => days[x]?.getD 0)) 0) ∧ worksUp (nsort (xs.map fun x => days[x]?.getD 0)) 0 = minN ((List.range (size + 1)).map fun t => t + ((xs.map fun x => days[x]?.getD 0).filter fun d => decide (t < d)).length) := by
  obtain ⟨h1, h2, ⟨t, h3, h4⟩, h5⟩ := top_works (R := RL (workLs days size)) (f := fun x => days[x]?.getD 0) (size := size) (xs := xs) (ds := nsort (xs.map fun x => days[x]?.getD 0)) hx.nodup hx.len (fun x hxm p => by
    unfold RL workLs
    rw [List.getElem?_map]
    constructor
    · rintro ⟨l, g1, g2⟩
      obtain ⟨q, g3, rfl⟩ := Option.map_eq_some_iff.mp g1
      have := (List.getElem?_eq_some_iff.mp g3).1
      have hp : p < size := by simpa using this
      rw [List.getElem?_range hp] at g3
      cases g3
      simp at g2
      omega
    · rintro ⟨g1, g2⟩
      refine ⟨_, by rw [List.getElem?_range g2]; rfl, ?_⟩
      simp
      exact ⟨hx.2 x hxm, g1⟩) (ksort_map _ _).symm (nsort_sorted _)
  rw [wUp_eq]
  refine ⟨h1, ?_⟩
  obtain ⟨g1, g2⟩ := minN_spec (kl_nonempty size fun t => t + ((xs.map fun x => days[x]?.getD 0).filter fun d => decide (t < d)).length)
  refine Nat.le_antisymm ?_ ?_
  · obtain ⟨t', _, e⟩ := List.mem_map.mp g1
    rw [← e]
    exact h5 t'
  · rw [h4]
    exact g2 _ (List.mem_map.mpr ⟨t, by simp; omega, rfl⟩)
theorem told2 {d : D} {size : Nat} (h : Pool d) (hs : size ≤ 10) : Told size 2 (fn__law_told [d, nD 2, nD size]) := by
  have hs6 : size ≤ 1000000 := by omega
  have e2 : nD (size + 2) = .int ((size : Int) + 2) := by simp [nD]
  obtain ⟨days, d2, c1, c2, c3, c4⟩ := draws_ok (size := size) (m := size + 2) (fm := eBin gAdd (eVar 2) (eC (.int 2))) (r1 := .val (nD 2)) (r3 := .val (tN (List.range size))) (r4 := .un) (r5 := .un) (r6 := .un) (r7 := .un) (r8 := .un) (r9 := .un) (r10 := .un) (r11 := .un) (r13 := .un) h (by omega) (by omega) (by omega) (fun s x => by simp)
  refine fin_fn rfl ?_
  simp [g__law_told, hs6, tupN, c1]
  have hr2 : rng2 [.int 1, .int ((size : Int) + 1)] = some ((List.range size).map fun p => nD (p + 1)) := by
    have := intsFrom_eq size 1
    have hi : intsFrom 1 ((size : Int) + 1 - 1).toNat = (List.range size).map fun p => nD (p + 1) := by
      have e : ((size : Int) + 1 - 1).toNat = size := by omega
      have e' : (1 : Int) = ((1 : Nat) : Int) := rfl
      rw [e, e', this, List.range'_eq_map_range, List.map_map]
      refine List.map_congr_left fun p _ => ?_
      simp [nD]
      omega
    simp only [rng2]
    rw [if_pos ⟨⟨by omega, by omega⟩, ⟨by omega, by omega⟩⟩, hi]
  rw [comp_map (xs := List.range size) (en := fun p => nD (p + 1)) (e1 := [.mt d2, .val (nD 2), .val (nD size), .val (tN (List.range size)), .un, .un, .un, .un, .un, .un, .un, .val (lN days), .un, .un]) (fun p => tN ((List.range size).filter fun x => decide (p + 1 ≤ days[x]?.getD 0))) (by simp [hr2]) (by simp; omega) rfl]
  · have hwi := Works_init (days := days) (by omega)
    have eL : ((List.range size).map fun p => tN ((List.range size).filter fun x => decide (p + 1 ≤ days[x]?.getD 0))) = (workLs days size).map tN := by
      unfold workLs
      rw [List.map_map]
      rfl
    rw [eL]
    simp [hwi]
    refine ⟨.tup [.int 0, lN days], oR "Works" days.length ["days"] [tN days], d2, workLs days size, fun xs => worksUp (nsort (xs.map fun x => days[x]?.getD 0)) 0, by simp, c2, ?_, ?_, ?_, ?_, ?_⟩
    · have := mk_Works (days := days) (by omega)
      rw [c3] at this ⊢
      exact this
    · intro l hl
      obtain ⟨c, _, rfl⟩ := List.mem_map.mp hl
      exact asc_range.sub List.filter_sublist
    · unfold workLs; simp; omega
    · intro xs hx
      have := counted2 (xs := xs) (days := days) (by simp; intro x hxm; rw [c3]; exact hx.2 x hxm) (by have := hx.len; omega) (by omega)
      have e1 : nD 2 = .int 2 := by simp [nD]
      dsimp only
      rw [e1, this, c3, (works_top (days := days) (by omega) hx).2]
    · intro xs hx
      exact (works_top (by omega) hx).1
  · intro p hp
    refine ⟨_, rfl, ?_, rfl⟩
    simp
    rw [comp_filN (xs := List.range size) (e1 := [.mt d2, .val (nD 2), .val (nD size), .val (tN (List.range size)), .un, .un, .un, .un, .un, .un, .un, .val (lN days), .un, .val (nD (p + 1))]) (fun x => decide (p + 1 ≤ days[x]?.getD 0)) (by simp) (by simp; omega) rfl]
    · simp
    · intro x hx
      have hx' : x < days.length := by have : x < size := by simpa using hx
                                       omega
      refine ⟨_, rfl, ?_, by simp, rfl⟩
      simp [hx']
      omega
end K00

namespace K00
open PySem PySem.Spec PyProof.Rows L2 Dl Tv
theorem mis_one {size x : Nat} (h : size ≤ x) (th : D) (hi : items th = some ([x].map nD)) : fn_misplaced [.int size, th] = .ret (.int 0) [] :=
  misplaced_at (ys := []) (r := []) (x := x) (zs := [x]) ⟨by simp, by simp⟩ rfl (.inl h) th hi
theorem mis_two {size : Nat} (h : 0 < size) : fn_misplaced [.int size, .tup [.int 0, .int 0]] = .ret (.int 1) [] :=
  misplaced_at (ys := [0]) (r := []) (x := 0) (zs := [0, 0]) ⟨by simp, by simpa using h⟩ rfl (.inr ⟨0, rfl, Nat.le_refl _⟩) _ rfl
theorem mis_range {size : Nat} : fn_misplaced [.int size, tN (List.range (size + 1))] = .ret (.int size) [] := by
  have := misplaced_at (size := size) (ys := List.range size) (r := []) (x := size) (zs := List.range (size + 1)) asc_range (List.range_succ) (.inl (Nat.le_refl _)) (tN (List.range (size + 1))) rfl
  simpa using this
theorem refused0 {o : D} {size : Nat} {rk : List Nat → Nat} (h : RuleD o size rk) : fn__law_refused [o, nD size, .int 0] = .ret (.bl true) [] := by
  by_cases hs : 0 < size
  · have h1 := Rule_is_free_bad h (mis_two hs)
    simp [fn__law_refused, g__law_refused, hs, h.m_is_free, h1, tl_BadSet, number_int]
  · have hs0 : size = 0 := by omega
    subst hs0
    have h1 := Rule_is_free_bad h (mis_one (size := 0) (x := 0) (by omega) (.tup [.int 0]) rfl)
    simp [fn__law_refused, g__law_refused, h.m_is_free, h1, tl_BadSet, number_int]

theorem refused1 {o : D} {size : Nat} {rk : List Nat → Nat} (h : RuleD o size rk) : fn__law_refused [o, nD size, .int 1] = .ret (.bl true) [] := by
  have h1 := Rule_rank_bad h (mis_one (size := size) (x := size) (Nat.le_refl _) (.lst [.int size]) rfl)
  simp [fn__law_refused, g__law_refused, h.m_rank, h1, tl_BadSet, number_int]
theorem refused2 {size : Nat} {Ls : List (List Nat)} : fn__law_refused [oR "Lists" size ["lists"] [.tup (Ls.map tN)], nD size, .int 2] = .ret (.bl true) [] := by
  have h1 := places_for_bad (Ls := Ls) (mis_one (size := size) (x := size) (Nat.le_refl _) (.tup [.int size]) rfl)
  simp [fn__law_refused, g__law_refused, h1, tl_BadSet, number_int]
theorem refused3 {o : D} {size : Nat} (hs : size ≤ 1000) : fn__law_refused [o, nD size, .int 3] = .ret (.bl true) [] := by
  obtain ⟨o', h1⟩ := Lists_init_bad (size := size) (l := List.range size) (bad := List.range (size + 1)) hs asc_range mis_range
  have e1 : (size : Int) + 1 = ((size + 1 : Nat) : Int) := by omega
  have e2 : gRng1 D.tup (.int ((size : Int) + 1)) = some (tN (List.range (size + 1))) := by
    rw [e1, gRng1_nat _ _ (by omega)]
    rfl
  simp [fn__law_refused, g__law_refused, e2, tupN, h1, tl_BadSet, tl_BadEntry, number_int, show size ≤ 1000000 by omega]
theorem refused4 {o : D} {size : Nat} : fn__law_refused [o, nD size, .int 4] = .ret (.bl true) [] := by
  have h1 := Rule_init_bad (c := "Rule") (s := -1) (by omega)
  have h2 : PyData.strOk "size" = true := by decide +kernel
  have h3 : gEq (.str "size") (.str "size") = some (.bl true) := by rw [gEq_str h2 h2]; simp
  simp [fn__law_refused, g__law_refused, h1, tl_BadSet, tl_BadEntry, tl_BadNumber, h3]
theorem gIn_LN_t (xs : List Nat) (L : List (List Nat)) : gIn true (tN xs) (.lst (L.map tN)) = some (.bl (!decide (xs ∈ L))) := by simp [gIn_LN]
theorem gIn_LN_f (xs : List Nat) (L : List (List Nat)) : gIn false (tN xs) (.lst (L.map tN)) = some (.bl (decide (xs ∈ L))) := by simp [gIn_LN]
theorem sort_asc {size x : Nat} {xs : List Nat} (h : Asc size xs) (hx : x < size) (hn : x ∉ xs) : Asc size (nsort (xs ++ [x])) ∧ ∀ y, y ∈ nsort (xs ++ [x]) ↔ y ∈ xs ∨ y = x := by
  have hp := nsort_perm (xs ++ [x])
  have hm : ∀ y, y ∈ nsort (xs ++ [x]) ↔ y ∈ xs ∨ y = x := fun y => by rw [hp.mem_iff]; simp
  have hnd : (nsort (xs ++ [x])).Nodup := hp.nodup_iff.mpr (by
    rw [List.nodup_append]
    exact ⟨h.nodup, by simp, fun a ha b hb => by simp at hb; subst hb; exact fun z => hn (z ▸ ha)⟩)
  refine ⟨⟨?_, fun y hy => ?_⟩, hm⟩
  · have hs := nsort_sorted (xs ++ [x])
    exact (hs.and hnd).imp fun h => by omega
  · rcases (hm y).mp hy with h1 | rfl
    · exact h.2 y h1
    · exact hx
theorem axioms_ok {o pool : D} {size : Nat} {Ls : List (List Nat)} (h : RuleD o size (rkL Ls)) (hL : Ls.length ≤ 1000) (hs : size ≤ 10) (hp : Pool pool) : ∃ pool', fn__law_axioms [o, .lst ((sub size).map tN), pool] = .ret (.bl true) [pool'] ∧ Pool pool' := by
  refine fin_fn (R := fun r => ∃ pool', r = .ret (.bl true) [pool'] ∧ Pool pool') rfl ?_
  have hsl : (sub size).length ≤ 1024 := by
    rw [sub_len]
    exact Nat.pow_le_pow_right (n := 2) (by omega) hs
  generalize hfree : (sub size).filter (fun xs => decide (rkL Ls xs = xs.length)) = free
  have hfl : free.length ≤ 1024 := by rw [← hfree]; exact Nat.le_trans (List.length_filter_le _ _) hsl
  have mem : ∀ xs, xs ∈ free ↔ Asc size xs ∧ Sd (RL Ls) xs := fun xs => by
    rw [← hfree, List.mem_filter, sub_mem, decide_eq_true_eq]
    constructor
    · rintro ⟨h1, h2⟩
      exact ⟨h1, (rkL_top hL h1.nodup (by have := h1.len; omega)).full h1.nodup |>.mp h2⟩
    · rintro ⟨h1, h2⟩
      exact ⟨h1, (rkL_top hL h1.nodup (by have := h1.len; omega)).full h1.nodup |>.mpr h2⟩
  have hnil : [] ∈ free := (mem []).mpr ⟨⟨by simp, by simp⟩, Sd.nil⟩
  have hpos : 1 ≤ free.length := List.length_pos_of_mem hnil
  simp [g__law_axioms]
  rw [comp_eq (xs := sub size) (en := tN) (e1 := [.val o, .val (.lst ((sub size).map tN)), .mt pool, .un, .un, .un, .un, .un, .un, .un, .un]) (fun xs => decide (rkL Ls xs = xs.length)) tN (by simp) (by omega) rfl, hfree]
  · have hin : gIn true (.tup []) (.lst (free.map tN)) = some (.bl false) := by
      have := gIn_LN_t [] free
      simp [hnil] at this
      exact this
    have r12 : rng1 [.int 12] = some ((List.range 12).map nD) := rng1_nat 12 (by omega)
    simp [hin, r12, -List.map_map]
    refine sat_for_seq (fun _ e => ∃ (p' : D) (s4 s5 s6 s7 s8 : Sl), e = [.val o, .val (.lst ((sub size).map tN)), .mt p', .val (.lst (free.map tN)), s4, s5, s6, s7, s8, .un, .un] ∧ Pool p' ∧ s7.lent = none) ?_ ?_ ?_
    · exact ⟨pool, _, _, _, _, _, rfl, hp, rfl⟩
    · rintro done t rest he e ⟨p', s4, s5, s6, s7, s8, rfl, hp', h7⟩
      obtain ⟨r1, p1, a1, a2, a3⟩ := draw_ok (m := free.length) hp' hpos (by omega)
      obtain ⟨r2, p2, b1, b2, b3⟩ := draw_ok (m := free.length) a2 hpos (by omega)
      have ho1 : (free.map tN)[r1]? = some (tN free[r1]) := by simp [a3]
      have ho2 : (free.map tN)[r2]? = some (tN free[r2]) := by simp [b3]
      have m1 : free[r1] ∈ free := List.getElem_mem _
      have m2 : free[r2] ∈ free := List.getElem_mem _
      generalize free[r1] = one at ho1 m1
      generalize free[r2] = other at ho2 m2
      obtain ⟨one1, one2⟩ := (mem one).mp m1
      obtain ⟨oth1, oth2⟩ := (mem other).mp m2
      refine ⟨_, rfl, ?_⟩
      simp [a1, b1, ho1, ho2, -List.getElem?_map, -List.map_map]
      refine sat_for_seq (fun _ e => ∃ s7, e = [.val o, .val (.lst ((sub size).map tN)), .mt p2, .val (.lst (free.map tN)), .val (nD t), .val (tN one), .val (tN other), s7, s8, .un, .un] ∧ s7.lent = none) ⟨s7, rfl, h7⟩ ?_ ?_
      · rintro done2 x rest2 he2 e ⟨s7, rfl, h7⟩
        have hxo : x ∈ one := by rw [he2]; simp
        have hlen := one1.len
        have hin2 : one.filter (fun y => !decide (y = x)) ∈ free := (mem _).mpr ⟨one1.sub List.filter_sublist, one2.sub fun y hy => (List.mem_filter.mp hy).1⟩
        refine ⟨_, rfl, ?_⟩
        simp [-List.map_map]
        rw [comp_filN (xs := one) (e1 := [.val o, .val (.lst ((sub size).map tN)), .mt p2, .val (.lst (free.map tN)), .val (nD t), .val (tN one), .val (tN other), .val (nD x), s8, .un, .un]) (fun y => !decide (y = x)) (by simp) (by omega) rfl]
        · simp [gIn_LN_t, hin2, -List.map_map]
        · intro y hy
          refine ⟨_, rfl, by simp, by simp, rfl⟩
      · rintro e ⟨s7, rfl, h7⟩
        by_cases hlt : one.length < other.length
        · have hlo := oth1.len
          simp [hlt, -List.map_map]
          rw [comp_filN (xs := other) (e1 := [.val o, .val (.lst ((sub size).map tN)), .mt p2, .val (.lst (free.map tN)), .val (nD t), .val (tN one), .val (tN other), s7, s8, .un, .un]) (fun x => !decide (x ∈ one) && decide (nsort (one ++ [x]) ∈ free)) (by simp) (by omega) (by simp [clean, h7])]
          · have hne : other.filter (fun x => !decide (x ∈ one) && decide (nsort (one ++ [x]) ∈ free)) ≠ [] := by
              obtain ⟨b, x1, x2, x3⟩ := Sd.exchange one1.nodup oth1.nodup one2 oth2 hlt
              intro z
              have : b ∈ other.filter (fun x => !decide (x ∈ one) && decide (nsort (one ++ [x]) ∈ free)) := by
                obtain ⟨y1, y2⟩ := sort_asc one1 (oth1.2 b x1) x2
                simp only [List.mem_filter, Bool.and_eq_true, decide_eq_true_eq, Bool.not_eq_true', decide_eq_false_iff_not]
                refine ⟨x1, x2, (mem _).mpr ⟨y1, x3.sub fun y hy => ?_⟩⟩
                rcases (y2 y).mp hy with h | h <;> simp [h]
              rw [z] at this
              simp at this
            simp only [sSet', then_ok', bind_ok', seq_nx', List.set_cons_succ, List.set_cons_zero, sIf', bT', eBin', eVar', List.getElem?_cons_succ, List.getElem?_cons_zero, eLst', aNil', small', List.length_nil, Nat.zero_le, decide_true, if_true, gEq_lN_nil, lift_some', decide_eq_false hne, sNil', Bool.false_eq_true, if_false]
            simp [-List.map_map]
            exact ⟨_, _, _, _, _, ⟨rfl, rfl, rfl, rfl, rfl⟩, b2, h7⟩
          · intro x hx
            have hxs : x < size := oth1.2 x hx
            have hl1 := one1.len
            refine ⟨_, rfl, ?_, by simp, rfl⟩
            by_cases hxo : x ∈ one
            · simp [hxo]
            · simp [hxo, show one.length < 1000000 by omega, gIn_LN_f, tupN, -List.map_map]
        · simp [hlt]
          exact ⟨_, _, _, _, _, ⟨rfl, rfl, rfl, rfl, rfl⟩, b2, h7⟩
    · rintro e ⟨p', s4, s5, s6, s7, s8, rfl, hp', h7⟩
      simp
      exact hp'
  · intro xs hx
    have h1 := Rule_is_free h (sub_mem.mp hx) (th := tN xs) rfl
    exact ⟨_, rfl, by simp [h.m_is_free, h1], by simp, rfl⟩
end K00

namespace K00
open PySem PySem.Spec PyProof.Rows L2 Dl Tv
theorem eCallN' {n : Nat} {f : List D → Option D} {h : ASem} {env : En} : eCallN n f h env = (h env).bind fun ds e1 => if ds.length = n then lift (f ds) e1 else .stuck := rfl
theorem repr_bl (b : Bool) : ∃ s, gRepr (.bl b) = some (.str s) ∧ PyData.strOk s = true := by
  cases b
  · exact ⟨_, rfl, by decide +kernel⟩
  · exact ⟨_, rfl, by decide +kernel⟩
def reprOk (d : D) : Bool := match gRepr d with
  | some (.str s) => PyData.strOk s
  | _ => false
theorem repr_sub7 : (sub 7).all (fun xs => reprOk (tN xs)) = true := by decide +kernel
theorem repr_tN {size : Nat} {xs : List Nat} (h : Asc size xs) (hs : size ≤ 7) : ∃ s, gRepr (tN xs) = some (.str s) ∧ PyData.strOk s = true := by
  have hm : xs ∈ sub 7 := sub_mem.mpr ⟨h.1, fun x hx => by have := h.2 x hx; omega⟩
  have := List.all_eq_true.mp repr_sub7 xs hm
  unfold reprOk at this
  split at this
  · rename_i s hs
    exact ⟨s, hs, this⟩
  · cases this
theorem repr_same {d : D} (h : ∃ s, gRepr d = some (.str s) ∧ PyData.strOk s = true) : ((gRepr d).bind fun a => (gRepr d).bind fun b => gNe a b) = some (.bl false) := by
  obtain ⟨s, h1, h2⟩ := h
  rw [h1]
  show gNe (.str s) (.str s) = _
  rw [gNe_str h2 h2]
  simp
theorem stp {Q : SOut → Prop} {o : SOut} {k : En → SOut} {e' : En} (h : o = .nx e') (g : Sat Q (k e')) : Sat Q (o.seq k) := by rw [h]; exact g
theorem RuleD.get_full {o : D} {size : Nat} {rk : List Nat → Nat} (h : RuleD o size rk) {fe : ESem} {env e1 : En} (hf : fe env = .ok o e1) : eGet cs_full fn_Rule_full fe env = .ok (.int (rk (List.range size))) e1 := by
  have hr := Rule_full h
  obtain ⟨c, ns', ds', hc, he, _⟩ := h.form
  simp [rules] at hc
  rw [eGet', hf, bind_ok']
  rw [he] at hr ⊢
  unfold oR at hr ⊢
  simp [hr, hc]
theorem call_vvm {g : FSem} {x y : D} {i : Nat} {env : En} : apply [.v, .v, .m] g [.d x, .d y, .l i] env = match ourD env i with
  | some d => match g [x, y, d] with
    | .ret r [o] => .ok r (putS env i o)
    | .exc x ns es [o] => .exc x ns es (putS env i o)
    | _ => .stuck
  | none => .stuck := by
  have h4 : argsD env [.v, .v, .m] [.d x, .d y, .l i] = (ourD env i).map fun d => [x, y, d] := by
    have e : argD env .m (.l i) = ourD env i := rfl
    simp only [argsD, e]
    simp only [argD]
    cases ourD env i <;> rfl
  unfold apply
  rw [h4]
  cases ourD env i with
  | none => rfl
  | some d =>
    show (if (slotsOf [.d x, .d y, .l i]).Nodup then _ else _) = _
    rw [if_pos (by simp [slotsOf])]
    show (match g [x, y, d] with | .ret d outs => _ | .exc c ns es outs => _ | .stuck => _) = (match g [x, y, d] with | .ret r [o] => _ | .exc x ns es [o] => _ | _ => _)
    cases g [x, y, d] with
    | ret r os =>
      match os with
      | [] => rfl
      | [o] => rfl
      | o :: o' :: os => rfl
    | exc x ns es os =>
      match os with
      | [] => rfl
      | [o] => rfl
      | o :: o' :: os => rfl
    | stuck => rfl
theorem toBools_true : ∀ n : Nat, toBools (List.replicate n (.bl true)) = some (List.replicate n true)
  | 0 => rfl
  | n + 1 => by rw [List.replicate_succ, toBools, toBools_true n]; rfl
theorem loose_ok {p : D} {size : Nat} {s0 s3 s4 s5 s6 s7 s8 s9 s10 s11 s13 : Sl} (hp : Pool p) (hs : size ≤ 1000) : ∃ (Ms : List (List Nat)) (p' : D), eComp [12] (gV 12) (iArg rng1 (aCons (eCall [.m, .v] fn__law_draw (gL 1 (gE (eC (.int 5)) gNil'))) aNil)) bYes (eCall [.m, .v] fn__law_subset (gL 1 (gE (eVar 2) gNil'))) [s0, .own p, .val (nD size), s3, s4, s5, s6, s7, s8, s9, s10, s11, .un, s13] = .ok (.lst (Ms.map tN)) [s0, .own p', .val (nD size), s3, s4, s5, s6, s7, s8, s9, s10, s11, .un, s13] ∧ Pool p' ∧ (∀ l ∈ Ms, Asc size l) ∧ Ms.length ≤ 1000 := by
  obtain ⟨r, p0, a1, a2, a3⟩ := draw_lit (m := 5) (i := 5) rfl hp (by omega) (by omega)
  have hfi : iArg rng1 (aCons (eCall [.m, .v] fn__law_draw (gL 1 (gE (eC (.int 5)) gNil'))) aNil) [s0, .own p, .val (nD size), s3, s4, s5, s6, s7, s8, s9, s10, s11, .un, s13] = .ok ((List.range r).map nD) [s0, .own p0, .val (nD size), s3, s4, s5, s6, s7, s8, s9, s10, s11, .un, s13] := by
    simp [a1, show r < 4611686018427387904 by omega]
  obtain ⟨Ms, p1, b1, b2, b3, b4⟩ := comp_st (vs := [12]) (tg := gV 12) (fe := eCall [.m, .v] fn__law_subset (gL 1 (gE (eVar 2) gNil'))) (en := nD) tN (fun s => [s0, .own s, .val (nD size), s3, s4, s5, s6, s7, s8, s9, s10, s11, .un, s13]) Pool (fun _ y => Asc size y) p0 hfi (by simp; omega) rfl rfl a2 (fun s hs' x hx => by
      obtain ⟨xs, s', c1, c2, c3⟩ := subset_ok hs' hs
      exact ⟨xs, s', _, [s0, .own s', .val (nD size), s3, s4, s5, s6, s7, s8, s9, s10, s11, .val (nD x), s13], c2, c3, rfl, by simp [c1], rfl⟩)
  refine ⟨Ms, p1, b4, b1, fun l hl => ?_, by rw [b2]; simp; omega⟩
  obtain ⟨i, hi⟩ := List.getElem?_of_mem hl
  have := (List.getElem?_eq_some_iff.mp hi).1
  rw [b2, List.length_range] at this
  exact b3 i i l (by rw [List.getElem?_range (by omega)]) hi
def sizes : List Nat := [4, 5, 3, 6, 7, 2, 5, 1, 0, 6]
theorem law_ok (ns : List Int) : fn_law [.frz (ns.map D.int)] = .ret (.bl true) [] := by
  obtain ⟨p0, hp0, P0⟩ := pool_ok ns
  obtain ⟨r0, p1, a1, P1, l1⟩ := draw_lit (m := 10) (i := 10) rfl P0 (by omega) (by omega)
  obtain ⟨size, hsz, hs7⟩ : ∃ size, ([D.int 4, .int 5, .int 3, .int 6, .int 7, .int 2, .int 5, .int 1, .int 0, .int 6] : List D)[r0]? = some (nD size) ∧ size ≤ 7 := by
    match r0, l1 with
    | 0, _ => exact ⟨4, rfl, by omega⟩
    | 1, _ => exact ⟨5, rfl, by omega⟩
    | 2, _ => exact ⟨3, rfl, by omega⟩
    | 3, _ => exact ⟨6, rfl, by omega⟩
    | 4, _ => exact ⟨7, rfl, by omega⟩
    | 5, _ => exact ⟨2, rfl, by omega⟩
    | 6, _ => exact ⟨5, rfl, by omega⟩
    | 7, _ => exact ⟨1, rfl, by omega⟩
    | 8, _ => exact ⟨0, rfl, by omega⟩
    | 9, _ => exact ⟨6, rfl, by omega⟩
  obtain ⟨kind, p2, a2, P2, l2⟩ := draw_lit (m := 3) (i := 3) rfl P1 (by omega) (by omega)
  have told : Told size kind (fn__law_told [p2, nD kind, nD size]) := by
    match kind, l2 with
    | 0, _ => exact told0 P2 (by omega)
    | 1, _ => exact told1 P2 (by omega)
    | 2, _ => exact told2 P2 (by omega)
  obtain ⟨numbers, rule, p3, Ls, rk, t1, P3, hR, hA, hLl, hC, hT⟩ := told
  have hs1 : size ≤ 1000 := by omega
  have hLi := Lists_init hs1 hA hLl
  have hTw := mk_Lists (Ls := Ls) hs1 hLl
  have hrk : ∀ xs, Asc size xs → rkL Ls xs = rk xs := fun xs hx => rkL_eq (hT xs hx)
  have hsub := subsets_ok (size := size) (by omega)
  have hlen1 := Rule_len (c := "Lists") (by simp [rules]) (size := size) (ns := ["lists"]) (ds := [.tup (Ls.map tN)])
  refine ret_fn rfl ?_
  have er : mkEnv [.v] [D.frz (ns.map D.int)] 14 = [.val (.frz (ns.map D.int)), .un, .un, .un, .un, .un, .un, .un, .un, .un, .un, .un, .un, .un] := rfl
  rw [er]
  generalize D.frz (ns.map D.int) = script at hp0
  simp only [g_law, sSeq']
  refine stp (e' := [.val script, .own p0, .un, .un, .un, .un, .un, .un, .un, .un, .un, .un, .un, .un]) (by simp [eCallN', hp0]) ?_
  simp only [sSeq']
  refine stp (e' := [.val script, .own p1, .val (nD size), .un, .un, .un, .un, .un, .un, .un, .un, .un, .un, .un]) (by simp [a1, hsz]) ?_
  simp only [sSeq']
  refine stp (e' := [.val script, .own p2, .val (nD size), .val (nD kind), .un, .un, .un, .un, .un, .un, .un, .un, .un, .un]) (by simp [a2]) ?_
  simp only [sSeq']
  refine stp (e' := [.val script, .own p3, .val (nD size), .val (nD kind), .val numbers, .val rule, .val (.lst (Ls.map tN)), .un, .un, .un, .un, .un, .un, .un]) (by simp [t1]) ?_
  simp only [sSeq']
  generalize hTwin : oR "Lists" size ["lists"] [.tup (Ls.map tN)] = twin at hLi hTw hlen1
  refine stp (e' := [.val script, .own p3, .val (nD size), .val (nD kind), .val numbers, .val rule, .val (.lst (Ls.map tN)), .val twin, .un, .un, .un, .un, .un, .un]) (by simp [hLi]) ?_
  simp only [sSeq']
  refine stp (e' := [.val script, .own p3, .val (nD size), .val (nD kind), .val numbers, .val rule, .val (.lst (Ls.map tN)), .val twin, .val (.lst ((sub size).map tN)), .un, .un, .un, .un, .un]) (by simp [hsub]) ?_
  simp only [sSeq']
  have hlenT : eLenO cs___len__ fn_Rule___len__ (eVar 7) [.val script, .own p3, .val (nD size), .val (nD kind), .val numbers, .val rule, .val (.lst (Ls.map tN)), .val twin, .val (.lst ((sub size).map tN)), .un, .un, .un, .un, .un] = .ok (nD size) [.val script, .own p3, .val (nD size), .val (nD kind), .val numbers, .val rule, .val (.lst (Ls.map tN)), .val twin, .val (.lst ((sub size).map tN)), .un, .un, .un, .un, .un] := by
    rw [← hTwin] at hlen1 ⊢
    unfold oR at hlen1 ⊢
    simp [hlen1]
    omega
  have hlenR : eLenO cs___len__ fn_Rule___len__ (eVar 5) [.val script, .own p3, .val (nD size), .val (nD kind), .val numbers, .val rule, .val (.lst (Ls.map tN)), .val twin, .val (.lst ((sub size).map tN)), .un, .un, .un, .un, .un] = .ok (nD size) [.val script, .own p3, .val (nD size), .val (nD kind), .val numbers, .val rule, .val (.lst (Ls.map tN)), .val twin, .val (.lst ((sub size).map tN)), .un, .un, .un, .un, .un] := by
    obtain ⟨c, ns', ds', hc, hf, _⟩ := hR.form
    have hl := Rule_len hc (size := size) (ns := ns') (ds := ds')
    rw [hf]
    unfold oR at hl ⊢
    simp [rules] at hc
    simp [hl, hc]
    omega
  refine stp (e' := [.val script, .own p3, .val (nD size), .val (nD kind), .val numbers, .val rule, .val (.lst (Ls.map tN)), .val twin, .val (.lst ((sub size).map tN)), .un, .un, .un, .un, .un]) (by simp [hlenT, hlenR, number_int, hTw.fsize, -eLenO']) ?_
  simp only [sSeq']
  refine sat_seq ?_
  simp
  refine sat_for (fun _ e => ∃ s9 s10, e = [.val script, .own p3, .val (nD size), .val (nD kind), .val numbers, .val rule, .val (.lst (Ls.map tN)), .val twin, .val (.lst ((sub size).map tN)), s9, s10, .un, .un, .un]) ⟨_, _, rfl⟩ ?_ ?_
  · rintro done xs rest he e ⟨s9, s10, rfl⟩
    have hx : Asc size xs := sub_mem.mp (by rw [he]; simp)
    have c1 := hC xs hx
    have c2 := Rule_rank hTw hx (th := lN xs) rfl
    have c3 := Rule_rank hR hx (th := tN xs) rfl
    have c4 := Rule_is_free hTw hx (th := tN xs) rfl
    have c5 := Rule_is_free hR hx (th := lN xs) rfl
    have c6 := Rule_is_free (Rule_ok hs1) hx (th := tN xs) rfl
    have c7 := Rule_init (c := "Rule") (by simp [rules]) (size := size) (by omega)
    have c8 := (Rule_ok hs1).m_is_free
    rw [hrk xs hx] at c2 c4
    obtain ⟨sr, r1, r2⟩ := repr_bl (decide (rk xs = xs.length))
    have r3 := gNe_str r2 r2
    simp only [decide_true, Bool.not_true] at r3
    refine ⟨_, rfl, ?_⟩
    simp [c1, c2, c3, c4, c5, c6, c7, c8, hTw.m_rank, hR.m_rank, hTw.m_is_free, hR.m_is_free, number_int, r1, r3]
  · rintro e ⟨s9, s10, rfl⟩
    simp only [sat_beh_nx, sSeq']
    have d1 := Rule_dead hTw
    have d2 := Rule_dead hR
    have d3 := Rule_firm hTw
    have d4 := Rule_firm hR
    have q1 : (List.range size).filter (fun x => decide (rkL Ls [x] = 0)) = (List.range size).filter (fun x => decide (rk [x] = 0)) := List.filter_congr fun x hx => by
      rw [hrk [x] ⟨by simp, by simpa using hx⟩]
    have q2 : rkL Ls (List.range size) = rk (List.range size) := hrk _ asc_range
    have q3 : (List.range size).filter (fun x => decide (rkL Ls ((List.range size).filter fun y => !decide (y = x)) < rkL Ls (List.range size))) = (List.range size).filter (fun x => decide (rk ((List.range size).filter fun y => !decide (y = x)) < rk (List.range size))) := List.filter_congr fun x hx => by
      rw [q2, hrk _ (asc_range.sub List.filter_sublist)]
    rw [q1] at d1
    rw [q3] at d3
    obtain ⟨sd, w1, w2⟩ := repr_tN (xs := (List.range size).filter (fun x => decide (rk [x] = 0))) (asc_range.sub List.filter_sublist) hs7
    have w3 := gNe_str w2 w2
    simp only [decide_true, Bool.not_true] at w3
    generalize hdd : (List.range size).filter (fun x => decide (rk [x] = 0)) = dd at *
    generalize hff : (List.range size).filter (fun x => decide (rk ((List.range size).filter fun y => !decide (y = x)) < rk (List.range size))) = ff at *
    have g1 : eGet cs_full fn_Rule_full (eVar 7) [.val script, .own p3, .val (nD size), .val (nD kind), .val numbers, .val rule, .val (.lst (Ls.map tN)), .val twin, .val (.lst ((sub size).map tN)), s9, s10, .un, .un, .un] = .ok (.int (rk (List.range size))) [.val script, .own p3, .val (nD size), .val (nD kind), .val numbers, .val rule, .val (.lst (Ls.map tN)), .val twin, .val (.lst ((sub size).map tN)), s9, s10, .un, .un, .un] := by
      rw [← q2]
      exact hTw.get_full rfl
    have g2 : eGet cs_full fn_Rule_full (eVar 5) [.val script, .own p3, .val (nD size), .val (nD kind), .val numbers, .val rule, .val (.lst (Ls.map tN)), .val twin, .val (.lst ((sub size).map tN)), s9, s10, .un, .un, .un] = .ok (.int (rk (List.range size))) [.val script, .own p3, .val (nD size), .val (nD kind), .val numbers, .val rule, .val (.lst (Ls.map tN)), .val twin, .val (.lst ((sub size).map tN)), s9, s10, .un, .un, .un] := hR.get_full rfl
    refine stp (e' := [.val script, .own p3, .val (nD size), .val (nD kind), .val numbers, .val rule, .val (.lst (Ls.map tN)), .val twin, .val (.lst ((sub size).map tN)), s9, s10, .un, .un, .un]) (by simp [d1, d2, d3, d4, hTw.m_dead, hR.m_dead, hTw.m_firm, hR.m_firm, w1, w3, g1, g2, -eGet']) ?_
    simp only [sSeq']
    obtain ⟨Ms, p4, m1, m2, m3, m4⟩ := loose_ok (size := size) (s0 := .val script) (s3 := .val (nD kind)) (s4 := .val numbers) (s5 := .val rule) (s6 := .val (.lst (Ls.map tN))) (s7 := .val twin) (s8 := .val (.lst ((sub size).map tN))) (s9 := s9) (s10 := s10) (s11 := .un) (s13 := .un) P3 hs1
    have m5 := Lists_init hs1 m3 m4
    have m6 := mk_Lists (Ls := Ms) hs1 m4
    generalize hLoose : oR "Lists" size ["lists"] [.tup (Ms.map tN)] = loose at m5 m6
    obtain ⟨p5, n1, n2⟩ := axioms_ok m6 m4 (by omega) m2
    refine stp (e' := [.val script, .own p4, .val (nD size), .val (nD kind), .val numbers, .val rule, .val (.lst (Ls.map tN)), .val twin, .val (.lst ((sub size).map tN)), s9, s10, .val loose, .un, .un]) (by simp [m1, m5]) ?_
    simp only [sSeq']
    refine stp (e' := [.val script, .own p5, .val (nD size), .val (nD kind), .val numbers, .val rule, .val (.lst (Ls.map tN)), .val twin, .val (.lst ((sub size).map tN)), s9, s10, .val loose, .un, .un]) (by simp [call_vvm, n1]) ?_
    have r5 : rng1 [.int 5] = some ((List.range 5).map nD) := rng1_nat 5 (by omega)
    have href : ∀ way, way < 5 → fn__law_refused [twin, nD size, nD way] = .ret (.bl true) [] := fun way hw => by
      match way, hw with
      | 0, _ => exact refused0 hTw
      | 1, _ => exact refused1 hTw
      | 2, _ => rw [← hTwin]; exact refused2
      | 3, _ => exact refused3 hs1
      | 4, _ => exact refused4
    simp
    rw [comp_map (xs := List.range 5) (en := nD) (e1 := [.val script, .own p5, .val (nD size), .val (nD kind), .val numbers, .val rule, .val (.lst (Ls.map tN)), .val twin, .val (.lst ((sub size).map tN)), s9, s10, .val loose, .un, .un]) (fun _ => .bl true) (by simp [r5]) (by simp) rfl]
    · have hb := toBools_true 5
      have hg : gAll (.lst ((List.range 5).map fun _ => D.bl true)) = some (.bl true) := by
        rw [map_const']
        simp only [gAll, hb]
        rfl
      simp only [bind_ok', aNil', g1', hg, lift_some', then_ok', sat_fin_rt, outsOf_v, outsOf_0, Option.some.injEq, exists_eq_left']
    · intro way hw
      exact ⟨_, rfl, by simp [href way (by simpa using hw)], rfl⟩
end K00

set_option maxHeartbeats 0
namespace K00
open PySem PySem.Spec PyProof.Rows L2 Dl
abbrev R : PySem.W.OpenRow := PySem.W.OpenLaw.row PySem.Challenge.rw_choosingunseen_k00_rules_of_lists
abbrev more : List Addr := [cStatics]
abbrev hk : PySem.W.Hook := hookX more 5 "/claim/cut.py" fa fn
def ob (s : PySem.W.SharedT) : HA := obsXG more 5 "/claim/cut.py" fa fn (HandSHeadRun.getT s)
theorem ob_eq (s : PySem.W.SharedT) : ob s = hk.obs s.abs := obsXG_eq (HandSHeadRun.getT_eq s)
abbrev loose : List Str := [("_wall" : Str), ("PricesError" : Str), ("BadNumber" : Str), ("BadSet" : Str), ("BadEntry" : Str), ("NotFree" : Str), ("is_integer" : Str), ("is_count" : Str), ("is_row" : Str), ("is_thing" : Str), ("misplaced" : Str), ("set_of" : Str), ("minus" : Str), ("Rule" : Str), ("lists_of" : Str), ("shifted" : Str), ("placed" : Str), ("seated" : Str), ("Lists" : Str), ("places_for" : Str), ("Firsts" : Str), ("Teams" : Str), ("Works" : Str), ("_law_pool" : Str), ("_law_mixed" : Str), ("_law_draw" : Str), ("_law_digits" : Str), ("_law_number" : Str), ("_law_subset" : Str), ("_law_subsets" : Str), ("_law_counted" : Str), ("_law_told" : Str), ("_law_axioms" : Str), ("_law_refused" : Str)]
theorem run (w : World) : HandSHeadRun.RunEq R (PySem.W.view R.prog [40]) hk ob 4400 loose w := by
  intro os
  kernel_rfl

open PySem PySem.W PySem.Calls PyProof.Rows in
theorem holds_by (hlaw : ∀ ns : List Int, ns.length ≤ 63 → K00.fn_law [.frz (ns.map D.int)] = .ret (.bl true) []) : PySem.Challenge.rw_choosingunseen_k00_rules_of_lists.Holds := by
  w_on; o_law
  refine HandSHeadRun.head_any (r := OpenLaw.row PySem.Challenge.rw_choosingunseen_k00_rules_of_lists) (q := view (OpenLaw.row PySem.Challenge.rw_choosingunseen_k00_rules_of_lists).prog [40]) (H := K00.hk) (ob := K00.ob) (M := 4400) (loose := K00.loose) (d := HandSHeadRun.topDef (OpenLaw.row PySem.Challenge.rw_choosingunseen_k00_rules_of_lists).prog 40) (kwd := []) K00.ob_eq
    (by kernel_rfl) (fun s => by kernel_rfl) K00.run (by kernel_rfl) (by kernel_rfl) (by kernel_rfl) (by rfl) (by first | assumption | decide +kernel) (by decide +kernel) ⟨rfl, rfl, rfl, rfl, rfl, by decide +kernel⟩ ?hw ?hc
  case hw => w_witness2
  case hc =>
    refine Dl.walk_ofG (l := PySem.Challenge.rw_choosingunseen_k00_rules_of_lists) (n := 63) (k := 9) (x := "script") (CX := fun w => L2.CX K00.pw w) rfl (by decide) (by kernel_rfl) ⟨rfl, by decide, by decide⟩ ?F ?C
    case F =>
      intro w mg fa h Y G hmg0
      obtain ⟨K, KX, c⟩ := Y
      have z := K00.z_of KX G c
      have e : (HandSHeadRun.topDef (OpenLaw.row PySem.Challenge.rw_choosingunseen_k00_rules_of_lists).prog 40).name = ("law" : PySem.Str) := by kernel_rfl
      rw [e, z.f_law] at hmg0
      cases hmg0
      obtain ⟨fd, hok, hb⟩ := K00.ok_law (P := K00.pw) (w := w) z
      refine ⟨K, fd, spF (K00.F0 K) [.v] K00.fn_law, KX, fun s u hs => hb s [u] hs rfl, fun H a ns hl hO hS => sp_script hO hS (hlaw ns hl), fun base _ _ => hok base⟩
    case C => exact fun w H s e s' hc => no_CX hc
end K00
set_option maxRecDepth 100000 in
set_option maxHeartbeats 0 in
theorem PySem.Challenge.cw_choosingunseen_k00_rules_of_lists_holds : PySem.Challenge.rw_choosingunseen_k00_rules_of_lists.Holds :=
  K00.holds_by fun ns _ => K00.law_ok ns
