import PyProof.Rows.All
import Wide.All
import OpenK.AllK
import Wide.FinOn
import HandS.ForMost
import HandS.IsInst
import HandS.Wide
import HandS.TupAny
import HandS.TupMul
import HandS.Zip
import HandS.Style
import HandS.Flow
import HandS.Small
import HandS.Defaults
import HandS.HeadHook1
import HandS.HeadHook2
import KE.GoesMore
import KE.GoesEnum
import KE.KStateDown
import HandS.Head0
import HandS.Head1
import HandS.Head2
import HandS.HeadEnd
import PySem.Challenge.RW_hingelayer_k54_whole_stabbed_stretches
set_option Elab.async false
set_option linter.all false
set_option maxRecDepth 100000
/-! MP: a small evaluator of the subset of Python that these programs use, and that it is simulated. Part a: values, stores, the relation to the abstract heap. -/
namespace MP
open PySem PySem.Spec PyProof.Rows L2

/-- immutable data; a list here is one that no one changes any more -/
abbrev D := PyData
/-- a value: data, or a handle of a changeable object -/
inductive Val where
  | im (d : D)
  | ref (h : Nat)
abbrev Fld := List (Str × Val)
inductive Obj where
  | lst (xs : List Val)
  | dct (kvs : List (Key × Val))
  | ins (c : Str) (fs : Fld)
  | dead
structure Sto where
  objs : List Obj
  esc : List Nat
/-- an exception: its class's name, its fields -/
structure Exc where
  cls : Str
  fs : List (Str × D)
inductive R (α : Type) where
  | ok (a : α) (S : Sto)
  | exc (x : Exc) (S : Sto)
  | bad
abbrev Env := List (Option Val)
def R.bind {α β : Type} (r : R α) (f : α → Sto → R β) : R β := match r with
  | .ok a S => f a S
  | .exc x S => .exc x S
  | .bad => .bad
@[simp] theorem R.bind_ok {α β : Type} (a : α) (S : Sto) (f : α → Sto → R β) : (R.ok a S).bind f = f a S := rfl
@[simp] theorem R.bind_exc {α β : Type} (x : Exc) (S : Sto) (f : α → Sto → R β) : (R.exc x S : R α).bind f = .exc x S := rfl
@[simp] theorem R.bind_bad {α β : Type} (f : α → Sto → R β) : (R.bad : R α).bind f = .bad := rfl

/-! ### handles and addresses -/
abbrev Mp := List (Option Addr)
def live (m : Mp) (a : Addr) : Prop := some a ∈ m
def NoH : Hp := fun _ => none

/-- a list (a tuple) that is read and never changed -/
def FzL (K : PySem.W.Frag) (H : Hp) (m : Mp) (a : Addr) (vs : List V) : Prop := (Rd H a (.lst vs) ∧ ¬ live m a) ∨ SqL K NoH a vs
def FzT (K : PySem.W.Frag) (H : Hp) (m : Mp) (a : Addr) (vs : List V) : Prop := (Rd H a (.tup vs) ∧ ¬ live m a) ∨ SqT K NoH a vs
theorem FzL.sq {K : PySem.W.Frag} {H : Hp} {m : Mp} {a : Addr} {vs : List V} (h : FzL K H m a vs) : SqL K H a vs := by
  rcases h with ⟨h, _⟩ | (h | h)
  · exact .inl h
  · rcases h with h | ⟨o, h⟩ <;> cases h
  · exact .inr h
theorem FzT.sq {K : PySem.W.Frag} {H : Hp} {m : Mp} {a : Addr} {vs : List V} (h : FzT K H m a vs) : SqT K H a vs := by
  rcases h with ⟨h, _⟩ | (h | h)
  · exact .inl h
  · rcases h with h | ⟨o, h⟩ <;> cases h
  · exact .inr h

mutual
inductive RD (K : PySem.W.Frag) (H : Hp) (m : Mp) : D → V → Prop
  | non : RD K H m .none .non
  | bl (b : Bool) : RD K H m (.bool b) (.bl b)
  | int (i : Int) : RD K H m (.int i) (.int i)
  | str (x : Str) : RD K H m (.str x) (.str x)
  | lst {a : Addr} {vs : List V} {ds : List D} : FzL K H m a vs → RDs K H m ds vs → RD K H m (.list ds) (.ref a)
  | tup {a : Addr} {vs : List V} {ds : List D} : FzT K H m a vs → RDs K H m ds vs → RD K H m (.tuple ds) (.ref a)
inductive RDs (K : PySem.W.Frag) (H : Hp) (m : Mp) : List D → List V → Prop
  | nil : RDs K H m [] []
  | cons {d : D} {v : V} {ds : List D} {vs : List V} : RD K H m d v → RDs K H m ds vs → RDs K H m (d :: ds) (v :: vs)
end
def RV (K : PySem.W.Frag) (H : Hp) (m : Mp) : Val → V → Prop
  | .im d, v => RD K H m d v
  | .ref h, v => ∃ o, m[h]? = some o ∧ ∀ a, o = some a → v = .ref a
abbrev RVs (K : PySem.W.Frag) (H : Hp) (m : Mp) : List Val → List V → Prop := Paired (RV K H m)
abbrev RKs {κ : Type} (K : PySem.W.Frag) (H : Hp) (m : Mp) : List (κ × Val) → List (κ × V) → Prop := Paired fun p q => p.1 = q.1 ∧ RV K H m p.2 q.2

def RO (K : PySem.W.Frag) (H : Hp) (m : Mp) : Obj → Addr → Prop
  | .lst xs, a => ∃ vs, H a = some (.lst vs) ∧ RVs K H m xs vs
  | .dct kvs, a => ∃ ws, H a = some (.dK ws) ∧ RKs K H m kvs ws
  | .ins c fs, a => ∃ dx gs, H a = some (.ins (He.ga K c) dx gs) ∧ RKs K H m fs gs
  | .dead, _ => False

def Val.refs : Val → List Nat
  | .im _ => []
  | .ref h => [h]
def Obj.refs : Obj → List Nat
  | .lst xs => xs.flatMap Val.refs
  | .dct kvs => kvs.flatMap fun p => p.2.refs
  | .ins _ fs => fs.flatMap fun p => p.2.refs
  | .dead => []

/-- the store is held -/
structure Rel (K : PySem.W.Frag) (m : Mp) (S : Sto) (H : Hp) : Prop where
  len : m.length = S.objs.length
  inj : ∀ (h h' : Nat) (a : Addr), m[h]? = some (some a) → m[h']? = some (some a) → h = h'
  obj : ∀ (h : Nat) (a : Addr), m[h]? = some (some a) → ∃ o, S.objs[h]? = some o ∧ RO K H m o a
  dead : ∀ (h : Nat), m[h]? = some none → S.objs[h]? = some .dead

/-- from one state to a later one -/
structure Aft (m : Mp) (S : Sto) (H : Hp) (m' : Mp) (S' : Sto) (H' : Hp) : Prop where
  pre : ∀ (h : Nat) (o : Option Addr), m[h]? = some o → m'[h]? = some o ∨ m'[h]? = some none
  keep : ∀ a o, H a = some o → ¬ live m a → H' a = some o
  new : ∀ a, live m' a → live m a ∨ H a = none
  escs : ∀ t ∈ S.esc, t ∈ S'.esc
  refs : ∀ (h : Nat) (o' : Obj), h < m.length → S'.objs[h]? = some o' → h ∈ S'.esc ∨ ∃ o, S.objs[h]? = some o ∧ ∀ r ∈ o'.refs, r ∈ o.refs

theorem Aft.refl (m : Mp) (S : Sto) (H : Hp) : Aft m S H m S H :=
  ⟨fun _ _ e => .inl e, fun _ _ e _ => e, fun _ e => .inl e, fun _ e => e, fun h o' _ e => .inr ⟨o', e, fun _ z => z⟩⟩
theorem Aft.le {m m' : Mp} {S S' : Sto} {H H' : Hp} (a : Aft m S H m' S' H') : m.length ≤ m'.length := by
  rcases Nat.lt_or_ge m'.length m.length with h | h
  · obtain ⟨o, e⟩ : ∃ o, m[m'.length]? = some o := ⟨_, List.getElem?_eq_getElem h⟩
    rcases a.pre _ _ e with q | q <;> (rw [List.getElem?_eq_none (Nat.le_refl _)] at q; cases q)
  · exact h
theorem Aft.trans {m m1 m2 : Mp} {S S1 S2 : Sto} {H H1 H2 : Hp} (a : Aft m S H m1 S1 H1) (b : Aft m1 S1 H1 m2 S2 H2) : Aft m S H m2 S2 H2 where
  pre := fun h o e => by
    rcases a.pre h o e with q | q
    · exact b.pre h o q
    · rcases b.pre h _ q with z | z <;> exact .inr z
  keep := fun x o e n => by
    refine b.keep x o (a.keep x o e n) fun l => ?_
    rcases a.new x l with z | z
    · exact n z
    · rw [e] at z; cases z
  new := fun x l => by
    rcases b.new x l with z | z
    · exact a.new x z
    · cases q : H x with
      | none => exact .inr rfl
      | some o =>
        refine .inl (Classical.byContradiction fun n => ?_)
        rw [a.keep x o q n] at z; cases z
  escs := fun t h => b.escs t (a.escs t h)
  refs := fun h o' hl e => by
    rcases b.refs h o' (Nat.lt_of_lt_of_le hl a.le) e with z | ⟨o, e1, r1⟩
    · exact .inl z
    · rcases a.refs h o hl e1 with z | ⟨o2, e2, r2⟩
      · exact .inl (b.escs _ z)
      · exact .inr ⟨o2, e2, fun r q => r2 r (r1 r q)⟩

section
variable {K : PySem.W.Frag} {m m' : Mp} {S S' : Sto} {H H' : Hp}
theorem FzL.aft (A : Aft m S H m' S' H') {a : Addr} {vs : List V} (h : FzL K H m a vs) : FzL K H' m' a vs := by
  rcases h with ⟨h, n⟩ | h
  · have nn : ∀ o, H a = some o → ¬ live m' a := fun o e l => by
      rcases A.new a l with z | z
      · exact n z
      · rw [e] at z; cases z
    rcases h with h | ⟨o, h⟩
    · exact .inl ⟨.inl (A.keep _ _ h n), nn _ h⟩
    · exact .inl ⟨.inr ⟨o, A.keep _ _ h n⟩, nn _ h⟩
  · exact .inr h
theorem FzT.aft (A : Aft m S H m' S' H') {a : Addr} {vs : List V} (h : FzT K H m a vs) : FzT K H' m' a vs := by
  rcases h with ⟨h, n⟩ | h
  · have nn : ∀ o, H a = some o → ¬ live m' a := fun o e l => by
      rcases A.new a l with z | z
      · exact n z
      · rw [e] at z; cases z
    rcases h with h | ⟨o, h⟩
    · exact .inl ⟨.inl (A.keep _ _ h n), nn _ h⟩
    · exact .inl ⟨.inr ⟨o, A.keep _ _ h n⟩, nn _ h⟩
  · exact .inr h
mutual
theorem RD.aft (A : Aft m S H m' S' H') : ∀ {d : D} {v : V}, RD K H m d v → RD K H' m' d v
  | _, _, .non => .non
  | _, _, .bl b => .bl b
  | _, _, .int i => .int i
  | _, _, .str x => .str x
  | _, _, .lst f r => .lst (f.aft A) (RDs.aft A r)
  | _, _, .tup f r => .tup (f.aft A) (RDs.aft A r)
theorem RDs.aft (A : Aft m S H m' S' H') : ∀ {ds : List D} {vs : List V}, RDs K H m ds vs → RDs K H' m' ds vs
  | _, _, .nil => .nil
  | _, _, .cons r t => .cons (RD.aft A r) (RDs.aft A t)
end
theorem RV.aft (A : Aft m S H m' S' H') : ∀ {x : Val} {v : V}, RV K H m x v → RV K H' m' x v
  | .im _, _, h => RD.aft A h
  | .ref h, v, q => by
    obtain ⟨o, e, f⟩ := q
    rcases A.pre h o e with z | z
    · exact ⟨o, z, f⟩
    · exact ⟨none, z, fun a e => nomatch e⟩
theorem RVs.aft (A : Aft m S H m' S' H') {xs : List Val} {vs : List V} (h : RVs K H m xs vs) : RVs K H' m' xs vs := Paired.mapP h fun _ _ r => RV.aft A r
theorem RKs.aft {κ : Type} (A : Aft m S H m' S' H') {xs : List (κ × Val)} {vs : List (κ × V)} (h : RKs K H m xs vs) : RKs K H' m' xs vs := Paired.mapP h fun _ _ r => ⟨r.1, RV.aft A r.2⟩
theorem RDs.pair : ∀ {ds : List D} {vs : List V}, RDs K H m ds vs → RVs K H m (ds.map Val.im) vs
  | _, _, .nil => .nil
  | _, _, .cons r t => .cons r (RDs.pair t)
theorem RDs.of_pair : ∀ {ds : List D} {vs : List V}, RVs K H m (ds.map Val.im) vs → RDs K H m ds vs
  | [], _, h => by cases h; exact .nil
  | d :: ds, _, h => by
    cases h with
    | cons r t => exact .cons r (RDs.of_pair t)
mutual
theorem RD.dp : ∀ {d : D} {v : V}, RD K H m d v → Dp K H v d
  | _, _, .non => .non
  | _, _, .bl b => .bl b
  | _, _, .int i => .int i
  | _, _, .str x => .str x
  | _, _, .lst f r => .lst f.sq (RDs.dp r)
  | _, _, .tup f r => .tup f.sq (RDs.dp r)
theorem RDs.dp : ∀ {ds : List D} {vs : List V}, RDs K H m ds vs → DpAll K H vs ds
  | _, _, .nil => .nil
  | _, _, .cons r t => .cons (RD.dp r) (RDs.dp t)
end
theorem Rel.live_some (r : Rel K m S H) {a : Addr} (l : live m a) : ∃ o, H a = some o := by
  obtain ⟨h, e⟩ := List.mem_iff_getElem?.mp l
  obtain ⟨o, _, q⟩ := r.obj h a e
  cases o with
  | lst xs => obtain ⟨_, z, _⟩ := q; exact ⟨_, z⟩
  | dct xs => obtain ⟨_, z, _⟩ := q; exact ⟨_, z⟩
  | ins c xs => obtain ⟨_, _, z, _⟩ := q; exact ⟨_, z⟩
  | dead => exact q.elim
theorem Rel.fresh (r : Rel K m S H) {p : Addr} (h : H p = none) : ¬ live m p := fun l => by
  obtain ⟨o, e⟩ := r.live_some l
  rw [h] at e; cases e
theorem RO.aft (A : Aft m S H m' S' H') {o : Obj} {a : Addr} (h : RO K H m o a) (e : H' a = H a) : RO K H' m' o a := by
  cases o with
  | lst xs => obtain ⟨vs, q, r⟩ := h; exact ⟨vs, e.trans q, RVs.aft A r⟩
  | dct xs => obtain ⟨vs, q, r⟩ := h; exact ⟨vs, e.trans q, RKs.aft A r⟩
  | ins c xs => obtain ⟨dx, vs, q, r⟩ := h; exact ⟨dx, vs, e.trans q, RKs.aft A r⟩
  | dead => exact h.elim
/-- the abstract heap has grown by an object that no handle has (a tuple, a frozen list) -/
theorem Aft.grow {p : Addr} {o : HO} (hp : H p = none) : Aft m S H m S (upd H p o) :=
  ⟨fun _ _ e => .inl e, fun a u e _ => by rw [upd_ne (ne_of_none e hp)]; exact e, fun _ l => .inl l, fun _ e => e, fun h o' _ e => .inr ⟨o', e, fun _ z => z⟩⟩
theorem Rel.grow (r : Rel K m S H) {p : Addr} {o : HO} (hp : H p = none) : Rel K m S (upd H p o) :=
  ⟨r.len, r.inj, fun h a e => by
    obtain ⟨u, e1, q⟩ := r.obj h a e
    refine ⟨u, e1, q.aft (Aft.grow (S := S) hp) (upd_ne ?_)⟩
    obtain ⟨w, z⟩ := r.live_some (List.mem_of_getElem? e)
    exact ne_of_none z hp, r.dead⟩
end
end MP
set_option Elab.async false
set_option linter.all false
set_option maxRecDepth 100000
namespace MP
open PySem PySem.Spec L2

/-- what is wanted where an exception leaves -/
abbrev WX := Exc → Mp → Sto → Hp → Prop
def Post {α : Type} (K : PySem.W.Frag) (W : WX) (m : Mp) (S : Sto) (H : Hp) (r : R α) (Q : Mp → Sto → Hp → α → Prop) : Prop := match r with
  | .ok d S' => ∀ m' H', Aft m S H m' S' H' → Rel K m' S' H' → Q m' S' H' d
  | .exc x S' => ∀ m' H', Aft m S H m' S' H' → Rel K m' S' H' → W x m' S' H'
  | .bad => False
structure RelE (K : PySem.W.Frag) (H : Hp) (m : Mp) (env : Env) (σ : St) : Prop where
  len : env.length = σ.length
  at_ : ∀ (i : Nat) (d : Val), env[i]? = some (some d) → ∃ v, σ[i]? = some (some v) ∧ RV K H m d v

section
variable {K : PySem.W.Frag} {W : WX} {m m' : Mp} {S S' : Sto} {H H' : Hp} {α β : Type}
theorem Post.ok {d : α} {Q : Mp → Sto → Hp → α → Prop} (rel : Rel K m S H) (h : Post K W m S H (.ok d S) Q) : Q m S H d := h m H (Aft.refl m S H) rel
theorem Post.mono {r : R α} {Q Q' : Mp → Sto → Hp → α → Prop} (h : Post K W m S H r Q) (f : ∀ m' S' H' d, Aft m S H m' S' H' → Rel K m' S' H' → Q m' S' H' d → Q' m' S' H' d) : Post K W m S H r Q' := by
  cases r with
  | ok d S' => exact fun m' H' a r => f _ _ _ _ a r (h m' H' a r)
  | exc x S' => exact h
  | bad => exact h
theorem Post.move {r : R α} {Q : Mp → Sto → Hp → α → Prop} (A : Aft m S H m' S' H') (h : Post K W m S H r Q) : Post K W m' S' H' r Q := by
  cases r with
  | ok d S' => exact fun m' H' a r => h m' H' (A.trans a) r
  | exc x S' => exact fun m' H' a r => h m' H' (A.trans a) r
  | bad => exact h
theorem Post.bind {r : R α} {f : α → Sto → R β} {Q : Mp → Sto → Hp → β → Prop} (h : Post K W m S H (r.bind f) Q) : Post K W m S H r fun m1 S1 H1 a => Post K W m1 S1 H1 (f a S1) Q := by
  cases r with
  | ok d S' => exact fun m' H' a r => Post.move a h
  | exc x S' => exact h
  | bad => exact h
theorem RelE.aft {env : Env} {σ : St} (A : Aft m S H m' S' H') (r : RelE K H m env σ) : RelE K H' m' env σ :=
  ⟨r.len, fun i d e => let ⟨v, h, q⟩ := r.at_ i d e; ⟨v, h, RV.aft A q⟩⟩
theorem RelE.set {env : Env} {σ : St} (r : RelE K H m env σ) (i : Nat) {d : Val} {v : V} (q : RV K H m d v) : RelE K H m (env.set i (some d)) (σ.set i (some v)) := by
  refine ⟨by simp [r.len], fun j e h => ?_⟩
  by_cases hj : i = j
  · subst hj
    by_cases hl : i < env.length
    · rw [List.getElem?_set_self hl] at h
      cases h
      exact ⟨v, List.getElem?_set_self (by rw [← r.len]; exact hl), q⟩
    · rw [List.getElem?_eq_none (by rw [List.length_set]; omega)] at h
      cases h
  · rw [List.getElem?_set_ne hj] at h
    obtain ⟨w, e1, e2⟩ := r.at_ j e h
    exact ⟨w, by rw [List.getElem?_set_ne hj]; exact e1, e2⟩
theorem RelE.kill {env : Env} {σ : St} (r : RelE K H m env σ) (i : Nat) : RelE K H m (env.set i none) σ := by
  refine ⟨by simp [r.len], fun j e h => ?_⟩
  by_cases hj : i = j
  · subst hj
    by_cases hl : i < env.length
    · rw [List.getElem?_set_self hl] at h
      cases h
    · rw [List.getElem?_eq_none (by rw [List.length_set]; omega)] at h
      cases h
  · rw [List.getElem?_set_ne hj] at h
    exact r.at_ j e h
end

/-! ### readings -/
abbrev EvE := Env → Sto → R Val
abbrev EvB := Env → Sto → R Bool
abbrev EvA := Env → Sto → R (List Val)
inductive Fl where
  | nx (env : Env)
  | rt (v : Val)
  | bk (env : Env)
  | ct (env : Env)
abbrev EvS := Env → Sto → R Fl
def tE (K : PySem.W.Frag) (W : WX) (f : EvE) : TE := fun σ H Q => ∃ env m S, RelE K H m env σ ∧ Rel K m S H ∧ Post K W m S H (f env S) fun m' _ H' d => ∀ v, RV K H' m' d v → Q v H'
def tB (K : PySem.W.Frag) (W : WX) (f : EvB) : TT := fun σ H Q => ∃ env m S, RelE K H m env σ ∧ Rel K m S H ∧ Post K W m S H (f env S) fun _ _ H' b => Q b H'
def tA (K : PySem.W.Frag) (W : WX) (f : EvA) : TA := fun σ H Q => ∃ env m S, RelE K H m env σ ∧ Rel K m S H ∧ Post K W m S H (f env S) fun m' _ H' ds => ∀ vs, RVs K H' m' ds vs → Q vs H'
def FlOk (K : PySem.W.Frag) (D : Ends) (m : Mp) (S : Sto) (H : Hp) : Fl → Prop
  | .nx env => ∀ σ, RelE K H m env σ → D.nx σ H
  | .rt d => ∀ v, RV K H m d v → D.rt v H
  | .bk env => ∀ σ, RelE K H m env σ → D.bk σ H
  | .ct env => ∀ σ, RelE K H m env σ → D.ct σ H
def tS (K : PySem.W.Frag) (W : WX) (f : EvS) : TS := fun D σ H => ∃ env m S, RelE K H m env σ ∧ Rel K m S H ∧ Post K W m S H (f env S) (FlOk K D)
/-- a store into a target: the environment behind it -/
abbrev EvG := Val → Env → Sto → R Env
def tG (K : PySem.W.Frag) (W : WX) (f : EvG) : TG := fun v σ H Q => ∃ env m S d, RelE K H m env σ ∧ Rel K m S H ∧ RV K H m d v ∧ Post K W m S H (f d env S) fun m' _ H' env' => ∀ σ', RelE K H' m' env' σ' → Q σ' H'
abbrev EvGs := List Val → Env → Sto → R Env
def tGs (K : PySem.W.Frag) (W : WX) (f : EvGs) : TGs := fun vs σ H Q => ∃ env m S ds, RelE K H m env σ ∧ Rel K m S H ∧ RVs K H m ds vs ∧ Post K W m S H (f ds env S) fun m' _ H' env' => ∀ σ', RelE K H' m' env' σ' → Q σ' H'

theorem _root_.L2.PE.imp {X : Cx} {e : Expr} {t t' : TE} (h : PE X e t) (f : ∀ σ H Q, t' σ H Q → t σ H Q) : PE X e t' := ⟨fun pins s σ H Q I q => h.run pins s σ H Q I (f σ H Q q)⟩
theorem _root_.L2.PT.imp {X : Cx} {e : Expr} {t t' : TT} (h : PT X e t) (f : ∀ σ H Q, t' σ H Q → t σ H Q) : PT X e t' := ⟨fun pins s σ H Q I q => h.run pins s σ H Q I (f σ H Q q)⟩
theorem _root_.L2.PW.imp {X : Cx} {e : Expr} {t t' : TT} (h : PW X e t) (f : ∀ σ H Q, t' σ H Q → t σ H Q) : PW X e t' := ⟨fun wh pins s σ H Q I q => h.run wh pins s σ H Q I (f σ H Q q)⟩
theorem _root_.L2.PA.imp {X : Cx} {e : List Expr} {t t' : TA} (h : PA X e t) (f : ∀ σ H Q, t' σ H Q → t σ H Q) : PA X e t' := ⟨fun pos pins s σ H Q I q => h.run pos pins s σ H Q I (f σ H Q q)⟩
theorem _root_.L2.PS.imp {X : Cx} {e : Stmt} {t t' : TS} (h : PS X e t) (f : ∀ D σ H, t' D σ H → t D σ H) : PS X e t' := ⟨fun pins s σ H Q I q => h.run pins s σ H Q I (f Q σ H q)⟩
theorem _root_.L2.PSs.imp {X : Cx} {e : List Stmt} {t t' : TS} (h : PSs X e t) (f : ∀ D σ H, t' D σ H → t D σ H) : PSs X e t' := ⟨fun pins s σ H Q I q => h.run pins s σ H Q I (f Q σ H q)⟩
theorem _root_.L2.PG.imp {X : Cx} {e : Expr} {t t' : TG} (h : PG X e t) (f : ∀ v σ H Q, t' v σ H Q → t v σ H Q) : PG X e t' := ⟨fun pins s σ H v u Q I r q => h.run pins s σ H v u Q I r (f v σ H Q q)⟩
theorem _root_.L2.PGs.imp {X : Cx} {e : List Expr} {t t' : TGs} (h : PGs X e t) (f : ∀ v σ H Q, t' v σ H Q → t v σ H Q) : PGs X e t' := ⟨fun pins s σ H v u Q I r q => h.run pins s σ H v u Q I r (f v σ H Q q)⟩
theorem _root_.L2.PI.imp {X : Cx} {tg e : Expr} {t t' : TI} (h : PI X tg e t) (f : ∀ σ H Q, t' σ H Q → t σ H Q) : PI X tg e t' := ⟨fun pins s σ H Q I q => h.run pins s σ H Q I (f σ H Q q)⟩
abbrev SE (X : Cx) (W : WX) (e : Expr) (f : EvE) : Prop := PE X e (tE X.K W f)
abbrev ST (X : Cx) (W : WX) (e : Expr) (f : EvB) : Prop := PT X e (tB X.K W f)
abbrev SW (X : Cx) (W : WX) (e : Expr) (f : EvB) : Prop := PW X e (tB X.K W f)
abbrev SA (X : Cx) (W : WX) (es : List Expr) (f : EvA) : Prop := PA X es (tA X.K W f)
abbrev SS (X : Cx) (W : WX) (s : Stmt) (f : EvS) : Prop := PS X s (tS X.K W f)
abbrev SSs (X : Cx) (W : WX) (s : List Stmt) (f : EvS) : Prop := PSs X s (tS X.K W f)
abbrev SG (X : Cx) (W : WX) (e : Expr) (f : EvG) : Prop := PG X e (tG X.K W f)
abbrev SGs (X : Cx) (W : WX) (e : List Expr) (f : EvGs) : Prop := PGs X e (tGs X.K W f)

/-! ### names, constants -/
def evVar (i : Nat) : EvE := fun env S => match env[i]? with
  | some (some d) => .ok d S
  | _ => .bad
def evC (d : D) : EvE := fun _ S => .ok (.im d) S
section
variable {X : Cx} {W : WX} {pos : Pos}
theorem se_var {i : Nat} {x : Str} (hN : X.N[i]? = some x) (hv : Vis X.env.scope x) (hd : (x == ("__debug__" : Str)) = false) (hcd : (x == ("__classdict__" : Str)) = false) : SE X W (.Name x pos) (evVar i) := by
  refine (pe_var hN hv hd hcd).imp fun σ H Q h => ?_
  obtain ⟨env, m, S, rE, rel, p⟩ := h
  unfold evVar at p
  split at p
  · rename_i d e
    obtain ⟨v, hv, r⟩ := rE.at_ i d e
    exact ⟨v, hv, p.ok rel v r⟩
  · exact p.elim
theorem se_c {e : Expr} {v : V} {d : D} (h : PE X e (tC v)) (r : ∀ H m, RD X.K H m d v) : SE X W e (evC d) :=
  h.imp fun σ H Q ⟨env, m, S, rE, rel, p⟩ => p.ok rel v (r H m)
theorem se_int {i j} : SE X W (.Constant (.int i) j pos) (evC (.int i)) := se_c pe_int fun _ _ => .int i
theorem se_bl {b j} : SE X W (.Constant (.bool b) j pos) (evC (.bool b)) := se_c pe_bl fun _ _ => .bl b
theorem se_non {j} : SE X W (.Constant .none j pos) (evC .none) := se_c pe_non fun _ _ => .non
theorem se_str {x j} : SE X W (.Constant (.str x) j pos) (evC (.str x)) := se_c pe_str fun _ _ => .str x

/-! ### two operands -/
def rD (K : PySem.W.Frag) (W : WX) (g : Val → Val → Sto → R Val) : R2 := fun x y H Q => ∃ m S d e, Rel K m S H ∧ RV K H m d x ∧ RV K H m e y ∧ Post K W m S H (g d e S) fun m' _ H' z => ∀ v, RV K H' m' z v → Q v H'
def ev2 (g : Val → Val → Sto → R Val) (a b : EvE) : EvE := fun env S => (a env S).bind fun x S1 => (b env S1).bind fun y S2 => g x y S2
def ev1 (g : Val → Sto → R Val) (a : EvE) : EvE := fun env S => (a env S).bind g
variable {a b c : Expr} {fa fb fc : EvE}
theorem tOp_of {K : PySem.W.Frag} {g : Val → Val → Sto → R Val} {σ : St} {H : Hp} {Q : VK} (h : tE K W (ev2 g fa fb) σ H Q) : tOp (rD K W g) (tE K W fa) (tE K W fb) σ H Q := by
  obtain ⟨env, m, S, rE, rel, p⟩ := h
  refine ⟨env, m, S, rE, rel, p.bind.mono fun m1 S1 H1 d A1 rel1 p1 v1 r1 => ?_⟩
  refine ⟨env, m1, S1, rE.aft A1, rel1, p1.bind.mono fun m2 S2 H2 e A2 rel2 p2 v2 r2 => ?_⟩
  exact ⟨m2, S2, d, e, rel2, RV.aft A2 r1, r2, p2⟩
theorem se_op {op : Operator} {g : Val → Val → Sto → R Val} (ho : OpR X (binaryOp op) (rD X.K W g)) (ha : SE X W a fa) (hb : SE X W b fb) : SE X W (.BinOp a op b pos) (ev2 g fa fb) :=
  (pe_op ho ha hb).imp fun _ _ _ h => tOp_of h
theorem se_cmp {op : CmpOp} {g : Val → Val → Sto → R Val} (ho : OpR X (compareOp op) (rD X.K W g)) (ha : SE X W a fa) (hb : SE X W b fb) (hm : behindInMarks op b = false) : SE X W (.Compare a [op] [b] pos) (ev2 g fa fb) :=
  (pe_cmpR ho ha hb hm).imp fun _ _ _ h => tOp_of h
/-- a bool as a test -/
def asB (f : EvE) : EvB := fun env S => (f env S).bind fun d S1 => match d with
  | .im (.bool b) => .ok b S1
  | _ => .bad
theorem tB_of {K : PySem.W.Frag} {f : EvE} {σ : St} {H : Hp} {Q : Bool → Hp → Prop} (h : tB K W (asB f) σ H Q) : tE K W f σ H fun x H' => ∃ k, x = .bl k ∧ Q k H' := by
  obtain ⟨env, m, S, rE, rel, p⟩ := h
  refine ⟨env, m, S, rE, rel, p.bind.mono fun m1 S1 H1 d A1 rel1 p1 v1 r1 => ?_⟩
  split at p1
  · rename_i b
    cases r1
    exact ⟨b, rfl, p1.ok rel1⟩
  · exact p1.elim
theorem st_cmp {op : CmpOp} {g : Val → Val → Sto → R Val} (ho : OpR X (compareOp op) (rD X.K W g)) (ha : SE X W a fa) (hb : SE X W b fb) (hm : behindInMarks op b = false) : ST X W (.Compare a [op] [b] pos) (asB (ev2 g fa fb)) :=
  (pt_cmpR ho ha hb hm).imp fun σ H Q h => by
    have q := tOp_of (tB_of h)
    exact q
/-- the truth of a value -/
def truD (d : Val) (S : Sto) : R Bool := match d with
  | .im .none => .ok false S
  | .im (.bool b) => .ok b S
  | .im (.int i) => .ok (i != 0) S
  | .im (.str y) => if y.length ≤ sizeLine then .ok ((y.length : Int) != 0) S else .bad
  | .im (.list xs) => .ok (!xs.isEmpty) S
  | .im (.tuple xs) => .ok (!xs.isEmpty) S
  | .ref h => match S.objs[h]? with
    | some (.lst xs) => .ok (!xs.isEmpty) S
    | some (.dct xs) => .ok (!xs.isEmpty) S
    | _ => .bad
  | _ => .bad
def evTru (f : EvE) : EvB := fun env S => (f env S).bind truD
theorem RDs.isEmpty {K : PySem.W.Frag} {H : Hp} {m : Mp} {ds : List D} {vs : List V} (h : RDs K H m ds vs) : vs.isEmpty = ds.isEmpty := by cases h <;> rfl
theorem paired_isEmpty {α β : Type} {F : α → β → Prop} {xs : List α} {ys : List β} (h : Paired F xs ys) : ys.isEmpty = xs.isEmpty := by cases h <;> rfl
theorem tru_of {K : PySem.W.Frag} {m : Mp} {S : Sto} {H : Hp} {d : Val} {v : V} {Q : Bool → Hp → Prop} (rel : Rel K m S H) (r : RV K H m d v) (p : Post K W m S H (truD d S) fun _ _ H' b => Q b H') : ∃ k, TruV K v H k ∧ Q k H := by
  cases d with
  | im d =>
    cases d with
    | none => cases r; exact ⟨false, rfl, p.ok rel⟩
    | bool b => cases r; exact ⟨b, rfl, p.ok rel⟩
    | int i => cases r; exact ⟨_, rfl, p.ok rel⟩
    | str y =>
      cases r
      simp only [truD] at p
      split at p
      · rename_i h
        exact ⟨_, ⟨h, rfl⟩, p.ok rel⟩
      · exact p.elim
    | list xs =>
      cases r with
      | lst f r => exact ⟨!xs.isEmpty, .inl ⟨_, f.sq, by rw [RDs.isEmpty r]⟩, p.ok rel⟩
    | tuple xs =>
      cases r with
      | tup f r => exact ⟨!xs.isEmpty, .inr (.inl ⟨_, f.sq, by rw [RDs.isEmpty r]⟩), p.ok rel⟩
    | dict xs => exact p.elim
  | ref h =>
    simp only [truD] at p
    obtain ⟨o, e, f⟩ := r
    have live : ∀ ob, S.objs[h]? = some ob → ob ≠ .dead → ∃ a, v = .ref a ∧ RO K H m ob a := fun ob hob hd => by
      cases o with
      | none => exact absurd (Option.some.inj ((rel.dead h e).symm.trans hob)).symm hd
      | some a =>
        obtain ⟨o', e', q⟩ := rel.obj h a e
        rw [hob] at e'; cases e'
        exact ⟨a, f a rfl, q⟩
    split at p
    · rename_i xs hob
      obtain ⟨a, rfl, vs, ha, r⟩ := live _ hob (fun z => nomatch z)
      exact ⟨_, .inl ⟨_, .of ha, rfl⟩, by rw [paired_isEmpty r]; exact p.ok rel⟩
    · rename_i xs hob
      obtain ⟨a, rfl, vs, ha, r⟩ := live _ hob (fun z => nomatch z)
      exact ⟨_, .inr (.inr ⟨_, ha, rfl⟩), by rw [paired_isEmpty r]; exact p.ok rel⟩
    · exact p.elim
theorem st_tru (ha : SE X W a fa) (he : ∀ whole, isTrue a X.env whole = (do let v ← whole; standAt a.pos; holding [v] (truthy v))) : ST X W a (evTru fa) :=
  (pt_truth ha he).imp fun σ H Q ⟨env, m, S, rE, rel, p⟩ =>
    ⟨env, m, S, rE, rel, p.bind.mono fun m1 S1 H1 d A1 rel1 p1 v1 r1 => tru_of rel1 r1 p1⟩
/-- a handle's object -/
theorem live_obj {K : PySem.W.Frag} {m : Mp} {S : Sto} {H : Hp} {h : Nat} {v : V} {ob : Obj} (rel : Rel K m S H) (r : RV K H m (.ref h) v) (e : S.objs[h]? = some ob) (hd : ob ≠ .dead) : ∃ a, v = .ref a ∧ m[h]? = some (some a) ∧ RO K H m ob a := by
  obtain ⟨o, e1, f⟩ := r
  cases o with
  | none => exact absurd (Option.some.inj ((rel.dead h e1).symm.trans e)).symm hd
  | some a =>
    obtain ⟨o', e', q⟩ := rel.obj h a e1
    rw [e] at e'; cases e'
    exact ⟨a, f a rfl, e1, q⟩

/-! ### and, or, not, if -/
def evAnd (f g : EvB) : EvB := fun env S => (f env S).bind fun b S1 => if b then g env S1 else .ok false S1
def evOr (f g : EvB) : EvB := fun env S => (f env S).bind fun b S1 => if b then .ok true S1 else g env S1
def evNot (f : EvB) : EvB := fun env S => (f env S).bind fun b S1 => .ok (!b) S1
def evIf (c : EvB) (f g : EvE) : EvE := fun env S => (c env S).bind fun b S1 => if b then f env S1 else g env S1
def ofB (f : EvB) : EvE := fun env S => (f env S).bind fun b S1 => .ok (.im (.bool b)) S1
variable {ga gb : EvB} {rest : List Expr}
theorem sw_and1 (ha : ST X W a ga) : SW X W (.BoolOp .And [a] pos) ga := pw_and1 ha
theorem sw_or1 (ha : ST X W a ga) : SW X W (.BoolOp .Or [a] pos) ga := pw_or1 ha
theorem sw_and (ha : ST X W a ga) (hb : SW X W (.BoolOp .And (b :: rest) pos) gb) : SW X W (.BoolOp .And (a :: b :: rest) pos) (evAnd ga gb) :=
  (pw_and ha hb).imp fun σ H Q ⟨env, m, S, rE, rel, p⟩ => ⟨env, m, S, rE, rel, p.bind.mono fun m1 S1 H1 d A1 rel1 p1 => by
    cases d with
    | true => exact ⟨env, m1, S1, rE.aft A1, rel1, p1⟩
    | false => exact p1.ok rel1⟩
theorem sw_or (ha : ST X W a ga) (hb : SW X W (.BoolOp .Or (b :: rest) pos) gb) : SW X W (.BoolOp .Or (a :: b :: rest) pos) (evOr ga gb) :=
  (pw_or ha hb).imp fun σ H Q ⟨env, m, S, rE, rel, p⟩ => ⟨env, m, S, rE, rel, p.bind.mono fun m1 S1 H1 d A1 rel1 p1 => by
    cases d with
    | false => exact ⟨env, m1, S1, rE.aft A1, rel1, p1⟩
    | true => exact p1.ok rel1⟩
theorem st_not (ha : ST X W a ga) : ST X W (.UnaryOp .Not a pos) (evNot ga) :=
  (pt_not ha).imp fun σ H Q ⟨env, m, S, rE, rel, p⟩ => ⟨env, m, S, rE, rel, p.bind.mono fun m1 S1 H1 d A1 rel1 p1 => p1.ok rel1⟩
theorem se_if {cc : EvB} (hc : ST X W c cc) (ha : SE X W a fa) (hb : SE X W b fb) : SE X W (.IfExp c a b pos) (evIf cc fa fb) :=
  (pe_ifExp hc ha hb).imp fun σ H Q ⟨env, m, S, rE, rel, p⟩ => ⟨env, m, S, rE, rel, p.bind.mono fun m1 S1 H1 d A1 rel1 p1 => by
    cases d with
    | true => exact ⟨env, m1, S1, rE.aft A1, rel1, p1⟩
    | false => exact ⟨env, m1, S1, rE.aft A1, rel1, p1⟩⟩
end
end MP
set_option Elab.async false
set_option linter.all false
set_option maxRecDepth 100000
namespace MP
open PySem PySem.Spec L2
noncomputable section
open Classical
/-! Part c: operators, comparisons, built-in functions -/
theorem _root_.L2.OpR.imp {X : Cx} {f : Value → Value → Sem Value} {r r' : R2} (h : OpR X f r) (g : ∀ x y H Q, r' x y H Q → r x y H Q) : OpR X f r' := fun pins s σ H x y v u Q I rx ry q => h pins s σ H x y v u Q I rx ry (g x y H Q q)
theorem _root_.L2.CallR.imp {X : Cx} {f : Value} {r r' : List V → Hp → VK → Prop} (h : CallR X f r) (g : ∀ xs H Q, r' xs H Q → r xs H Q) : CallR X f r' := fun pins s σ H xs us Q I rx q => h pins s σ H xs us Q I rx (g xs H Q q)

abbrev vi (i : Int) : Val := .im (.int i)
abbrev vb (b : Bool) : Val := .im (.bool b)
abbrev vt (ds : List D) : Val := .im (.tuple ds)
/-- the list's data, where all of it is data -/
def allIm : List Val → Option (List D)
  | [] => some []
  | .im d :: r => (allIm r).map (d :: ·)
  | _ :: _ => none
@[simp] theorem allIm_map : ∀ ds : List D, allIm (ds.map Val.im) = some ds
  | [] => rfl
  | d :: r => by simp [allIm, allIm_map r]
theorem allIm_eq : ∀ {xs : List Val} {ds : List D}, allIm xs = some ds → xs = ds.map Val.im
  | [], _, e => by cases e; rfl
  | .im d :: r, ds, e => by
    simp only [allIm, Option.map_eq_some_iff] at e
    obtain ⟨es, e1, e2⟩ := e
    subst e2
    rw [allIm_eq e1]; rfl
  | .ref h :: r, _, e => by cases e
/-- a new list: changeable, or frozen at once -/
def newL (mu : Bool) (xs : List Val) (S : Sto) : R Val :=
  if mu then .ok (.ref S.objs.length) { S with objs := S.objs ++ [.lst xs] } else match allIm xs with
    | some ds => .ok (.im (.list ds)) S
    | none => .bad
section
variable {K : PySem.W.Frag} {W : WX} {m m' : Mp} {S S' : Sto} {H H' : Hp}
theorem get_snoc {α : Type} {xs : List α} {x y : α} {i : Nat} (e : (xs ++ [x])[i]? = some y) : (i = xs.length ∧ y = x) ∨ (i < xs.length ∧ xs[i]? = some y) := by
  rcases Nat.lt_trichotomy i xs.length with h | h | h
  · rw [List.getElem?_append_left h] at e; exact .inr ⟨h, e⟩
  · subst h; simp at e; exact .inl ⟨rfl, e.symm⟩
  · rw [List.getElem?_eq_none (by simp; omega)] at e; cases e
theorem live_snoc {p a : Addr} (l : live (m ++ [some p]) a) : live m a ∨ a = p := by
  unfold live at l
  rcases List.mem_append.mp l with l | l
  · exact .inl l
  · exact .inr (by simpa using l)
/-- a new changeable object -/
theorem Aft.made {p : Addr} {o : HO} {ob : Obj} (rel : Rel K m S H) (hp : H p = none) : Aft m S H (m ++ [some p]) { S with objs := S.objs ++ [ob] } (upd H p o) where
  pre := fun h o e => .inl (by rw [List.getElem?_append_left (List.getElem?_eq_some_iff.mp e).1]; exact e)
  keep := fun a u e _ => by rw [upd_ne (ne_of_none e hp)]; exact e
  new := fun a l => by
    rcases live_snoc l with l | rfl
    · exact .inl l
    · exact .inr hp
  escs := fun _ e => e
  refs := fun h o' hl e => .inr ⟨o', by
    have e : (S.objs ++ [ob])[h]? = some o' := e
    rw [List.getElem?_append_left (by rw [← rel.len]; exact hl)] at e; exact e, fun _ z => z⟩
theorem Rel.made {p : Addr} {o : HO} {ob : Obj} (rel : Rel K m S H) (hp : H p = none) (r : RO K (upd H p o) (m ++ [some p]) ob p) : Rel K (m ++ [some p]) { S with objs := S.objs ++ [ob] } (upd H p o) := by
  have A := Aft.made (ob := ob) (o := o) rel hp
  have nf := rel.fresh hp
  refine ⟨by simp [rel.len], fun h h' a e e' => ?_, fun h a e => ?_, fun h e => ?_⟩
  · rcases get_snoc e with ⟨e1, e2⟩ | ⟨e1, e2⟩ <;> rcases get_snoc e' with ⟨f1, f2⟩ | ⟨f1, f2⟩
    · omega
    · cases e2; exact absurd (List.mem_of_getElem? f2) nf
    · cases f2; exact absurd (List.mem_of_getElem? e2) nf
    · exact rel.inj h h' a e2 f2
  · rcases get_snoc e with ⟨e1, e2⟩ | ⟨e1, e2⟩
    · cases e2
      exact ⟨ob, by show (S.objs ++ [ob])[h]? = _; rw [e1, rel.len]; simp, r⟩
    · obtain ⟨u, q, ro⟩ := rel.obj h a e2
      refine ⟨u, by show (S.objs ++ [ob])[h]? = _; rw [List.getElem?_append_left (by rw [← rel.len]; exact e1)]; exact q, ro.aft A (upd_ne ?_)⟩
      rintro rfl
      exact nf (List.mem_of_getElem? e2)
  · rcases get_snoc e with ⟨e1, e2⟩ | ⟨e1, e2⟩
    · cases e2
    · show (S.objs ++ [ob])[h]? = _
      rw [List.getElem?_append_left (by rw [← rel.len]; exact e1)]; exact rel.dead h e2
/-- a new tuple -/
theorem new_tup {ds : List D} {vs : List V} {Q : V → Hp → Prop} (rel : Rel K m S H) (r : RDs K H m ds vs) (p : Post K W m S H (.ok (.im (.tuple ds)) S) fun m' _ H' d => ∀ v, RV K H' m' d v → Q v H') {a : Addr} (ha : H a = none) : Q (.ref a) (upd H a (.tup vs)) :=
  p m _ (Aft.grow ha) (rel.grow ha) _ (.tup (.inl ⟨.inl upd_same, rel.fresh ha⟩) (RDs.aft (Aft.grow (S := S) ha) r))
theorem new_lst {mu : Bool} {xs : List Val} {vs : List V} {Q : V → Hp → Prop} (rel : Rel K m S H) (r : RVs K H m xs vs) (p : Post K W m S H (newL mu xs S) fun m' _ H' d => ∀ v, RV K H' m' d v → Q v H') {a : Addr} (ha : H a = none) : Q (.ref a) (upd H a (.lst vs)) := by
  unfold newL at p
  cases mu with
  | true =>
    have A := Aft.made (o := .lst vs) (ob := .lst xs) rel ha
    exact p _ _ A (rel.made ha ⟨vs, upd_same, RVs.aft A r⟩) _ ⟨some a, by rw [← rel.len]; simp, fun b e => by cases e; rfl⟩
  | false =>
    simp only [Bool.false_eq_true, if_false] at p
    cases q : allIm xs with
    | some ds =>
      rw [q] at p
      rw [allIm_eq q] at r
      exact p m _ (Aft.grow ha) (rel.grow ha) _ (.lst (.inl ⟨.inl upd_same, rel.fresh ha⟩) (RDs.aft (Aft.grow (S := S) ha) (RDs.of_pair r)))
    | none => rw [q] at p; exact p.elim
end

/-! ### operators -/
def addD : Val → Val → Sto → R Val
  | .im (.int i), .im (.int j), S => .ok (.im (.int (i + j))) S
  | .im (.str x), .im (.str y), S => if x.length + y.length ≤ sizeLine then .ok (.im (.str (x ++ y))) S else .bad
  | .im (.tuple xs), .im (.tuple ys), S => if xs.length + ys.length ≤ sizeLine then .ok (.im (.tuple (xs ++ ys))) S else .bad
  | _, _, _ => .bad
def subD : Val → Val → Sto → R Val
  | .im (.int i), .im (.int j), S => .ok (.im (.int (i - j))) S
  | _, _, _ => .bad
def mulD : Val → Val → Sto → R Val
  | .im (.int i), .im (.int j), S => if IntMulOk i j then .ok (.im (.int (i * j))) S else .bad
  | _, _, _ => .bad
def DivOk (i j : Int) : Prop := j ≠ 0 ∧ Builtin.divisionGoesByPylong i j = false
def fdivD : Val → Val → Sto → R Val
  | .im (.int i), .im (.int j), S => if DivOk i j then .ok (.im (.int (i.fdiv j))) S else .bad
  | _, _, _ => .bad
def ModOk (_ j : Int) : Prop := j ≠ 0
def modD : Val → Val → Sto → R Val
  | .im (.int i), .im (.int j), S => if ModOk i j then .ok (.im (.int (i.fmod j))) S else .bad
  | _, _, _ => .bad
def powD : Val → Val → Sto → R Val
  | .im (.int i), .im (.int j), S => if CPow i j then .ok (.im (.int (i ^ j.toNat))) S else .bad
  | _, _, _ => .bad
theorem RDs.length {K : PySem.W.Frag} {H : Hp} {m : Mp} : ∀ {ds : List D} {vs : List V}, RDs K H m ds vs → vs.length = ds.length
  | _, _, .nil => rfl
  | _, _, .cons _ t => by simp [RDs.length t]
theorem RDs.append {K : PySem.W.Frag} {H : Hp} {m : Mp} : ∀ {ds es : List D} {vs us : List V}, RDs K H m ds vs → RDs K H m es us → RDs K H m (ds ++ es) (vs ++ us)
  | _, _, _, _, .nil, h => h
  | _, _, _, _, .cons r t, h => .cons r (RDs.append t h)
section
variable {X : Cx} {W : WX}
theorem oI {f : Value → Value → Sem Value} {C : Int → Int → Prop} {g : Int → Int → Int} {gd : Val → Val → Sto → R Val} (h : OpR X f (rI C fun i j => .int (g i j)))
    (hg : ∀ d e S, (∃ i j, d = .im (.int i) ∧ e = .im (.int j) ∧ gd d e S = if C i j then .ok (.im (.int (g i j))) S else .bad) ∨ gd d e S = .bad) : OpR X f (rD X.K W gd) := h.imp fun x y H Q ⟨m, S, d, e, rel, r1, r2, p⟩ => by
  rcases hg d e S with ⟨i, j, rfl, rfl, q⟩ | q
  · rw [q] at p
    cases r1; cases r2
    by_cases c : C i j
    · rw [if_pos c] at p
      exact ⟨i, j, rfl, rfl, c, p.ok rel _ (.int _)⟩
    · rw [if_neg c] at p; exact p.elim
  · rw [q] at p; exact p.elim
theorem o_add : OpR X (binaryOp .Add) (rD X.K W addD) := (op_add.or (op_add_str.or op_catA)).imp fun x y H Q ⟨m, S, d, e, rel, r1, r2, p⟩ => by
  unfold addD at p
  split at p
  · cases r1; cases r2
    exact .inl ⟨_, _, rfl, rfl, p.ok rel _ (.int _)⟩
  · cases r1; cases r2
    split at p
    · rename_i c
      exact .inr (.inl ⟨_, _, rfl, rfl, c, p.ok rel _ (.str _)⟩)
    · exact p.elim
  · cases r1 with
    | @tup a vs ds f1 q1 =>
      cases r2 with
      | @tup b us es f2 q2 =>
        split at p
        · rename_i c
          refine .inr (.inr ⟨_, _, _, _, rfl, rfl, f1.sq, f2.sq, by rw [RDs.length q1, RDs.length q2]; exact c, fun e => ?_, fun _ e => ?_, fun _ _ q hq => new_tup rel (q1.append q2) p hq⟩)
          · subst e
            cases q1
            exact p.ok rel _ (.tup f2 q2)
          · subst e
            cases q2
            have p2 := p.ok rel
            rw [List.append_nil] at p2
            exact p2 _ (.tup f1 q1)
        · exact p.elim
  · exact p.elim
theorem o_sub : OpR X (binaryOp .Sub) (rD X.K W subD) := op_sub.imp fun x y H Q ⟨m, S, d, e, rel, r1, r2, p⟩ => by
  unfold subD at p
  split at p
  · cases r1; cases r2
    exact ⟨_, _, rfl, rfl, p.ok rel _ (.int _)⟩
  · exact p.elim
theorem oI_cases {C : Int → Int → Prop} {g : Int → Int → Int} {gd : Val → Val → Sto → R Val} (h1 : ∀ i j S, gd (.im (.int i)) (.im (.int j)) S = if C i j then .ok (.im (.int (g i j))) S else .bad)
    (h2 : ∀ d e S, (¬ ∃ i j, d = .im (.int i) ∧ e = .im (.int j)) → gd d e S = .bad) : ∀ d e S, (∃ i j, d = .im (.int i) ∧ e = .im (.int j) ∧ gd d e S = if C i j then .ok (.im (.int (g i j))) S else .bad) ∨ gd d e S = .bad := fun d e S => by
  by_cases h : ∃ i j, d = .im (.int i) ∧ e = .im (.int j)
  · obtain ⟨i, j, rfl, rfl⟩ := h
    exact .inl ⟨i, j, rfl, rfl, h1 i j S⟩
  · exact .inr (h2 d e S h)
theorem o_mul : OpR X (binaryOp .Mult) (rD X.K W mulD) := oI (C := IntMulOk) (g := fun i j => i * j) (opI fun _ _ _ _ _ _ _ hc q => PyProof.Rows.mul_int q hc) (oI_cases (fun _ _ _ => rfl) fun d e S h => by
  unfold mulD; split
  · exact (h ⟨_, _, rfl, rfl⟩).elim
  · rfl)
theorem o_fdiv : OpR X (binaryOp .FloorDiv) (rD X.K W fdivD) := oI (C := DivOk) (g := fun i j => i.fdiv j) (opI fun _ _ _ _ _ _ _ hc q => PyProof.Rows.floordiv_int hc.1 q (.inl hc.2)) (oI_cases (fun _ _ _ => rfl) fun d e S h => by
  unfold fdivD; split
  · exact (h ⟨_, _, rfl, rfl⟩).elim
  · rfl)
theorem o_mod : OpR X (binaryOp .Mod) (rD X.K W modD) := oI (C := ModOk) (g := fun i j => i.fmod j) op_modN (oI_cases (fun _ _ _ => rfl) fun d e S h => by
  unfold modD; split
  · exact (h ⟨_, _, rfl, rfl⟩).elim
  · rfl)
theorem o_pow : OpR X (binaryOp .Pow) (rD X.K W powD) := oI (C := CPow) (g := fun i j => i ^ j.toNat) op_pow (oI_cases (fun _ _ _ => rfl) fun d e S h => by
  unfold powD; split
  · exact (h ⟨_, _, rfl, rfl⟩).elim
  · rfl)

/-! ### comparisons -/
/-- a value as data, a changeable list read -/
def viewD (S : Sto) : Val → Option D
  | .im d => some d
  | .ref h => match S.objs[h]? with
    | some (.lst xs) => (allIm xs).map .list
    | _ => none
def eqD (neg : Bool) (d e : Val) (S : Sto) : R Val := match viewD S d, viewD S e with
  | some x, some y => if SeqAt.shaped x = true ∧ SeqAt.shaped y = true then .ok (.im (.bool (if neg then !PyData.eqv x y else PyData.eqv x y))) S else .bad
  | _, _ => .bad
theorem view_dp {K : PySem.W.Frag} {m : Mp} {S : Sto} {H : Hp} {d : Val} {v : V} {x : D} (rel : Rel K m S H) (r : RV K H m d v) (e : viewD S d = some x) : Dp K H v x := by
  cases d with
  | im d => cases e; exact RD.dp r
  | ref h =>
    simp only [viewD] at e
    split at e
    · rename_i xs hx
      obtain ⟨a, rfl, _, vs, ha, rv⟩ := live_obj rel r hx (fun z => nomatch z)
      rw [Option.map_eq_some_iff] at e
      obtain ⟨ds, e1, rfl⟩ := e
      rw [allIm_eq e1] at rv
      exact .lst (.of ha) (RDs.dp (RDs.of_pair rv))
    · cases e
theorem o_eq (hu : X.A.units + 64 < cLine) : OpR X (compareOp .Eq) (rD X.K W (eqD false)) := (op_eqD hu).imp fun x y H Q ⟨m, S, d, e, rel, r1, r2, p⟩ => by
  unfold eqD at p
  split at p
  · rename_i a b ha hb
    split at p
    · rename_i c
      exact ⟨a, b, view_dp rel r1 ha, view_dp rel r2 hb, c.1, c.2, p.ok rel _ (.bl _)⟩
    · exact p.elim
  · exact p.elim
theorem o_ne (hu : X.A.units + 64 < cLine) : OpR X (compareOp .NotEq) (rD X.K W (eqD true)) := (op_neD hu).imp fun x y H Q ⟨m, S, d, e, rel, r1, r2, p⟩ => by
  unfold eqD at p
  split at p
  · rename_i a b ha hb
    split at p
    · rename_i c
      exact ⟨a, b, view_dp rel r1 ha, view_dp rel r2 hb, c.1, c.2, p.ok rel _ (.bl _)⟩
    · exact p.elim
  · exact p.elim
def cmpD (g : Int → Int → Bool) : Val → Val → Sto → R Val
  | .im (.int i), .im (.int j), S => .ok (.im (.bool (g i j))) S
  | _, _, _ => .bad
theorem oB {f : Value → Value → Sem Value} {g : Int → Int → Bool} (h : OpR X f (rI0 fun i j => .bl (g i j))) : OpR X f (rD X.K W (cmpD g)) := h.imp fun x y H Q ⟨m, S, d, e, rel, r1, r2, p⟩ => by
  unfold cmpD at p
  split at p
  · cases r1; cases r2
    exact ⟨_, _, rfl, rfl, p.ok rel _ (.bl _)⟩
  · exact p.elim
abbrev ltD := cmpD fun i j => decide (i < j)
abbrev leD := cmpD fun i j => decide (i ≤ j)
abbrev gtD := cmpD fun i j => decide (j < i)
abbrev geD := cmpD fun i j => decide (j ≤ i)
theorem o_lt : OpR X (compareOp .Lt) (rD X.K W ltD) := oB op_lt
theorem o_le : OpR X (compareOp .LtE) (rD X.K W leD) := oB op_le
theorem o_gt : OpR X (compareOp .Gt) (rD X.K W gtD) := oB op_gt
theorem o_ge : OpR X (compareOp .GtE) (rD X.K W geD) := oB op_ge
/-- is None -/
def isNone (d : Val) (S : Sto) : Option Bool := match d with
  | .im .none => some true
  | .im _ => some false
  | .ref h => match S.objs[h]? with
    | some .dead => none
    | some _ => some false
    | none => none
def isD (neg : Bool) (d e : Val) (S : Sto) : R Val := match e with
  | .im .none => match isNone d S with
    | some b => .ok (.im (.bool (if neg then !b else b))) S
    | none => .bad
  | _ => .bad
theorem isNone_ok {K : PySem.W.Frag} {m : Mp} {S : Sto} {H : Hp} {d : Val} {v : V} {b : Bool} (rel : Rel K m S H) (r : RV K H m d v) (e : isNone d S = some b) : decide (v = .non) = b := by
  cases d with
  | im d =>
    cases r <;> (cases e; rfl)
  | ref h =>
    simp only [isNone] at e
    split at e
    · cases e
    · rename_i ob hn hob
      cases e
      obtain ⟨a, rfl, _⟩ := live_obj rel r hob (fun z => hn (by rw [z]))
      rfl
    · cases e
theorem o_is : OpR X (compareOp .Is) (rD X.K W (isD false)) := op_isN.imp fun x y H Q ⟨m, S, d, e, rel, r1, r2, p⟩ => by
  unfold isD at p
  split at p
  · cases r2
    split at p
    · rename_i b hb
      refine ⟨rfl, ?_⟩
      rw [isNone_ok rel r1 hb]
      exact p.ok rel _ (.bl _)
    · exact p.elim
  · exact p.elim
theorem o_isnot : OpR X (compareOp .IsNot) (rD X.K W (isD true)) := op_notN.imp fun x y H Q ⟨m, S, d, e, rel, r1, r2, p⟩ => by
  unfold isD at p
  split at p
  · cases r2
    split at p
    · rename_i b hb
      refine ⟨rfl, ?_⟩
      rw [isNone_ok rel r1 hb]
      exact p.ok rel _ (.bl _)
    · exact p.elim
  · exact p.elim
/-! ### one operand -/
def negD : Val → Sto → R Val
  | .im (.int i), S => .ok (.im (.int (-i))) S
  | _, _ => .bad
variable {a b c e : Expr} {fa fb fc : EvE} {pos : Pos} {es : List Expr}
theorem se_neg (ha : SE X W a fa) : SE X W (.UnaryOp .USub a pos) (ev1 negD fa) := (pe_un un_neg ha).imp fun σ H Q ⟨env, m, S, rE, rel, p⟩ =>
  ⟨env, m, S, rE, rel, p.bind.mono fun m1 S1 H1 d A1 rel1 p1 v1 r1 => by
    unfold negD at p1
    split at p1
    · cases r1
      exact ⟨_, rfl, p1.ok rel1 _ (.int _)⟩
    · exact p1.elim⟩
/-! ### and, or, not as values (bools) -/
def evAndV (f g : EvE) : EvE := fun env S => (f env S).bind fun d S1 => match d with
  | .im (.bool true) => g env S1
  | .im (.bool false) => .ok (.im (.bool false)) S1
  | _ => .bad
def evOrV (f g : EvE) : EvE := fun env S => (f env S).bind fun d S1 => match d with
  | .im (.bool true) => .ok (.im (.bool true)) S1
  | .im (.bool false) => g env S1
  | _ => .bad
def notD : Val → Sto → R Val
  | .im (.bool b), S => .ok (.im (.bool (!b))) S
  | _, _ => .bad
variable {rest : List Expr}
theorem se_bool1 {op} (ha : SE X W a fa) : SE X W (.BoolOp op [a] pos) fa := pe_one ha
theorem se_and (ha : SE X W a fa) (hb : SE X W (.BoolOp .And (b :: rest) pos) fb) : SE X W (.BoolOp .And (a :: b :: rest) pos) (evAndV fa fb) :=
  (pe_and ha hb).imp fun σ H Q ⟨env, m, S, rE, rel, p⟩ => ⟨env, m, S, rE, rel, p.bind.mono fun m1 S1 H1 d A1 rel1 p1 v1 r1 => by
    split at p1
    · cases r1
      exact ⟨true, rfl, env, m1, S1, rE.aft A1, rel1, p1⟩
    · cases r1
      exact ⟨false, rfl, p1.ok rel1 _ (.bl _)⟩
    · exact p1.elim⟩
theorem se_or (ha : SE X W a fa) (hb : SE X W (.BoolOp .Or (b :: rest) pos) fb) : SE X W (.BoolOp .Or (a :: b :: rest) pos) (evOrV fa fb) :=
  (pe_or ha hb).imp fun σ H Q ⟨env, m, S, rE, rel, p⟩ => ⟨env, m, S, rE, rel, p.bind.mono fun m1 S1 H1 d A1 rel1 p1 v1 r1 => by
    split at p1
    · cases r1
      exact ⟨true, rfl, p1.ok rel1 _ (.bl _)⟩
    · cases r1
      exact ⟨false, rfl, env, m1, S1, rE.aft A1, rel1, p1⟩
    · exact p1.elim⟩
theorem se_not (ha : SE X W a fa) : SE X W (.UnaryOp .Not a pos) (ev1 notD fa) :=
  (pe_not ha).imp fun σ H Q ⟨env, m, S, rE, rel, p⟩ => ⟨env, m, S, rE, rel, p.bind.mono fun m1 S1 H1 d A1 rel1 p1 v1 r1 => by
    unfold notD at p1
    split at p1
    · cases r1
      exact ⟨_, rfl, p1.ok rel1 _ (.bl _)⟩
    · exact p1.elim⟩
/-! ### argument lists, tuples, lists -/
def evNil : EvA := fun _ S => .ok [] S
def evCons (f : EvE) (g : EvA) : EvA := fun env S => (f env S).bind fun x S1 => (g env S1).bind fun xs S2 => .ok (x :: xs) S2
def evTup (f : EvA) : EvE := fun env S => (f env S).bind fun xs S1 => match allIm xs with
  | some ds => if ds.length ≤ sizeLine then .ok (.im (.tuple ds)) S1 else .bad
  | none => .bad
def evLst (mu : Bool) (f : EvA) : EvE := fun env S => (f env S).bind fun xs S1 => if xs.length ≤ sizeLine then newL mu xs S1 else .bad
variable {ga : EvA}
theorem sa_nil : SA X W [] evNil := pa_nil.imp fun σ H Q ⟨env, m, S, rE, rel, p⟩ => p.ok rel _ .nil
theorem sa_cons (ha : SE X W a fa) (hr : SA X W es ga) (hs : starEach (a :: es) X.env = (false, eval a X.env) :: starEach es X.env) : SA X W (a :: es) (evCons fa ga) :=
  (pa_cons ha hr hs).imp fun σ H Q ⟨env, m, S, rE, rel, p⟩ => ⟨env, m, S, rE, rel, p.bind.mono fun m1 S1 H1 d A1 rel1 p1 v1 r1 =>
    ⟨env, m1, S1, rE.aft A1, rel1, p1.bind.mono fun m2 S2 H2 ds A2 rel2 p2 vs r2 => p2.ok rel2 _ (.cons (RV.aft A2 r1) r2)⟩⟩
theorem paired_len {α β : Type} {F : α → β → Prop} {xs : List α} {ys : List β} (h : Paired F xs ys) : ys.length = xs.length := (Paired.length h).symm
theorem se_tup {k} (h : SA X W es ga) : SE X W (.Tuple es k pos) (evTup ga) :=
  (pe_tup h).imp fun σ H Q ⟨env, m, S, rE, rel, p⟩ => ⟨env, m, S, rE, rel, p.bind.mono fun m1 S1 H1 xs A1 rel1 p1 vs r1 => by
    split at p1
    · rename_i ds hd
      rw [allIm_eq hd] at r1
      split at p1
      · rename_i c
        exact ⟨by rw [paired_len r1, List.length_map]; exact c, fun a ha => new_tup rel1 (RDs.of_pair r1) p1 ha⟩
      · exact p1.elim
    · exact p1.elim⟩
theorem se_lst {mu : Bool} (h : SA X W es ga) : SE X W (.List es pos) (evLst mu ga) :=
  (pe_lst h).imp fun σ H Q ⟨env, m, S, rE, rel, p⟩ => ⟨env, m, S, rE, rel, p.bind.mono fun m1 S1 H1 xs A1 rel1 p1 vs r1 => by
    split at p1
    · rename_i c
      exact ⟨by rw [paired_len r1]; exact c, fun a ha => new_lst rel1 r1 p1 ha⟩
    · exact p1.elim⟩
/-! ### built-in functions and types called -/
def rC (K : PySem.W.Frag) (W : WX) (g : List Val → Sto → R Val) : List V → Hp → VK → Prop := fun vs H Q => ∃ m S ds, Rel K m S H ∧ RVs K H m ds vs ∧ Post K W m S H (g ds S) fun m' _ H' z => ∀ v, RV K H' m' z v → Q v H'
def evCall (g : List Val → Sto → R Val) (f : EvA) : EvE := fun env S => (f env S).bind g
variable {id T : String} {x : Str} {p : Pos}
theorem se_callB {g : List Val → Sto → R Val} (hc : CallR X (.builtin id) (rC X.K W g)) (hg : Gl X x) (hm : X.mg x = none) (hv : bootBuiltins x = some (.builtin id)) (ha : SA X W (e :: es) ga) (hn : x ≠ "__name__") (hdb : (x == ("__debug__" : Str)) = false)
    (he : starEach (e :: es) X.env = (false, eval e X.env) :: starEach es X.env) (hpl : (backTo pos (starEach es X.env)).any (·.1) = false) : SE X W (.Call (.Name x p) (e :: es) [] pos) (evCall g ga) :=
  (pe_callB hc hg hm hv ha hn hdb he hpl).imp fun σ H Q ⟨env, m, S, rE, rel, q⟩ => ⟨env, m, S, rE, rel, q.bind.mono fun m1 S1 H1 ds A1 rel1 p1 vs r1 => ⟨m1, S1, ds, rel1, r1, p1⟩⟩
theorem se_callTy {g : List Val → Sto → R Val} (hc : CallR X (.type T) (rC X.K W g)) (hg : Gl X x) (hm : X.mg x = none) (hv : bootBuiltins x = some (.type T)) (ha : SA X W (e :: es) ga) (hn : x ≠ "__name__") (hdb : (x == ("__debug__" : Str)) = false)
    (he : starEach (e :: es) X.env = (false, eval e X.env) :: starEach es X.env) (hpl : (backTo pos (starEach es X.env)).any (·.1) = false) : SE X W (.Call (.Name x p) (e :: es) [] pos) (evCall g ga) :=
  (pe_callTy hc hg hm hv ha hn hdb he hpl).imp fun σ H Q ⟨env, m, S, rE, rel, q⟩ => ⟨env, m, S, rE, rel, q.bind.mono fun m1 S1 H1 ds A1 rel1 p1 vs r1 => ⟨m1, S1, ds, rel1, r1, p1⟩⟩
theorem RVs.one {K : PySem.W.Frag} {H : Hp} {m : Mp} {d : Val} {vs : List V} (h : RVs K H m [d] vs) : ∃ v, vs = [v] ∧ RV K H m d v := by
  cases h with
  | cons r t => cases t; exact ⟨_, rfl, r⟩
theorem RVs.two {K : PySem.W.Frag} {H : Hp} {m : Mp} {d d2 : Val} {vs : List V} (h : RVs K H m [d, d2] vs) : ∃ v v2, vs = [v, v2] ∧ RV K H m d v ∧ RV K H m d2 v2 := by
  cases h with
  | cons r t =>
    cases t with
    | cons r2 t => cases t; exact ⟨_, _, rfl, r, r2⟩
def absD : List Val → Sto → R Val
  | [.im (.int i)], S => .ok (.im (.int (if i < 0 then -i else i))) S
  | _, _ => .bad
def intD : List Val → Sto → R Val
  | [.im (.int i)], S => .ok (.im (.int i)) S
  | [.im (.bool b)], S => .ok (.im (.int (if b then 1 else 0))) S
  | _, _ => .bad
def lenD : List Val → Sto → R Val
  | [.im (.str y)], S => if y.length ≤ sizeLine then .ok (.im (.int y.length)) S else .bad
  | [.im (.list xs)], S => .ok (.im (.int xs.length)) S
  | [.im (.tuple xs)], S => .ok (.im (.int xs.length)) S
  | [.ref h], S => match S.objs[h]? with
    | some (.lst xs) => .ok (.im (.int xs.length)) S
    | _ => .bad
  | _, _ => .bad
/-- the items of a list or a tuple -/
def seqD (S : Sto) : Val → Option (List Val)
  | .im (.list xs) => some (xs.map .im)
  | .im (.tuple xs) => some (xs.map .im)
  | .ref h => match S.objs[h]? with
    | some (.lst xs) => some xs
    | _ => none
  | _ => none
def tupD : List Val → Sto → R Val
  | [.im (.tuple xs)], S => .ok (.im (.tuple xs)) S
  | [.im (.list xs)], S => .ok (.im (.tuple xs)) S
  | [.ref h], S => match S.objs[h]? with
    | some (.lst xs) => match allIm xs with
      | some ds => .ok (.im (.tuple ds)) S
      | none => .bad
    | _ => .bad
  | _, _ => .bad
def listD (mu : Bool) : List Val → Sto → R Val
  | [v], S => match seqD S v with
    | some xs => newL mu xs S
    | none => .bad
  | _, _ => .bad
def maxD : List Val → Sto → R Val
  | [.im (.int i), .im (.int j)], S => .ok (.im (.int (if j > i then j else i))) S
  | _, _ => .bad
def minD : List Val → Sto → R Val
  | [.im (.int i), .im (.int j)], S => .ok (.im (.int (if j < i then j else i))) S
  | _, _ => .bad
theorem seq_sq {K : PySem.W.Frag} {m : Mp} {S : Sto} {H : Hp} {d : Val} {v : V} {xs : List Val} (rel : Rel K m S H) (r : RV K H m d v) (e : seqD S d = some xs) : ∃ a vs, v = .ref a ∧ (SqL K H a vs ∨ SqT K H a vs) ∧ RVs K H m xs vs := by
  unfold seqD at e
  split at e
  · cases e
    cases r with
    | lst f q => exact ⟨_, _, rfl, .inl f.sq, q.pair⟩
  · cases e
    cases r with
    | tup f q => exact ⟨_, _, rfl, .inr f.sq, q.pair⟩
  · split at e
    · rename_i hx
      cases e
      obtain ⟨a, rfl, _, vs, ha, rv⟩ := live_obj rel r hx (fun z => nomatch z)
      exact ⟨a, vs, rfl, .inl (.of ha), rv⟩
    · cases e
  · cases e
theorem c_abs : CallR X (.builtin "abs") (rC X.K W absD) := call_abs.imp fun vs H Q ⟨m, S, ds, rel, r, p⟩ => by
  unfold absD at p
  split at p
  · obtain ⟨v, rfl, r1⟩ := r.one
    cases r1
    exact ⟨_, rfl, p.ok rel _ (.int _)⟩
  · exact p.elim
theorem c_int : CallR X (.type "int") (rC X.K W intD) := call_int1.imp fun vs H Q ⟨m, S, ds, rel, r, p⟩ => by
  unfold intD at p
  split at p
  · obtain ⟨v, rfl, r1⟩ := r.one
    cases r1
    exact .inl ⟨_, rfl, p.ok rel _ (.int _)⟩
  · obtain ⟨v, rfl, r1⟩ := r.one
    cases r1
    exact .inr ⟨_, rfl, p.ok rel _ (.int _)⟩
  · exact p.elim
theorem c_len : CallR X (.builtin "len") (rC X.K W lenD) := call_len.imp fun vs H Q ⟨m, S, ds, rel, r, p⟩ => by
  unfold lenD at p
  split at p
  · obtain ⟨v, rfl, r1⟩ := r.one
    cases r1
    split at p
    · rename_i c
      exact ⟨_, _, rfl, ⟨c, rfl⟩, p.ok rel _ (.int _)⟩
    · exact p.elim
  · obtain ⟨v, rfl, r1⟩ := r.one
    cases r1 with
    | lst f q => exact ⟨_, _, rfl, .inl ⟨_, f.sq, rfl⟩, by rw [RDs.length q]; exact p.ok rel _ (.int _)⟩
  · obtain ⟨v, rfl, r1⟩ := r.one
    cases r1 with
    | tup f q => exact ⟨_, _, rfl, .inr ⟨_, f.sq, rfl⟩, by rw [RDs.length q]; exact p.ok rel _ (.int _)⟩
  · obtain ⟨v, rfl, r1⟩ := r.one
    split at p
    · rename_i hx
      obtain ⟨a, rfl, _, vs, ha, rv⟩ := live_obj rel r1 hx (fun z => nomatch z)
      exact ⟨_, _, rfl, .inl ⟨_, .of ha, rfl⟩, by rw [paired_len rv]; exact p.ok rel _ (.int _)⟩
    · exact p.elim
  · exact p.elim
theorem c_tuple : CallR X (.type "tuple") (rC X.K W tupD) := call_tuple_of.imp fun vs H Q ⟨m, S, ds, rel, r, p⟩ => by
  unfold tupD at p
  split at p
  · obtain ⟨v, rfl, r1⟩ := r.one
    cases r1 with
    | tup f q => exact ⟨_, _, rfl, .inr ⟨f.sq, p.ok rel _ (.tup f q)⟩⟩
  · obtain ⟨v, rfl, r1⟩ := r.one
    cases r1 with
    | lst f q => exact ⟨_, _, rfl, .inl ⟨f.sq, fun l hl => new_tup rel q p hl⟩⟩
  · obtain ⟨v, rfl, r1⟩ := r.one
    split at p
    · rename_i hx
      obtain ⟨a, rfl, _, vs, ha, rv⟩ := live_obj rel r1 hx (fun z => nomatch z)
      split at p
      · rename_i ds hd
        rw [allIm_eq hd] at rv
        exact ⟨_, _, rfl, .inl ⟨.of ha, fun l hl => new_tup rel (RDs.of_pair rv) p hl⟩⟩
      · exact p.elim
    · exact p.elim
  · exact p.elim
theorem c_list {mu : Bool} : CallR X (.type "list") (rC X.K W (listD mu)) := call_list_of.imp fun vs H Q ⟨m, S, ds, rel, r, p⟩ => by
  unfold listD at p
  split at p
  · obtain ⟨v, rfl, r1⟩ := r.one
    split at p
    · rename_i xs hx
      obtain ⟨a, vs, rfl, sq, rv⟩ := seq_sq rel r1 hx
      exact ⟨a, vs, rfl, sq, fun l hl => new_lst rel rv p hl⟩
    · exact p.elim
  · exact p.elim
theorem c_max (hc : X.calm = true) : CallR X (.builtin "max") (rC X.K W maxD) := (call_max2 hc).imp fun vs H Q ⟨m, S, ds, rel, r, p⟩ => by
  unfold maxD at p
  split at p
  · obtain ⟨v, v2, rfl, r1, r2⟩ := r.two
    cases r1; cases r2
    exact ⟨_, _, rfl, p.ok rel _ (.int _)⟩
  · exact p.elim
theorem c_min (hc : X.calm = true) : CallR X (.builtin "min") (rC X.K W minD) := (call_min2 hc).imp fun vs H Q ⟨m, S, ds, rel, r, p⟩ => by
  unfold minD at p
  split at p
  · obtain ⟨v, v2, rfl, r1, r2⟩ := r.two
    cases r1; cases r2
    exact ⟨_, _, rfl, p.ok rel _ (.int _)⟩
  · exact p.elim
/-- ints all -/
def allInt : List Val → Option (List Int)
  | [] => some []
  | .im (.int d) :: r => (allInt r).map (d :: ·)
  | _ :: _ => none
@[simp] theorem allInt_map : ∀ ds : List Int, allInt (ds.map fun i => Val.im (.int i)) = some ds
  | [] => rfl
  | d :: r => by simp [allInt, allInt_map r]
theorem allInt_eq : ∀ {xs : List Val} {ds : List Int}, allInt xs = some ds → xs = ds.map fun i => Val.im (.int i)
  | [], _, e => by cases e; rfl
  | .im (.int d) :: r, ds, e => by
    simp only [allInt, Option.map_eq_some_iff] at e
    obtain ⟨es, e1, e2⟩ := e
    subst e2
    rw [allInt_eq e1]; rfl
theorem ints_rel {K : PySem.W.Frag} {H : Hp} {m : Mp} : ∀ {ns : List Int} {vs : List V}, RVs K H m (ns.map fun i => Val.im (.int i)) vs → vs = ns.map V.int
  | [], _, h => by cases h; rfl
  | n :: r, _, h => by
    cases h with
    | cons q t => cases q; rw [ints_rel t]; rfl
def leastI (n : Int) (r : List Int) : Int := r.foldl (fun a b => if b < a then b else a) n
theorem leastI_le : ∀ (r : List Int) (n : Int), leastI n r ≤ n ∧ (∀ y ∈ r, leastI n r ≤ y) ∧ (leastI n r = n ∨ leastI n r ∈ r)
  | [], n => ⟨Int.le_refl n, (fun y h => nomatch h), .inl rfl⟩
  | x :: r, n => by
    have ih := leastI_le r (if x < n then x else n)
    have e : leastI n (x :: r) = leastI (if x < n then x else n) r := rfl
    rw [e]
    refine ⟨?_, fun y hy => ?_, ?_⟩
    · have := ih.1; split at this <;> omega
    · rcases List.mem_cons.mp hy with rfl | hy
      · have := ih.1; split at this <;> omega
      · exact ih.2.1 y hy
    · rcases ih.2.2 with q | q
      · rw [q]
        split
        · exact .inr (List.mem_cons_self)
        · exact .inl rfl
      · exact .inr (List.mem_cons_of_mem _ q)
/-- the items of a list -/
def seqL (S : Sto) : Val → Option (List Val)
  | .im (.list xs) => some (xs.map .im)
  | .ref h => match S.objs[h]? with
    | some (.lst xs) => some xs
    | _ => none
  | _ => none
theorem seqL_sq {K : PySem.W.Frag} {m : Mp} {S : Sto} {H : Hp} {d : Val} {v : V} {xs : List Val} (rel : Rel K m S H) (r : RV K H m d v) (e : seqL S d = some xs) : ∃ a vs, v = .ref a ∧ SqL K H a vs ∧ RVs K H m xs vs := by
  unfold seqL at e
  split at e
  · cases e
    cases r with
    | lst f q => exact ⟨_, _, rfl, f.sq, q.pair⟩
  · split at e
    · rename_i hx
      cases e
      obtain ⟨a, rfl, _, vs, ha, rv⟩ := live_obj rel r hx (fun z => nomatch z)
      exact ⟨a, vs, rfl, .of ha, rv⟩
    · cases e
  · cases e
def minLD : List Val → Sto → R Val
  | [v], S => match seqL S v with
    | some xs => match allInt xs with
      | some (n :: r) => .ok (.im (.int (leastI n r))) S
      | _ => .bad
    | none => .bad
  | _, _ => .bad
theorem c_minL (hc : X.calm = true) : CallR X (.builtin "min") (rC X.K W minLD) := (cr_min hc).imp fun vs H Q ⟨m, S, ds, rel, r, p⟩ => by
  unfold minLD at p
  split at p
  · obtain ⟨w, rfl, r1⟩ := r.one
    split at p
    · rename_i xs hx
      obtain ⟨a, vs, rfl, sq, rv⟩ := seqL_sq rel r1 hx
      split at p
      · rename_i n r' hi
        rw [allInt_eq hi] at rv
        have e := ints_rel rv
        subst e
        refine ⟨a, n :: r', rfl, sq, by simp, fun k hk hle => ?_⟩
        have z := leastI_le r' n
        have : k = leastI n r' := by
          have h1 : leastI n r' ∈ n :: r' := by
            rcases z.2.2 with q | q
            · rw [q]; exact List.mem_cons_self
            · exact List.mem_cons_of_mem _ q
          have h2 := hle _ h1
          rcases List.mem_cons.mp hk with rfl | hk
          · have := z.1; omega
          · have := z.2.1 _ hk; omega
        rw [this]
        exact p.ok rel _ (.int _)
      · exact p.elim
    · exact p.elim
  · exact p.elim
end
end
end MP
set_option Elab.async false
set_option linter.all false
set_option maxRecDepth 100000
namespace MP
open PySem PySem.Spec L2
noncomputable section
open Classical
/-! Part d: subscripts, slices, changed objects, attributes, methods of lists -/
def Val.isRef : Val → Bool
  | .ref _ => true
  | _ => false
theorem Val.refs_nil {v : Val} (h : v.isRef = false) : v.refs = [] := by
  cases v with
  | im d => rfl
  | ref h => cases h
/-- an object put in the place of another one; fl: it may hold new handles -/
def putO (S : Sto) (h : Nat) (ob : Obj) (fl : Bool) : Sto := ⟨S.objs.set h ob, if fl then h :: S.esc else S.esc⟩
section
variable {K : PySem.W.Frag} {W : WX} {m m' : Mp} {S S' : Sto} {H H' : Hp} {h : Nat} {a : Addr} {ob ob' : Obj} {o' : HO} {fl : Bool}
theorem Aft.put (e : m[h]? = some (some a)) (eo : S.objs[h]? = some ob) (hf : fl = false → ∀ r ∈ ob'.refs, r ∈ ob.refs) : Aft m S H m (putO S h ob' fl) (upd H a o') where
  pre := fun _ _ e => .inl e
  keep := fun b o q n => by
    rw [upd_ne]
    · exact q
    · rintro rfl
      exact n (List.mem_of_getElem? e)
  new := fun _ l => .inl l
  escs := fun t q => by
    show t ∈ (if fl then h :: S.esc else S.esc)
    split
    · exact List.mem_cons_of_mem _ q
    · exact q
  refs := fun i oi hl q => by
    have q : (S.objs.set h ob')[i]? = some oi := q
    by_cases hi : h = i
    · subst hi
      rw [List.getElem?_set_self (List.getElem?_eq_some_iff.mp eo).1] at q
      cases q
      cases fl with
      | true => exact .inl (List.mem_cons_self)
      | false => exact .inr ⟨ob, eo, hf rfl⟩
    · rw [List.getElem?_set_ne hi] at q
      exact .inr ⟨oi, q, fun _ z => z⟩
theorem Rel.put (rel : Rel K m S H) (e : m[h]? = some (some a)) (eo : S.objs[h]? = some ob) (hf : fl = false → ∀ r ∈ ob'.refs, r ∈ ob.refs) (r : RO K (upd H a o') m ob' a) : Rel K m (putO S h ob' fl) (upd H a o') := by
  have A := Aft.put (H := H) (o' := o') e eo hf
  have hlt := (List.getElem?_eq_some_iff.mp eo).1
  refine ⟨by show m.length = (S.objs.set h ob').length; rw [List.length_set]; exact rel.len, rel.inj, fun i b q => ?_, fun i q => ?_⟩
  · show ∃ o, (S.objs.set h ob')[i]? = some o ∧ _
    by_cases hi : h = i
    · subst hi
      rw [e] at q; cases q
      exact ⟨ob', List.getElem?_set_self hlt, r⟩
    · obtain ⟨u, e1, ro⟩ := rel.obj i b q
      refine ⟨u, by rw [List.getElem?_set_ne hi]; exact e1, ro.aft A (upd_ne ?_)⟩
      rintro rfl
      exact hi (rel.inj _ _ _ e q)
  · show (S.objs.set h ob')[i]? = some .dead
    by_cases hi : h = i
    · subst hi
      rw [e] at q; cases q
    · rw [List.getElem?_set_ne hi]; exact rel.dead i q
end
theorem Paired.snoc {α β : Type} {F : α → β → Prop} : ∀ {xs : List α} {ys : List β} {x : α} {y : β}, Paired F xs ys → F x y → Paired F (xs ++ [x]) (ys ++ [y])
  | _, _, _, _, .nil, r => .cons r .nil
  | _, _, _, _, .cons q t, r => .cons q (Paired.snoc t r)
theorem Paired.get {α β : Type} {F : α → β → Prop} : ∀ {xs : List α} {ys : List β} {i : Nat} {x : α}, Paired F xs ys → xs[i]? = some x → ∃ y, ys[i]? = some y ∧ F x y
  | _, _, _, _, .nil, e => by simp at e
  | _, _, 0, _, .cons q t, e => by simp at e; subst e; exact ⟨_, rfl, q⟩
  | _, _, i + 1, x, .cons q t, e => by
    obtain ⟨y, e1, e2⟩ := Paired.get (i := i) t (by simpa using e)
    exact ⟨y, by simpa using e1, e2⟩
theorem Paired.set {α β : Type} {F : α → β → Prop} : ∀ {xs : List α} {ys : List β} (i : Nat) {x : α} {y : β}, Paired F xs ys → F x y → Paired F (xs.set i x) (ys.set i y)
  | _, _, _, _, _, .nil, _ => .nil
  | _, _, 0, _, _, .cons q t, r => .cons r t
  | _, _, i + 1, _, _, .cons q t, r => .cons q (Paired.set i t r)
theorem Paired.dropLast {α β : Type} {F : α → β → Prop} : ∀ {xs : List α} {ys : List β}, Paired F xs ys → Paired F xs.dropLast ys.dropLast
  | _, _, .nil => .nil
  | _, _, .cons q .nil => .nil
  | _, _, .cons q (.cons r t) => .cons q (Paired.dropLast (.cons r t))
theorem Paired.append {α β : Type} {F : α → β → Prop} : ∀ {xs xs' : List α} {ys ys' : List β}, Paired F xs ys → Paired F xs' ys' → Paired F (xs ++ xs') (ys ++ ys')
  | _, _, _, _, .nil, h => h
  | _, _, _, _, .cons r t, h => .cons r (Paired.append t h)
theorem Paired.reverse {α β : Type} {F : α → β → Prop} : ∀ {xs : List α} {ys : List β}, Paired F xs ys → Paired F xs.reverse ys.reverse
  | _, _, .nil => .nil
  | _, _, .cons r t => by rw [List.reverse_cons, List.reverse_cons]; exact Paired.snoc (Paired.reverse t) r
theorem Paired.take {α β : Type} {F : α → β → Prop} : ∀ {xs : List α} {ys : List β} (n : Nat), Paired F xs ys → Paired F (xs.take n) (ys.take n)
  | _, _, 0, _ => .nil
  | _, _, _ + 1, .nil => .nil
  | _, _, n + 1, .cons r t => .cons r (Paired.take n t)
theorem Paired.drop {α β : Type} {F : α → β → Prop} : ∀ {xs : List α} {ys : List β} (n : Nat), Paired F xs ys → Paired F (xs.drop n) (ys.drop n)
  | _, _, 0, h => h
  | _, _, _ + 1, .nil => .nil
  | _, _, n + 1, .cons r t => Paired.drop n t
theorem Paired.at_ {α β : Type} {F : α → β → Prop} {xs : List α} {ys : List β} {i : Int} {x : α} (h : Paired F xs ys) (e : atI xs i = some x) : ∃ y, atI ys i = some y ∧ F x y := by
  have hl := paired_len h
  unfold atI at e ⊢
  rw [hl]
  cases q : ixN xs.length i with
  | none => rw [q] at e; cases e
  | some j =>
    rw [q] at e
    exact Paired.get h e

/-! ### subscripts -/
def idxD (d e : Val) (S : Sto) : R Val := match e with
  | .im (.int i) => match d with
    | .im (.str z) => match atI z.cps.toList i with
      | some c => if z.length ≤ sizeLine then .ok (.im (.str ⟨#[c]⟩)) S else .bad
      | none => .bad
    | _ => match seqD S d with
      | some xs => match atI xs i with
        | some x => .ok x S
        | none => .bad
      | none => .bad
  | _ => .bad
section
variable {X : Cx} {W : WX} {a b c e o : Expr} {fa fb fc fo : EvE} {pos : Pos} {es : List Expr} {ga : EvA}
theorem se_idx (ha : SE X W a fa) (hb : SE X W b fb) (hs : PlainIx b) : SE X W (.Subscript a b pos) (ev2 idxD fa fb) :=
  (pe_ix ix_seq ha hb hs).imp fun σ H Q h => by
    obtain ⟨env, m, S, rE, rel, p⟩ := tOp_of h
    refine ⟨env, m, S, rE, rel, p.mono fun m1 S1 H1 d A1 rel1 p1 v1 r1 => ?_⟩
    obtain ⟨env2, m2, S2, rE2, rel2, p2⟩ := p1 v1 r1
    refine ⟨env2, m2, S2, rE2, rel2, p2.mono fun m3 S3 H3 e A3 rel3 p3 v3 r3 => ?_⟩
    obtain ⟨m4, S4, d, e, rel4, rd, re, p4⟩ := p3 v3 r3
    unfold idxD at p4
    split at p4
    · cases re
      split at p4
      · cases rd
        split at p4
        · rename_i c hc
          split at p4
          · rename_i hz
            exact .inr (.inr ⟨_, _, c, rfl, rfl, hz, hc, p4.ok rel4 _ (.str _)⟩)
          · exact p4.elim
        · exact p4.elim
      · split at p4
        · rename_i xs hx
          obtain ⟨ad, vs, rfl, sq, rv⟩ := seq_sq rel4 rd hx
          split at p4
          · rename_i x hat
            obtain ⟨y, e1, r⟩ := Paired.at_ rv hat
            rcases sq with sq | sq
            · exact .inl ⟨_, _, _, _, rfl, rfl, sq, e1, p4.ok rel4 _ r⟩
            · exact .inr (.inl ⟨_, _, _, _, rfl, rfl, sq, e1, p4.ok rel4 _ r⟩)
          · exact p4.elim
        · exact p4.elim
    · exact p4.elim
/-- d[k], d a dict with ints and texts as keys -/
def keyD : Val → Option Key
  | .im (.int i) => some (.inl i)
  | .im (.str x) => some (.inr x)
  | _ => none
def getK {κ : Type} [DecidableEq κ] (kvs : List (κ × Val)) (k : κ) : Option Val := (kvs.find? fun kv => decide (kv.1 = k)).map (·.2)
def dixD (d e : Val) (S : Sto) : R Val := match d, keyD e with
  | .ref h, some k => match S.objs[h]? with
    | some (.dct kvs) => match getK kvs k with
      | some v => .ok v S
      | none => .bad
    | _ => .bad
  | _, _ => .bad
theorem key_rel {K : PySem.W.Frag} {H : Hp} {m : Mp} {e : Val} {v : V} {k : Key} (r : RV K H m e v) (h : keyD e = some k) : v = kV k := by
  unfold keyD at h
  split at h
  · cases h; cases r; rfl
  · cases h; cases r; rfl
  · cases h
theorem getK_rel {K : PySem.W.Frag} {H : Hp} {m : Mp} {k : Key} {x : Val} : ∀ {kvs : List (Key × Val)} {ws : List (Key × V)}, RKs K H m kvs ws → getK kvs k = some x → ∃ v, valV ws k = some v ∧ RV K H m x v
  | _, _, .nil, e => by cases e
  | (k1, x1) :: r, (k2, v2) :: r2, .cons q t, e => by
    obtain ⟨q1, q2⟩ := q
    have q1 : k1 = k2 := q1
    subst q1
    by_cases hk : k1 = k
    · subst hk
      have : x1 = x := by simpa [getK, List.find?_cons] using e
      subst this
      exact ⟨v2, valV_pos rfl, q2⟩
    · have e' : getK r k = some x := by simpa [getK, List.find?_cons, hk] using e
      obtain ⟨v, h1, h2⟩ := getK_rel t e'
      exact ⟨v, by rw [valV_neg hk]; exact h1, h2⟩
theorem se_dix (hu : X.A.units + 1 < cLine) (ha : SE X W a fa) (hb : SE X W b fb) (hs : NoSl b) : SE X W (.Subscript a b pos) (ev2 dixD fa fb) :=
  (pe_dget hu ha hb hs).imp fun σ H Q h => by
    obtain ⟨env, m, S, rE, rel, p⟩ := tOp_of h
    refine ⟨env, m, S, rE, rel, p.mono fun m1 S1 H1 d A1 rel1 p1 v1 r1 => ?_⟩
    obtain ⟨env2, m2, S2, rE2, rel2, p2⟩ := p1 v1 r1
    refine ⟨env2, m2, S2, rE2, rel2, p2.mono fun m3 S3 H3 e A3 rel3 p3 v3 r3 => ?_⟩
    obtain ⟨m4, S4, d, e, rel4, rd, re, p4⟩ := p3 v3 r3
    unfold dixD at p4
    split at p4
    · rename_i hd k hk
      split at p4
      · rename_i kvs ho
        obtain ⟨ad, rfl, _, ws, hw, rk⟩ := live_obj rel4 rd ho (fun z => nomatch z)
        split at p4
        · rename_i x hx
          obtain ⟨v, e1, r⟩ := getK_rel rk hx
          have := key_rel re hk
          subst this
          exact ⟨ad, v, rfl, by rw [← e1]; exact DGet.k hw, p4.ok rel4 _ r⟩
        · exact p4.elim
      · exact p4.elim
    · exact p4.elim
/-! ### slices -/
abbrev EvO := Env → Sto → R (Option Int)
def tO (K : PySem.W.Frag) (W : WX) (f : EvO) : TO := fun σ H Q => ∃ env m S, RelE K H m env σ ∧ Rel K m S H ∧ Post K W m S H (f env S) fun _ _ H' o => Q o H'
def evNone : EvO := fun _ S => .ok none S
def evSome (f : EvE) : EvO := fun env S => (f env S).bind fun d S1 => match d with
  | .im (.int i) => .ok (some i) S1
  | _ => .bad
theorem PO.imp {e : Option Expr} {t t' : TO} (h : PO X e t) (f : ∀ σ H Q, t' σ H Q → t σ H Q) : PO X e t' := ⟨fun pins s σ H Q I q => h.run pins s σ H Q I (f σ H Q q)⟩
abbrev SO (X : Cx) (W : WX) (e : Option Expr) (f : EvO) : Prop := PO X e (tO X.K W f)
theorem so_none : SO X W none evNone := PO.imp po_none fun σ H Q ⟨env, m, S, rE, rel, p⟩ => p.ok rel
theorem so_some (h : SE X W e fa) : SO X W (some e) (evSome fa) := PO.imp (po_some h) fun σ H Q ⟨env, m, S, rE, rel, p⟩ => ⟨env, m, S, rE, rel, p.bind.mono fun m1 S1 H1 d A1 rel1 p1 v1 r1 => by
  split at p1
  · cases r1
    exact ⟨_, rfl, p1.ok rel1⟩
  · exact p1.elim⟩
/-- the items of xs[lo:hi] -/
def cut {α : Type} (xs : List α) (lo hi : Option Int) : List α := (xs.drop (HT.sIx xs.length 0 lo)).take (HT.sIx xs.length xs.length hi - HT.sIx xs.length 0 lo)
def slcD (mu : Bool) (d : Val) (lo hi : Option Int) (S : Sto) : R Val := match d with
  | .im (.tuple xs) => .ok (.im (.tuple (cut xs lo hi))) S
  | _ => match seqL S d with
    | some xs => newL mu (cut xs lo hi) S
    | none => .bad
def evSlc (mu : Bool) (f : EvE) (l u : EvO) : EvE := fun env S => (f env S).bind fun d S1 => (l env S1).bind fun lo S2 => (u env S2).bind fun hi S3 => slcD mu d lo hi S3
theorem cut_rel {α β : Type} {F : α → β → Prop} {xs : List α} {ys : List β} (h : Paired F xs ys) (lo hi : Option Int) : Paired F (cut xs lo hi) (cut ys lo hi) := by
  unfold cut
  rw [paired_len h]
  exact Paired.take _ (Paired.drop _ h)
theorem cut_map {α β : Type} (f : α → β) (xs : List α) (lo hi : Option Int) : cut (xs.map f) lo hi = (cut xs lo hi).map f := by
  unfold cut
  rw [List.length_map, ← List.map_drop, ← List.map_take]
theorem cut_whole {α : Type} {xs : List α} {lo hi : Option Int} (h : HT.sIx xs.length 0 lo = 0 ∧ HT.sIx xs.length xs.length hi = xs.length) : cut xs lo hi = xs := by
  unfold cut
  rw [h.1, h.2]
  simp
theorem se_slc {mu : Bool} {lo hi : Option Expr} {fl fu : EvO} {p2 : Pos} (he : SE X W e fa) (hl : SO X W lo fl) (hu : SO X W hi fu) : SE X W (.Subscript e (.Slice lo hi none p2) pos) (evSlc mu fa fl fu) :=
  (pe_slice (SlR.or sl_tupA sl_list) he hl hu).imp fun σ H Q ⟨env, m, S, rE, rel, p⟩ =>
    ⟨env, m, S, rE, rel, p.bind.mono fun m1 S1 H1 d A1 rel1 p1 v1 r1 => ⟨env, m1, S1, rE.aft A1, rel1, p1.bind.mono fun m2 S2 H2 lo A2 rel2 p2 => ⟨env, m2, S2, (rE.aft A1).aft A2, rel2, p2.bind.mono fun m3 S3 H3 hi A3 rel3 p3 => by
      have r3 := RV.aft (A2.trans A3) r1
      unfold slcD at p3
      split at p3
      · cases r3 with
        | @tup ad vs ds f q =>
          refine .inl ⟨_, _, rfl, f.sq, fun hw => ?_, fun hw p hp => ?_⟩
          · rw [RDs.length q] at hw
            rw [cut_whole hw] at p3
            exact p3.ok rel3 _ (.tup f q)
          · have q2 := RDs.of_pair (by rw [← cut_map]; exact cut_rel q.pair lo hi)
            exact new_tup rel3 q2 p3 hp
      · split at p3
        · rename_i xs hx
          obtain ⟨ad, vs, rfl, sq, rv⟩ := seqL_sq rel3 r3 hx
          exact .inr ⟨_, _, rfl, sq, fun p hp => new_lst rel3 (cut_rel rv lo hi) p3 hp⟩
        · exact p3.elim⟩⟩⟩
/-! ### attributes -/
/-- what is known of the classes: their attributes are the instances' own -/
def Kn (K : PySem.W.Frag) (kn : Str → Str → Bool) : Prop := ∀ c f, kn c f = true → Cls K (He.ga K c) ∧ NoAttr K (He.ga K c) f
def fldD (kn : Str → Str → Bool) (f : Str) : Val → Sto → R Val
  | .ref h, S => match S.objs[h]? with
    | some (.ins c fs) => if kn c f = true then match fs.lookup f with
        | some v => .ok v S
        | none => .bad
      else .bad
    | _ => .bad
  | _, _ => .bad
theorem lookup_rel {K : PySem.W.Frag} {H : Hp} {m : Mp} {f : Str} : ∀ {fs : Fld} {gs : List (Str × V)}, RKs K H m fs gs → (∀ x, fs.lookup f = some x → ∃ v, gs.lookup f = some v ∧ RV K H m x v) ∧ (fs.lookup f = none → gs.lookup f = none)
  | _, _, .nil => ⟨(fun x e => nomatch e), fun _ => rfl⟩
  | (k1, x1) :: r, (k2, v2) :: r2, .cons q t => by
    obtain ⟨q1, q2⟩ := q
    have q1 : k1 = k2 := q1
    subst q1
    obtain ⟨h1, h2⟩ := lookup_rel (f := f) t
    simp only [List.lookup_cons]
    cases hk : f == k1 with
    | true => exact ⟨fun x e => ⟨v2, rfl, by cases e; exact q2⟩, fun e => by cases e⟩
    | false => exact ⟨h1, h2⟩
theorem se_fld {kn : Str → Str → Bool} {f : Str} (hk : Kn X.K kn) (he : SE X W e fa) (hb : attributeBase e f X.env (eval e X.env) = eval e X.env) : SE X W (.Attribute e f pos) (ev1 (fldD kn f) fa) :=
  (pe_fld he hb).imp fun σ H Q ⟨env, m, S, rE, rel, p⟩ => ⟨env, m, S, rE, rel, p.bind.mono fun m1 S1 H1 d A1 rel1 p1 v1 r1 => by
    unfold fldD at p1
    split at p1
    · split at p1
      · rename_i c fs ho
        obtain ⟨ad, rfl, _, dx, gs, hg, rk⟩ := live_obj rel1 r1 ho (fun z => nomatch z)
        split at p1
        · rename_i kc
          split at p1
          · rename_i x hx
            obtain ⟨v, e1, r⟩ := (lookup_rel rk).1 x hx
            exact ⟨ad, _, dx, gs, v, rfl, hg, (hk c f kc).1, (hk c f kc).2, e1, p1.ok rel1 _ r⟩
          · exact p1.elim
        · exact p1.elim
      · exact p1.elim
    · exact p1.elim⟩
/-- the attributes with one more, or another value -/
def putFd (f : Str) (v : Val) : Fld → Fld
  | [] => [(f, v)]
  | (g, x) :: r => if g = f then (g, v) :: r else (g, x) :: putFd f v r
theorem putFd_rel {K : PySem.W.Frag} {H : Hp} {m : Mp} {f : Str} {x : Val} {v : V} (r : RV K H m x v) : ∀ {fs : Fld} {gs : List (Str × V)}, RKs K H m fs gs → RKs K H m (putFd f x fs) (putF f v gs)
  | _, _, .nil => .cons ⟨rfl, r⟩ .nil
  | (k1, x1) :: r1, (k2, v2) :: r2, .cons q t => by
    obtain ⟨q1, q2⟩ := q
    have q1 : k1 = k2 := q1
    subst q1
    show RKs K H m (if k1 = f then (k1, x) :: r1 else (k1, x1) :: putFd f x r1) (if k1 = f then (k1, v) :: r2 else (k1, v2) :: putF f v r2)
    by_cases h : k1 = f
    · rw [if_pos h, if_pos h]; exact .cons ⟨rfl, r⟩ t
    · rw [if_neg h, if_neg h]; exact .cons ⟨rfl, q2⟩ (putFd_rel r t)
theorem putFd_refs {f : Str} {x : Val} (hx : x.isRef = false) : ∀ (fs : Fld), ∀ r ∈ (putFd f x fs).flatMap (fun p => p.2.refs), r ∈ fs.flatMap fun p => p.2.refs
  | [], r, h => by
    have : r ∈ ([(f, x)] : Fld).flatMap fun p => p.2.refs := h
    simp [Val.refs_nil hx] at this
  | (k1, x1) :: r1, r, h => by
    have h' : r ∈ (if k1 = f then (k1, x) :: r1 else (k1, x1) :: putFd f x r1).flatMap (fun p => p.2.refs) := h
    by_cases e : k1 = f
    · rw [if_pos e] at h'
      rw [List.flatMap_cons] at h' ⊢
      rcases List.mem_append.mp h' with z | z
      · rw [Val.refs_nil hx] at z; cases z
      · exact List.mem_append_right _ z
    · rw [if_neg e] at h'
      rw [List.flatMap_cons] at h' ⊢
      rcases List.mem_append.mp h' with z | z
      · exact List.mem_append_left _ z
      · exact List.mem_append_right _ (putFd_refs hx r1 r z)
def setFldD (kn : Str → Str → Bool) (f : Str) (o v : Val) (S : Sto) : R Unit := match o with
  | .ref h => match S.objs[h]? with
    | some (.ins c fs) => if kn c f = true ∧ fs.length < 1000 then .ok () (putO S h (.ins c (putFd f v fs)) v.isRef) else .bad
    | _ => .bad
  | _ => .bad
theorem setFld_ok {kn : Str → Str → Bool} {f : Str} {K : PySem.W.Frag} (hk : Kn K kn) {m : Mp} {S : Sto} {H : Hp} {o v : Val} {x y : V} {Q : Mp → Sto → Hp → Unit → Prop} (rel : Rel K m S H) (ro : RV K H m o x) (rv : RV K H m v y)
    (p : Post K W m S H (setFldD kn f o v S) Q) : ∃ a C dx fs S', x = .ref a ∧ H a = some (.ins C dx fs) ∧ Cls K C ∧ NoAttr K C f ∧ fs.length < 1000 ∧ Rel K m S' (upd H a (.ins C dx (putF f y fs))) ∧ Aft m S H m S' (upd H a (.ins C dx (putF f y fs))) ∧ Q m S' (upd H a (.ins C dx (putF f y fs))) () := by
  unfold setFldD at p
  split at p
  · rename_i h
    split at p
    · rename_i c fs ho
      obtain ⟨ad, rfl, e, dx, gs, hg, rk⟩ := live_obj rel ro ho (fun z => nomatch z)
      split at p
      · rename_i kc
        have hf : v.isRef = false → ∀ r ∈ (Obj.ins c (putFd f v fs)).refs, r ∈ (Obj.ins c fs).refs := fun hv => putFd_refs hv fs
        have A := Aft.put (H := H) (o' := .ins (He.ga K c) dx (putF f y gs)) e ho hf
        have R' := rel.put (o' := .ins (He.ga K c) dx (putF f y gs)) e ho hf ⟨dx, _, upd_same, RKs.aft A (putFd_rel rv rk)⟩
        exact ⟨ad, _, dx, gs, _, rfl, hg, (hk c f kc.1).1, (hk c f kc.1).2, by rw [paired_len rk]; exact kc.2, R', A, p m _ A R'⟩
      · exact p.elim
    · exact p.elim
  · exact p.elim
/-! ### lists changed by their methods -/
def rM (K : PySem.W.Frag) (W : WX) (g : Val → List Val → Sto → R Val) : V → List V → Hp → VK → Prop := fun x vs H Q => ∃ m S d ds, Rel K m S H ∧ RV K H m d x ∧ RVs K H m ds vs ∧ Post K W m S H (g d ds S) fun m' _ H' z => ∀ v, RV K H' m' z v → Q v H'
/-- a changeable list stands there -/
def isLst (d : Val) (S : Sto) : Bool := match d with
  | .ref h => match S.objs[h]? with
    | some (.lst _) => true
    | _ => false
  | _ => false
def evM (g : Val → List Val → Sto → R Val) (f : EvE) (ga : EvA) : EvE := fun env S => (f env S).bind fun o S1 => if isLst o S1 = true then (ga env S1).bind fun xs S2 => g o xs S2 else .bad
theorem isLst_ty {K : PySem.W.Frag} {m : Mp} {S : Sto} {H : Hp} {d : Val} {v : V} (rel : Rel K m S H) (r : RV K H m d v) (h : isLst d S = true) : tyV K "list" v H := by
  unfold isLst at h
  split at h
  · split at h
    · rename_i ho
      obtain ⟨a, rfl, _, vs, ha, _⟩ := live_obj rel r ho (fun z => nomatch z)
      exact .inl ⟨rfl, vs, .of ha⟩
    · cases h
  · cases h
theorem MtR.imp {id : String} {r r' : V → List V → Hp → VK → Prop} (h : MtR X id r) (f : ∀ x vs H Q, r' x vs H Q → r x vs H Q) : MtR X id r' := fun pins s σ H x xs v us Q I rx rs q => h pins s σ H x xs v us Q I rx rs (f x xs H Q q)
variable {id : String} {name : Str} {apos cpos : Pos}
theorem se_bm0 {g : Val → List Val → Sto → R Val} (slot : Slot "list" name id) (hty : typeOf (.builtin id) = pure (.type "method_descriptor")) (hm : MtR X id (rM X.K W g)) (ho : SE X W o fo)
    (hbase : attributeBase o name X.env (eval o X.env) = eval o X.env) (hline : (apos.endLine == cpos.line) = true) : SE X W (.Call (.Attribute o name apos) [] [] cpos) (evM g fo evNil) :=
  (pe_bm0 PySem.F.plainAttrs_list slot hty hm ho hbase hline).imp fun σ H Q ⟨env, m, S, rE, rel, p⟩ => ⟨env, m, S, rE, rel, p.bind.mono fun m1 S1 H1 d A1 rel1 p1 v1 r1 => by
    split at p1
    · rename_i h
      exact ⟨isLst_ty rel1 r1 h, m1, S1, d, [], rel1, r1, .nil, p1⟩
    · exact p1.elim⟩
theorem se_bm {g : Val → List Val → Sto → R Val} (slot : Slot "list" name id) (hty : typeOf (.builtin id) = pure (.type "method_descriptor")) (hm : MtR X id (rM X.K W g)) (ho : SE X W o fo) (ha : SA X W (e :: es) ga)
    (hbase : attributeBase o name X.env (eval o X.env) = eval o X.env)
    (hfew : ((backTo cpos (starEach (e :: es) X.env)).all (fun x => !x.1) && (backToKw cpos (keywordEach [] X.env)).all (fun x => x.1.isSome)
      && decide ((e :: es).length + ([] : List Keyword).length + (if ([] : List Keyword).isEmpty then 0 else 1) < 30)) = true)
    (hline : (apos.endLine == cpos.line) = true) (hs : starEach (e :: es) X.env = (false, eval e X.env) :: starEach es X.env) (hplain : (backTo cpos (starEach es X.env)).any (·.1) = false) : SE X W (.Call (.Attribute o name apos) (e :: es) [] cpos) (evM g fo ga) :=
  (pe_bm PySem.F.plainAttrs_list slot hty hm ho ha hbase hfew hline hs hplain).imp fun σ H Q ⟨env, m, S, rE, rel, p⟩ => ⟨env, m, S, rE, rel, p.bind.mono fun m1 S1 H1 d A1 rel1 p1 v1 r1 => by
    split at p1
    · rename_i h
      exact ⟨isLst_ty rel1 r1 h, env, m1, S1, rE.aft A1, rel1, p1.bind.mono fun m2 S2 H2 ds A2 rel2 p2 vs r2 => ⟨m2, S2, d, ds, rel2, RV.aft A2 r1, r2, p2⟩⟩
    · exact p1.elim⟩
def appD (o : Val) (xs : List Val) (S : Sto) : R Val := match o, xs with
  | .ref h, [v] => match S.objs[h]? with
    | some (.lst xs) => if xs.length < sizeLine then .ok (.im .none) (putO S h (.lst (xs ++ [v])) v.isRef) else .bad
    | _ => .bad
  | _, _ => .bad
theorem app_refs {xs : List Val} {v : Val} (h : v.isRef = false) : ∀ r ∈ (Obj.lst (xs ++ [v])).refs, r ∈ (Obj.lst xs).refs := fun r hr => by
  have hr : r ∈ (xs ++ [v]).flatMap Val.refs := hr
  show r ∈ xs.flatMap Val.refs
  rw [List.flatMap_append] at hr
  rcases List.mem_append.mp hr with z | z
  · exact z
  · simp [Val.refs_nil h] at z
theorem m_append : MtR X "list.append" (rM X.K W appD) := MtR.imp mt_append fun x vs H Q ⟨m, S, d, ds, rel, rd, rs, p⟩ => by
  unfold appD at p
  split at p
  · rename_i h v
    split at p
    · rename_i xs ho
      obtain ⟨a, rfl, e, ws, ha, rw'⟩ := live_obj rel rd ho (fun z => nomatch z)
      obtain ⟨y, rfl, ry⟩ := rs.one
      split at p
      · rename_i hl
        have hf : v.isRef = false → ∀ r ∈ (Obj.lst (xs ++ [v])).refs, r ∈ (Obj.lst xs).refs := app_refs
        have A := Aft.put (H := H) (o' := .lst (ws ++ [y])) e ho hf
        have R' := rel.put (o' := .lst (ws ++ [y])) e ho hf ⟨_, upd_same, Paired.snoc (RVs.aft A rw') (RV.aft A ry)⟩
        exact ⟨a, ws, y, rfl, rfl, ha, by rw [paired_len rw']; exact hl, p m _ A R' _ .non⟩
      · exact p.elim
    · exact p.elim
  · exact p.elim
def popD (o : Val) (xs : List Val) (S : Sto) : R Val := match o, xs with
  | .ref h, [] => match S.objs[h]? with
    | some (.lst xs) => match xs[xs.length - 1]? with
      | some y => .ok y (putO S h (.lst xs.dropLast) false)
      | none => .bad
    | _ => .bad
  | _, _ => .bad
theorem mem_dropLast {α : Type} {xs : List α} {x : α} (h : x ∈ xs.dropLast) : x ∈ xs := by
  rw [List.dropLast_eq_take] at h
  exact List.mem_of_mem_take h
theorem m_pop : MtR X "list.pop" (rM X.K W popD) := MtR.imp mt_pop fun x vs H Q ⟨m, S, d, ds, rel, rd, rs, p⟩ => by
  unfold popD at p
  split at p
  · rename_i h
    split at p
    · rename_i xs ho
      obtain ⟨a, rfl, e, ws, ha, rw'⟩ := live_obj rel rd ho (fun z => nomatch z)
      cases rs
      split at p
      · rename_i y hy
        have hf : false = false → ∀ r ∈ (Obj.lst xs.dropLast).refs, r ∈ (Obj.lst xs).refs := fun _ r hr => by
          have hr : r ∈ xs.dropLast.flatMap Val.refs := hr
          obtain ⟨z, hz, hz2⟩ := List.mem_flatMap.mp hr
          exact List.mem_flatMap.mpr ⟨z, mem_dropLast hz, hz2⟩
        have A := Aft.put (H := H) (o' := .lst ws.dropLast) e ho hf
        have R' := rel.put (o' := .lst ws.dropLast) e ho hf ⟨_, upd_same, Paired.dropLast (RVs.aft A rw')⟩
        obtain ⟨w, hw, rw2⟩ := Paired.get rw' hy
        exact ⟨a, ws, w, rfl, rfl, ha, by rw [paired_len rw']; exact hw, p m _ A R' _ (RV.aft A rw2)⟩
      · exact p.elim
    · exact p.elim
  · exact p.elim
def revD (o : Val) (xs : List Val) (S : Sto) : R Val := match o, xs with
  | .ref h, [] => match S.objs[h]? with
    | some (.lst xs) => .ok (.im .none) (putO S h (.lst xs.reverse) false)
    | _ => .bad
  | _, _ => .bad
theorem m_reverse : MtR X "list.reverse" (rM X.K W revD) := MtR.imp mt_reverse fun x vs H Q ⟨m, S, d, ds, rel, rd, rs, p⟩ => by
  unfold revD at p
  split at p
  · rename_i h
    split at p
    · rename_i xs ho
      obtain ⟨a, rfl, e, ws, ha, rw'⟩ := live_obj rel rd ho (fun z => nomatch z)
      cases rs
      have hf : false = false → ∀ r ∈ (Obj.lst xs.reverse).refs, r ∈ (Obj.lst xs).refs := fun _ r hr => by
        have hr : r ∈ xs.reverse.flatMap Val.refs := hr
        obtain ⟨z, hz, hz2⟩ := List.mem_flatMap.mp hr
        exact List.mem_flatMap.mpr ⟨z, List.mem_reverse.mp hz, hz2⟩
      have A := Aft.put (H := H) (o' := .lst ws.reverse) e ho hf
      have R' := rel.put (o' := .lst ws.reverse) e ho hf ⟨_, upd_same, Paired.reverse (RVs.aft A rw')⟩
      exact ⟨a, ws, rfl, rfl, ha, p m _ A R' _ .non⟩
    · exact p.elim
  · exact p.elim
end
end
end MP
set_option Elab.async false
set_option linter.all false
set_option maxRecDepth 100000
namespace MP
open PySem PySem.Spec L2
noncomputable section
open Classical
/-! Part e: statements -/
section
variable {X : Cx} {W : WX} {a b c e o value : Expr} {fa fb fc fo fv : EvE} {pos pos' : Pos} {es : List Expr} {ga : EvA} {st : Stmt} {sts : List Stmt} {f g : EvS}
/-! ### targets -/
def gVar (i : Nat) : EvG := fun d env S => .ok (env.set i (some d)) S
theorem sg_name {i : Nat} {x : Str} (hN : X.N.Nodup) (hi : X.N[i]? = some x) (hx : Loc X.env.scope x) (hf : X.fn x = true ∨ X.env.scope.names.lookup x = some .local) : SG X W (.Name x pos) (gVar i) :=
  (pg_name hN hi hx hf).imp fun v σ H Q ⟨env, m, S, d, rE, rel, r, p⟩ => p.ok rel _ (rE.set i r)
def gsNil : EvGs := fun ds env S => match ds with
  | [] => .ok env S
  | _ => .bad
def gsCons (g : EvG) (gs : EvGs) : EvGs := fun ds env S => match ds with
  | d :: r => (g d env S).bind fun env1 S1 => gs r env1 S1
  | [] => .bad
theorem sgs_nil : SGs X W [] gsNil := pgs_nil.imp fun vs σ H Q ⟨env, m, S, ds, rE, rel, r, p⟩ => by
  unfold gsNil at p
  split at p
  · cases r
    exact ⟨rfl, p.ok rel _ rE⟩
  · exact p.elim
theorem sgs_cons {es : List Expr} {g : EvG} {gs : EvGs} (h1 : SG X W e g) (h2 : SGs X W es gs) (hs : (assignEach (e :: es) X.env).map (·.2) = assign e X.env :: (assignEach es X.env).map (·.2)) : SGs X W (e :: es) (gsCons g gs) :=
  (pgs_cons h1 h2 hs).imp fun vs σ H Q ⟨env, m, S, ds, rE, rel, r, p⟩ => by
    unfold gsCons at p
    split at p
    · cases r with
      | cons r1 t => exact ⟨_, _, rfl, env, m, S, _, rE, rel, r1, p.bind.mono fun m1 S1 H1 env1 A1 rel1 p1 σ1 rE1 => ⟨env1, m1, S1, _, rE1, rel1, RVs.aft A1 t, p1⟩⟩
    · exact p.elim
def gTupD (n : Nat) (gs : EvGs) : EvG := fun d env S => match d with
  | .im (.tuple ds) => if ds.length = n then gs (ds.map .im) env S else .bad
  | _ => .bad
theorem sg_tup {es : List Expr} {k : Nat} {gs : EvGs} {n : Nat} (hc : X.calm = true) (h : SGs X W es gs) (hn : (assignEach es X.env).length = n) (hst : (assignEach es X.env).findIdx? (·.1) = none) : SG X W (.Tuple es k pos) (gTupD n gs) :=
  (pg_tup hc h hn hst).imp fun v σ H Q ⟨env, m, S, d, rE, rel, r, p⟩ => by
    unfold gTupD at p
    split at p
    · cases r with
      | tup fz q =>
        split at p
        · rename_i hl
          exact ⟨_, _, rfl, fz.sq, by rw [RDs.length q]; exact hl, env, m, S, _, rE, rel, q.pair, p⟩
        · exact p.elim
    · exact p.elim
/-- o.f = .. -/
theorem pg_fld {to : TE} {f : Str} (ho : PE X o to) : PG X (.Attribute o f pos) (fun v σ H Q => to σ H fun x H1 => ∃ a C dx fs, x = .ref a ∧ H1 a = some (.ins C dx fs) ∧ Cls X.K C ∧ NoAttr X.K C f ∧ fs.length < 1000 ∧ Q σ (upd H1 a (.ins C dx (putF f v fs)))) := by
  refine ⟨fun pins s σ H v u Q I r h => ?_⟩
  rw [assign_Attribute]
  refine wpAny_bind (wpAny_holding (thn (ho.run pins s σ H _ I h) fun ov s1 ⟨x, H1, I1, rx, a, C, dx, fs, ex, ea, c, n, l, q⟩ => ?_))
  subst ex
  obtain rfl : ov = Value.ref a := rx
  refine wpAny_bind (wpAny_standAt (wpAny_bind (wpAny_holding (setattr_ok I1 ea c n l r fun s3 I3 => ?_))))
  exact wpAny_release ⟨σ, _, I3, q⟩
def gFld (kn : Str → Str → Bool) (f : Str) (fo : EvE) : EvG := fun d env S => (fo env S).bind fun ov S1 => (setFldD kn f ov d S1).bind fun _ S2 => .ok env S2
theorem sg_fld {kn : Str → Str → Bool} {f : Str} (hk : Kn X.K kn) (ho : SE X W o fo) : SG X W (.Attribute o f pos) (gFld kn f fo) :=
  (pg_fld ho).imp fun v σ H Q ⟨env, m, S, d, rE, rel, r, p⟩ => ⟨env, m, S, rE, rel, p.bind.mono fun m1 S1 H1 ov A1 rel1 p1 v1 r1 => by
    obtain ⟨ad, C, dx, fs, S2, e1, e2, e3, e4, e5, rel2, A2, q⟩ := setFld_ok hk rel1 r1 (RV.aft A1 r) p1.bind
    exact ⟨ad, C, dx, fs, e1, e2, e3, e4, e5, q.ok rel2 _ (rE.aft (A1.trans A2))⟩⟩
/-- o[i] = .., a list -/
def setItD (o i v : Val) (S : Sto) : R Unit := match o, i with
  | .ref h, .im (.int k) => match S.objs[h]? with
    | some (.lst xs) => match ixN xs.length k with
      | some j => .ok () (putO S h (.lst (xs.set j v)) v.isRef)
      | none => .bad
    | _ => .bad
  | _, _ => .bad
def gIt (fo fi : EvE) : EvG := fun d env S => (fo env S).bind fun ov S1 => (fi env S1).bind fun iv S2 => (setItD ov iv d S2).bind fun _ S3 => .ok env S3
theorem set_refs {xs : List Val} {v : Val} {j : Nat} (h : v.isRef = false) : ∀ r ∈ (Obj.lst (xs.set j v)).refs, r ∈ (Obj.lst xs).refs := fun r hr => by
  have hr : r ∈ (xs.set j v).flatMap Val.refs := hr
  show r ∈ xs.flatMap Val.refs
  obtain ⟨z, hz, hz2⟩ := List.mem_flatMap.mp hr
  rcases List.mem_or_eq_of_mem_set hz with q | q
  · exact List.mem_flatMap.mpr ⟨z, q, hz2⟩
  · rw [q, Val.refs_nil h] at hz2; cases hz2
theorem sg_it {i : Expr} {fi : EvE} (ho : SE X W o fo) (hi : SE X W i fi) (ha : ∀ v, assign (.Subscript o i pos) X.env v = (do
      let ov ← holding [v] (eval o X.env)
      let iv ← holding [v, ov] (eval i X.env)
      standAt pos
      holding [v, ov, iv] (setItem ov iv v)
      release [v, ov, iv] [])) : SG X W (.Subscript o i pos) (gIt fo fi) :=
  (pg_sub ho hi set_list ha).imp fun v σ H Q ⟨env, m, S, d, rE, rel, r, p⟩ => ⟨env, m, S, rE, rel, p.bind.mono fun m1 S1 H1 ov A1 rel1 p1 v1 r1 => ⟨env, m1, S1, rE.aft A1, rel1, p1.bind.mono fun m2 S2 H2 iv A2 rel2 p2 v2 r2 => by
    have p3 := p2.bind
    unfold setItD at p3
    split at p3
    · rename_i h k
      cases r2
      split at p3
      · rename_i xs hx
        obtain ⟨ad, rfl, e, vs, hv, rv⟩ := live_obj rel2 (RV.aft A2 r1) hx (fun z => nomatch z)
        split at p3
        · rename_i j hj
          have hf : d.isRef = false → ∀ r ∈ (Obj.lst (xs.set j d)).refs, r ∈ (Obj.lst xs).refs := set_refs
          have A := Aft.put (H := H2) (o' := .lst (vs.set j v)) e hx hf
          have rd := RV.aft (A1.trans A2) r
          have R' := rel2.put (o' := .lst (vs.set j v)) e hx hf ⟨_, upd_same, Paired.set j (RVs.aft A rv) (RV.aft A rd)⟩
          exact ⟨ad, vs, k, j, rfl, rfl, hv, by rw [paired_len rv]; exact hj, (p3 m2 _ A R').ok R' _ (rE.aft ((A1.trans A2).trans A))⟩
        · exact p3.elim
      · exact p3.elim
    · exact p3.elim⟩⟩
/-! ### statements -/
def sAsg (fe : EvE) (g : EvG) : EvS := fun env S => (fe env S).bind fun d S1 => (g d env S1).bind fun env1 S2 => .ok (.nx env1) S2
theorem ss_asg {tg : Expr} {g : EvG} (he : SE X W e fa) (hg : SG X W tg g) (hs : swapsWithSole [tg] e pos.line X.env = pure false) (hw : swappedStores [tg] e X.env = pure none) (h1 : (assignEach [tg] X.env).map (·.2) = [assign tg X.env]) : SS X W (.Assign [tg] e pos) (sAsg fa g) :=
  (ps_asg he hg hs hw h1).imp fun D σ H ⟨env, m, S, rE, rel, p⟩ => ⟨env, m, S, rE, rel, p.bind.mono fun m1 S1 H1 d A1 rel1 p1 v1 r1 =>
    ⟨env, m1, S1, d, rE.aft A1, rel1, r1, p1.bind.mono fun m2 S2 H2 env2 A2 rel2 p2 σ2 rE2 => p2.ok rel2 _ rE2⟩⟩
/-- a, b = x, y with plain local names -/
def sPar (i j : Nat) (ga : EvA) : EvS := fun env S => (ga env S).bind fun ds S1 => match ds with
  | [d, e] => .ok (.nx ((env.set i (some d)).set j (some e))) S1
  | _ => .bad
theorem RVs.two' {K : PySem.W.Frag} {H : Hp} {m : Mp} {d d2 : Val} {vs : List V} (h : RVs K H m [d, d2] vs) : ∃ v v2, vs = [v, v2] ∧ RV K H m d v ∧ RV K H m d2 v2 := h.two
theorem RVs.three {K : PySem.W.Frag} {H : Hp} {m : Mp} {d d2 d3 : Val} {vs : List V} (h : RVs K H m [d, d2, d3] vs) : ∃ v v2 v3, vs = [v, v2, v3] ∧ RV K H m d v ∧ RV K H m d2 v2 ∧ RV K H m d3 v3 := by
  cases h with
  | cons r t => obtain ⟨v2, v3, rfl, r2, r3⟩ := RVs.two t; exact ⟨_, _, _, rfl, r, r2, r3⟩
theorem ss_par {i j : Nat} {x y : Str} {px py pt : Pos} {kt k2 pt2} (hc : X.calm = true) (hN : X.N.Nodup) (hi : X.N[i]? = some x) (hj : X.N[j]? = some y) (hij : i ≠ j)
    (hx : X.env.scope.names.lookup x = some .local) (hy : X.env.scope.names.lookup y = some .local) (ha : SA X W [a, b] ga)
    (hw : swappedStores [.Tuple [.Name x px, .Name y py] kt pt] (.Tuple [a, b] k2 pt2) X.env = pure (some [x, y]))
    (hs : swapsWithSole [.Tuple [.Name x px, .Name y py] kt pt] (.Tuple [a, b] k2 pt2) pos.line X.env = pure false) :
    SS X W (.Assign [.Tuple [.Name x px, .Name y py] kt pt] (.Tuple [a, b] k2 pt2) pos) (sPar i j ga) :=
  (ps_par hc hN hi hj hij hx hy ha hw hs).imp fun D σ H ⟨env, m, S, rE, rel, p⟩ => ⟨env, m, S, rE, rel, p.bind.mono fun m1 S1 H1 ds A1 rel1 p1 vs r1 => by
    split at p1
    · obtain ⟨v, w, rfl, q1, q2⟩ := r1.two
      exact ⟨v, w, rfl, p1.ok rel1 _ (((rE.aft A1).set i q1).set j q2)⟩
    · exact p1.elim⟩
def sPar3 (i j l : Nat) (ga : EvA) : EvS := fun env S => (ga env S).bind fun ds S1 => match ds with
  | [d, e, f] => .ok (.nx (((env.set i (some d)).set j (some e)).set l (some f))) S1
  | _ => .bad
theorem ss_par3 {i j l : Nat} {x y z : Str} {px py pz pt pos : Pos} {kt k2 pt2} (hc : X.calm = true) (hN : X.N.Nodup) (hi : X.N[i]? = some x) (hj : X.N[j]? = some y) (hl : X.N[l]? = some z) (hij : i ≠ j) (hil : i ≠ l) (hjl : j ≠ l)
    (hx : X.env.scope.names.lookup x = some .local) (hy : X.env.scope.names.lookup y = some .local) (hz : X.env.scope.names.lookup z = some .local) (ha : SA X W [a, b, c] ga)
    (hw : swappedStores [.Tuple [.Name x px, .Name y py, .Name z pz] kt pt] (.Tuple [a, b, c] k2 pt2) X.env = pure (some [x, y, z]))
    (hs : swapsWithSole [.Tuple [.Name x px, .Name y py, .Name z pz] kt pt] (.Tuple [a, b, c] k2 pt2) pos.line X.env = pure false) :
    SS X W (.Assign [.Tuple [.Name x px, .Name y py, .Name z pz] kt pt] (.Tuple [a, b, c] k2 pt2) pos) (sPar3 i j l ga) :=
  (ps_par3 hc hN hi hj hl hij hil hjl hx hy hz ha hw hs).imp fun D σ H ⟨env, m, S, rE, rel, p⟩ => ⟨env, m, S, rE, rel, p.bind.mono fun m1 S1 H1 ds A1 rel1 p1 vs r1 => by
    split at p1
    · obtain ⟨v, w, u, rfl, q1, q2, q3⟩ := r1.three
      exact ⟨v, w, u, rfl, p1.ok rel1 _ ((((rE.aft A1).set i q1).set j q2).set l q3)⟩
    · exact p1.elim⟩
/-- d[k] = v, a dict -/
def putKd {κ : Type} [DecidableEq κ] (kvs : List (κ × Val)) (k : κ) (v : Val) : List (κ × Val) :=
  if (kvs.any fun kv => decide (kv.1 = k)) = true then kvs.map fun kv => if kv.1 = k then (kv.1, v) else kv else kvs ++ [(k, v)]
def setKD (o k v : Val) (S : Sto) : R Unit := match o, keyD k with
  | .ref h, some k => match S.objs[h]? with
    | some (.dct kvs) => if kvs.length < sizeLine then .ok () (putO S h (.dct (putKd kvs k v)) v.isRef) else .bad
    | _ => .bad
  | _, _ => .bad
def sDput (fo fi fv : EvE) : EvS := fun env S => (fv env S).bind fun v S1 => (fo env S1).bind fun o S2 => (fi env S2).bind fun k S3 => (setKD o k v S3).bind fun _ S4 => .ok (.nx env) S4
theorem putK_rel {K : PySem.W.Frag} {H : Hp} {m : Mp} {k : Key} {x : Val} {v : V} (r : RV K H m x v) {kvs : List (Key × Val)} {ws : List (Key × V)} (h : RKs K H m kvs ws) : RKs K H m (putKd kvs k x) (putK ws k v) := by
  have ha : (ws.any fun kv => decide (kv.1 = k)) = kvs.any fun kv => decide (kv.1 = k) := by
    clear r
    induction h with
    | nil => rfl
    | cons q t ih => simp only [List.any_cons, ih, q.1]
  unfold putKd putK
  rw [ha]
  split
  · clear ha
    induction h with
    | nil => exact .nil
    | @cons p q l1 l2 pq t ih =>
      rename_i hh
      have : RKs K H m (List.map (fun kv => if kv.1 = k then (kv.1, x) else kv) l1) (List.map (fun kv => if kv.1 = k then (kv.1, v) else kv) l2) := by
        clear ih hh
        induction t with
        | nil => exact .nil
        | cons q t ih =>
          refine .cons ?_ ih
          obtain ⟨q1, q2⟩ := q
          dsimp only
          rw [q1]
          split
          · exact ⟨rfl, r⟩
          · exact ⟨q1, q2⟩
      refine .cons ?_ this
      obtain ⟨q1, q2⟩ := pq
      dsimp only
      rw [q1]
      split
      · exact ⟨rfl, r⟩
      · exact ⟨q1, q2⟩
  · exact Paired.snoc h ⟨rfl, r⟩
theorem putKd_refs {k : Key} {x : Val} (hx : x.isRef = false) (kvs : List (Key × Val)) : ∀ r ∈ (Obj.dct (putKd kvs k x)).refs, r ∈ (Obj.dct kvs).refs := fun r hr => by
  have hr : r ∈ (putKd kvs k x).flatMap fun p => p.2.refs := hr
  show r ∈ kvs.flatMap fun p => p.2.refs
  obtain ⟨z, hz, hz2⟩ := List.mem_flatMap.mp hr
  unfold putKd at hz
  split at hz
  · obtain ⟨y, hy, e⟩ := List.mem_map.mp hz
    split at e
    · subst e
      rw [Val.refs_nil hx] at hz2; cases hz2
    · subst e
      exact List.mem_flatMap.mpr ⟨y, hy, hz2⟩
  · rcases List.mem_append.mp hz with q | q
    · exact List.mem_flatMap.mpr ⟨z, q, hz2⟩
    · have : z = (k, x) := by simpa using q
      subst this
      rw [Val.refs_nil hx] at hz2; cases hz2
theorem ss_dput {i : Expr} {fi : EvE} (hu : X.A.units + 1 < cLine) (ho : SE X W o fo) (hi : SE X W i fi) (hv : SE X W value fv) (hs : swapsWith value (some (.Subscript o i pos')) pos.line X.env = pure false) : SS X W (.Assign [.Subscript o i pos'] value pos) (sDput fo fi fv) :=
  (ps_dput hu ho hi hv hs).imp fun D σ H ⟨env, m, S, rE, rel, p⟩ => ⟨env, m, S, rE, rel, p.bind.mono fun m1 S1 H1 d A1 rel1 p1 v1 r1 => ⟨env, m1, S1, rE.aft A1, rel1, p1.bind.mono fun m2 S2 H2 ov A2 rel2 p2 v2 r2 =>
    ⟨env, m2, S2, (rE.aft A1).aft A2, rel2, p2.bind.mono fun m3 S3 H3 kv A3 rel3 p3 v3 r3 => by
      have p4 := p3.bind
      unfold setKD at p4
      split at p4
      · rename_i h k hk
        have := key_rel r3 hk
        subst this
        split at p4
        · rename_i kvs hx
          obtain ⟨ad, rfl, e, ws, hw, rk⟩ := live_obj rel3 (RV.aft A3 r2) hx (fun z => nomatch z)
          split at p4
          · rename_i hl
            have hf : d.isRef = false → ∀ r ∈ (Obj.dct (putKd kvs k d)).refs, r ∈ (Obj.dct kvs).refs := fun z => putKd_refs z kvs
            have A := Aft.put (H := H3) (o' := .dK (putK ws k v1)) e hx hf
            have rd := RV.aft (A2.trans A3) r1
            have R' := rel3.put (o' := .dK (putK ws k v1)) e hx hf ⟨_, upd_same, putK_rel (RV.aft A rd) (RKs.aft A rk)⟩
            exact ⟨ad, _, rfl, DPut.k hw (by rw [paired_len rk]; exact hl), (p4 m3 _ A R').ok R' _ (rE.aft (((A1.trans A2).trans A3).trans A))⟩
          · exact p4.elim
        · exact p4.elim
      · exact p4.elim⟩⟩⟩
def sNext : EvS := fun env S => .ok (.nx env) S
def sSeq (f g : EvS) : EvS := fun env S => (f env S).bind fun fl S1 => match fl with
  | .nx env1 => g env1 S1
  | _ => .ok fl S1
theorem sss_nil : SSs X W [] sNext := pss_nil.imp fun D σ H ⟨env, m, S, rE, rel, p⟩ => p.ok rel σ rE
theorem sss_one (h : SS X W st f) : SSs X W [st] f := pss_one h
theorem sss_cons (h1 : SS X W st f) (h2 : SSs X W sts g) : SSs X W (st :: sts) (sSeq f g) :=
  (pss_cons h1 h2).imp fun D σ H ⟨env, m, S, rE, rel, p⟩ => ⟨env, m, S, rE, rel, p.bind.mono fun m1 S1 H1 fl A1 rel1 p1 => by
    cases fl with
    | nx env1 => exact fun σ1 r1 => ⟨env1, m1, S1, r1, rel1, p1⟩
    | rt d => exact Post.ok (K := X.K) (W := W) (Q := FlOk X.K D) rel1 p1
    | bk env1 => exact Post.ok (K := X.K) (W := W) (Q := FlOk X.K D) rel1 p1
    | ct env1 => exact Post.ok (K := X.K) (W := W) (Q := FlOk X.K D) rel1 p1⟩
/-- some names are forgotten behind it -/
def killE (is : List Nat) (env : Env) : Env := is.foldl (fun e i => e.set i none) env
def sKill (is : List Nat) (f : EvS) : EvS := fun env S => (f env S).bind fun fl S1 => match fl with
  | .nx env1 => .ok (.nx (killE is env1)) S1
  | _ => .ok fl S1
theorem RelE.kills {K : PySem.W.Frag} {m : Mp} {H : Hp} {σ : L2.St} : ∀ (is : List Nat) {env : Env}, RelE K H m env σ → RelE K H m (killE is env) σ
  | [], _, h => h
  | i :: is, _, h => RelE.kills is (h.kill i)
theorem ss_kill (is : List Nat) (h : SS X W st f) : SS X W st (sKill is f) :=
  h.imp fun D σ H ⟨env, m, S, rE, rel, p⟩ => ⟨env, m, S, rE, rel, p.bind.mono fun m1 S1 H1 fl A1 rel1 p1 => by
    cases fl with
    | nx env1 => exact fun σ1 r1 => p1.ok rel1 σ1 (r1.kills is)
    | rt d => exact p1.ok rel1
    | bk env1 => exact p1.ok rel1
    | ct env1 => exact p1.ok rel1⟩
def sBreak : EvS := fun env S => .ok (.bk env) S
def sCont : EvS := fun env S => .ok (.ct env) S
theorem ss_pass : SS X W (.Pass pos) sNext := ps_pass.imp fun D σ H ⟨env, m, S, rE, rel, p⟩ => p.ok rel σ rE
theorem ss_break : SS X W (.Break pos) sBreak := ps_break.imp fun D σ H ⟨env, m, S, rE, rel, p⟩ => p.ok rel σ rE
theorem ss_continue : SS X W (.Continue pos) sCont := ps_continue.imp fun D σ H ⟨env, m, S, rE, rel, p⟩ => p.ok rel σ rE
def sExpr (f : EvE) : EvS := fun env S => (f env S).bind fun _ S1 => .ok (.nx env) S1
theorem RD.some {K : PySem.W.Frag} {H : Hp} {m : Mp} : ∀ {d : Val} {o : Val}, True := trivial
theorem ss_expr (he : SE X W e fa) (hs : swapsWith e none pos.line X.env = pure false) : SS X W (.Expr e pos) (sExpr fa) :=
  (ps_expr he hs).imp fun D σ H ⟨env, m, S, rE, rel, p⟩ => ⟨env, m, S, rE, rel, p.bind.mono fun m1 S1 H1 d A1 rel1 p1 v1 r1 => p1.ok rel1 σ (rE.aft A1)⟩
def sRet (f : EvE) : EvS := fun env S => (f env S).bind fun d S1 => .ok (.rt d) S1
theorem ss_ret (he : SE X W e fa) : SS X W (.Return (some e) pos) (sRet fa) :=
  (ps_ret he).imp fun D σ H ⟨env, m, S, rE, rel, p⟩ => ⟨env, m, S, rE, rel, p.bind.mono fun m1 S1 H1 d A1 rel1 p1 v1 r1 => p1.ok rel1 v1 r1⟩
def sRetN : EvS := fun _ S => .ok (.rt (.im .none)) S
theorem ss_retN : SS X W (.Return none pos) sRetN := ps_retN.imp fun D σ H ⟨env, m, S, rE, rel, p⟩ => p.ok rel .non .non
def sIf (c : EvB) (f g : EvS) : EvS := fun env S => (c env S).bind fun b S1 => if b then f env S1 else g env S1
theorem ss_if {cc : EvB} {sa sb : List Stmt} (hc : ST X W c cc) (ha : SSs X W sa f) (hb : SSs X W sb g) : SS X W (.If c sa sb pos) (sIf cc f g) :=
  (ps_if hc ha hb).imp fun D σ H ⟨env, m, S, rE, rel, p⟩ => ⟨env, m, S, rE, rel, p.bind.mono fun m1 S1 H1 d A1 rel1 p1 => by
    cases d with
    | true => exact ⟨env, m1, S1, rE.aft A1, rel1, p1⟩
    | false => exact ⟨env, m1, S1, rE.aft A1, rel1, p1⟩⟩
/-! ### while -/
def whileF (c : EvB) (f : EvS) : Nat → EvS
  | 0, _, _ => .bad
  | n + 1, env, S => (c env S).bind fun b S1 => if b then (f env S1).bind fun fl S2 => match fl with
      | .nx env2 => whileF c f n env2 S2
      | .ct env2 => whileF c f n env2 S2
      | .bk env2 => .ok (.nx env2) S2
      | .rt d => .ok (.rt d) S2
    else .ok (.nx env) S1
def sWhile (c : EvB) (f : EvS) : EvS := fun env S => if h : ∃ n, whileF c f n env S ≠ .bad then whileF c f (Classical.choose h) env S else .bad
theorem ss_while {cc : EvB} {body : List Stmt} (hp : PassesOwn (model X.prog X.w) X.A X.env X.xe) (hc : ST X W c cc) (hb : SSs X W body f) : SS X W (.While c body [] pos) (sWhile cc f) :=
  (ps_while hp hc hb).imp fun D σ H ⟨env, m, S, rE, rel, p⟩ => by
    unfold sWhile at p
    split at p
    · rename_i hh
      refine ⟨fun n σ H => ∃ env m S, RelE X.K H m env σ ∧ Rel X.K m S H ∧ Post X.K W m S H (whileF cc f n env S) (FlOk X.K D), ⟨_, env, m, S, rE, rel, p⟩, ?_⟩
      rintro n σ H ⟨env, m, S, rE, rel, p⟩
      cases n with
      | zero => exact p.elim
      | succ n =>
        refine ⟨env, m, S, rE, rel, p.bind.mono fun m1 S1 H1 b A1 rel1 p1 => ?_⟩
        cases b with
        | false =>
          simp only [Bool.false_eq_true, if_false] at p1 ⊢
          exact p1.ok rel1 _ (rE.aft A1)
        | true =>
          simp only [if_true] at p1 ⊢
          refine ⟨fun σ H => ∃ env m S, RelE X.K H m env σ ∧ Rel X.K m S H ∧ Post X.K W m S H (whileF cc f n env S) (FlOk X.K D), fun σ' H' h => ⟨n, Nat.lt_succ_self n, h⟩, env, m1, S1, rE.aft A1, rel1, p1.bind.mono fun m2 S2 H2 fl A2 rel2 p2 => ?_⟩
          cases fl with
          | nx env2 => exact fun σ2 r2 => ⟨env2, m2, S2, r2, rel2, p2⟩
          | ct env2 => exact fun σ2 r2 => ⟨env2, m2, S2, r2, rel2, p2⟩
          | bk env2 => exact fun σ2 r2 => p2.ok rel2 σ2 r2
          | rt d => exact fun v r2 => p2.ok rel2 v r2
    · exact p.elim
end
theorem whileF_succ (c : EvB) (f : EvS) (n : Nat) (env : Env) (S : Sto) : whileF c f (n + 1) env S = (c env S).bind fun b S1 => if b then (f env S1).bind fun fl S2 => match fl with
      | .nx env2 => whileF c f n env2 S2
      | .ct env2 => whileF c f n env2 S2
      | .bk env2 => .ok (.nx env2) S2
      | .rt d => .ok (.rt d) S2
    else .ok (.nx env) S1 := rfl
theorem whileF_mono {c : EvB} {f : EvS} : ∀ (n : Nat) (env : Env) (S : Sto), whileF c f n env S ≠ .bad → whileF c f (n + 1) env S = whileF c f n env S
  | 0, _, _, h => (h rfl).elim
  | n + 1, env, S, h => by
    rw [whileF_succ] at h
    rw [whileF_succ c f (n + 1), whileF_succ c f n]
    cases hc : c env S with
    | ok b S1 =>
      rw [hc] at h
      simp only [R.bind_ok] at h ⊢
      cases b with
      | false => rfl
      | true =>
        simp only [if_true] at h ⊢
        cases hf : f env S1 with
        | ok fl S2 =>
          rw [hf] at h
          simp only [R.bind_ok] at h ⊢
          cases fl with
          | nx env2 => exact whileF_mono n env2 S2 h
          | ct env2 => exact whileF_mono n env2 S2 h
          | bk env2 => rfl
          | rt d => rfl
        | exc x S2 => rfl
        | bad => rfl
    | exc x S1 => rfl
    | bad => rfl
theorem whileF_le {c : EvB} {f : EvS} {env : Env} {S : Sto} {n : Nat} (h : whileF c f n env S ≠ .bad) : ∀ k, whileF c f (n + k) env S = whileF c f n env S
  | 0 => rfl
  | k + 1 => by
    have ih := whileF_le h k
    rw [← ih, ← Nat.add_assoc]
    exact whileF_mono _ env S (by rw [ih]; exact h)
theorem sWhile_of {c : EvB} {f : EvS} {env : Env} {S : Sto} {n : Nat} (h : whileF c f n env S ≠ .bad) : sWhile c f env S = whileF c f n env S := by
  unfold sWhile
  have hh : ∃ n, whileF c f n env S ≠ .bad := ⟨n, h⟩
  rw [dif_pos hh]
  have h2 := Classical.choose_spec hh
  rcases Nat.le_total n (Classical.choose hh) with l | l
  · obtain ⟨k, e⟩ := Nat.exists_eq_add_of_le l
    rw [e, whileF_le h]
  · obtain ⟨k, e⟩ := Nat.exists_eq_add_of_le l
    have := whileF_le h2 k
    rw [← e] at this
    exact this.symm
end
end MP
set_option Elab.async false
set_option linter.all false
set_option maxRecDepth 100000
namespace MP
open PySem PySem.Spec L2
noncomputable section
open Classical
/-! Part f: for loops -/
/-- what an iterator yields: the items, as long as the guard g holds of the store -/
structure ItOk (K : PySem.W.Frag) (J : It) (items : List Val) (g : Sto → Prop) (m0 : Mp) (S0 : Sto) (H0 : Hp) : Prop where
  stop : ∀ m S H, Aft m0 S0 H0 m S H → Rel K m S H → g S → J.stop items.length H
  go : ∀ (i : Nat) (x : Val) m S H, Aft m0 S0 H0 m S H → Rel K m S H → g S → items[i]? = some x → J.go i H ∧ ∀ v H', J.yld i H v H' → Aft m S H m S H' ∧ Rel K m S H' ∧ RV K H' m x v
abbrev EvI := Env → Sto → R (List Val × (Sto → Prop))
def tI (K : PySem.W.Frag) (W : WX) (f : EvI) : TI := fun σ H R => ∃ env m S, RelE K H m env σ ∧ Rel K m S H ∧ Post K W m S H (f env S) fun m' S' H' p => ∀ J, ItOk K J p.1 p.2 m' S' H' → R J H'
abbrev SI (X : Cx) (W : WX) (tg e : Expr) (f : EvI) : Prop := PI X tg e (tI X.K W f)
def forD (gd : Sto → Prop) (g : EvG) (f : EvS) : List Val → Env → Sto → R Fl
  | [], env, S => if gd S then .ok (.nx env) S else .bad
  | x :: xs, env, S => if gd S then (g x env S).bind fun env1 S1 => (f env1 S1).bind fun fl S2 => match fl with
      | .nx env2 => forD gd g f xs env2 S2
      | .ct env2 => forD gd g f xs env2 S2
      | .bk env2 => .ok (.nx env2) S2
      | .rt d => .ok (.rt d) S2
    else .bad
def sFor (fi : EvI) (g : EvG) (f : EvS) : EvS := fun env S => (fi env S).bind fun p S1 => forD p.2 g f p.1 env S1
section
variable {X : Cx} {W : WX} {a b c e o : Expr} {fa fb fc fo : EvE} {pos : Pos} {es : List Expr} {ga : EvA} {f : EvS} {g : EvG} {tg : Expr} {body : List Stmt}
theorem ss_for {iter : Expr} {fi : EvI} (hp : PassesOwn (model X.prog X.w) X.A X.env X.xe) (hc : X.calm = true) (hi : SI X W tg iter fi) (hg : SG X W tg g) (hb : SSs X W body f) (hs : ∀ x, foldedSetIterable iter X.env x = pure x) : SS X W (.For tg iter body [] pos) (sFor fi g f) :=
  (ps_for hp hc hi hg hb hs).imp fun D σ H ⟨env, m, S, rE, rel, p⟩ => ⟨env, m, S, rE, rel, p.bind.mono fun m0 S0 H0 ⟨items, gd⟩ A0 rel0 p0 J hJ => by
    refine ⟨fun i k σ H => i + k = items.length ∧ ∃ env m S, Aft m0 S0 H0 m S H ∧ RelE X.K H m env σ ∧ Rel X.K m S H ∧ Post X.K W m S H (forD gd g f (items.drop i) env S) (FlOk X.K D),
      ⟨items.length, by omega, env, m0, S0, Aft.refl _ _ _, rE.aft A0, rel0, by simpa using p0⟩, ?_⟩
    rintro i k σ1 H1 ⟨hk, env1, m1, S1, A1, rE1, rel1, p1⟩
    cases k with
    | zero =>
      have hi : i = items.length := by omega
      subst hi
      rw [List.drop_length] at p1
      unfold forD at p1
      split at p1
      · rename_i hgd
        exact .inl ⟨hJ.stop m1 S1 H1 A1 rel1 hgd, p1.ok rel1 σ1 rE1⟩
      · exact p1.elim
    | succ k =>
      have hlt : i < items.length := by omega
      rw [List.drop_eq_getElem_cons hlt] at p1
      unfold forD at p1
      split at p1
      · rename_i hgd
        obtain ⟨jgo, jy⟩ := hJ.go i items[i] m1 S1 H1 A1 rel1 hgd (List.getElem?_eq_getElem hlt)
        refine .inr ⟨jgo, fun σ' H' => ∃ env m S, Aft m0 S0 H0 m S H' ∧ RelE X.K H' m env σ' ∧ Rel X.K m S H' ∧ Post X.K W m S H' (forD gd g f (items.drop (i + 1)) env S) (FlOk X.K D),
          fun σ' H' h => ⟨k, Nat.lt_succ_self k, by omega, h⟩, fun v H' hy => ?_⟩
        obtain ⟨A2, rel2, rv⟩ := jy v H' hy
        refine ⟨env1, m1, S1, _, rE1.aft A2, rel2, rv, (p1.move A2).bind.mono fun m3 S3 H3 env3 A3 rel3 p3 σ3 rE3 => ⟨env3, m3, S3, rE3, rel3, p3.bind.mono fun m4 S4 H4 fl A4 rel4 p4 => ?_⟩⟩
        have A5 := ((A1.trans A2).trans A3).trans A4
        cases fl with
        | nx env4 => exact fun σ4 rE4 => ⟨env4, m4, S4, A5, rE4, rel4, p4⟩
        | ct env4 => exact fun σ4 rE4 => ⟨env4, m4, S4, A5, rE4, rel4, p4⟩
        | bk env4 => exact fun σ4 rE4 => p4.ok rel4 σ4 rE4
        | rt d => exact fun v4 rv4 => p4.ok rel4 v4 rv4
      · exact p1.elim⟩
/-! ### over a list or a tuple -/
theorem it_list {pins : List (Addr × PySem.Obj)} {s : Shared} {σ : L2.St} {H : Hp} {ad : Addr} {xs : List V} {RR : It → Hp → Prop} (I : Inv X pins σ H s) (hq : SqL X.K H ad xs) (h : RR (Itl X.K ad) H) : wpAny (model X.prog X.w) X.A (pyIter (.ref ad)) (PIE X pins σ tg RR) X.xe s := by
  obtain ⟨its, _, pl, _⟩ := I.list hq
  refine wpAny_pyIter_list pl.isList ⟨_, [s.heap.objs.size], _, _, H, rfl, I.kept (t' := s.toks) (fun _ _ q => Heap.get?_push_of_some _ q), turn_list ad _, ⟨_, Heap.get?_push_size _ rfl, rfl, rfl⟩, ?_, h⟩
  intro z hz
  cases List.mem_singleton.mp hz
  exact I.fpOk (Nat.le_refl _) (I.hok.fresh (Nat.le_refl _))
theorem it_tup {pins : List (Addr × PySem.Obj)} {s : Shared} {σ : L2.St} {H : Hp} {ad : Addr} {xs : List V} {RR : It → Hp → Prop} (I : Inv X pins σ H s) (hq : SqT X.K H ad xs) (h : RR (Itt X.K ad) H) : wpAny (model X.prog X.w) X.A (pyIter (.ref ad)) (PIE X pins σ tg RR) X.xe s := by
  obtain ⟨its, _, pl, _⟩ := I.tuple hq
  refine wpAny_pyIter_tuple (show s.heap.IsTuple ad its.toArray from pl) ⟨_, [s.heap.objs.size], _, _, H, rfl, I.kept (t' := s.toks) (fun _ _ q => Heap.get?_push_of_some _ q), turn_tuple ad _, ⟨_, Heap.get?_push_size _ rfl, rfl, rfl⟩, ?_, h⟩
  intro z hz
  cases List.mem_singleton.mp hz
  exact I.fpOk (Nat.le_refl _) (I.hok.fresh (Nat.le_refl _))
theorem pi_seq {tl : TE} (hl : PE X e tl) : PI X tg e (fun σ H RR => tl σ H fun x H1 => ∃ ad xs, x = .ref ad ∧ ((SqL X.K H1 ad xs ∧ RR (Itl X.K ad) H1) ∨ (SqT X.K H1 ad xs ∧ RR (Itt X.K ad) H1))) := by
  refine ⟨fun pins s σ H RR I h => thn (hl.run pins s σ H _ I h) fun v s1 ⟨x, H1, I1, r1, ad, xs, ex, q⟩ => ?_⟩
  subst ex
  cases r1
  rcases q with ⟨h1, h2⟩ | ⟨h1, h2⟩
  · exact it_list I1 h1 h2
  · exact it_tup I1 h1 h2
def seqI (d : Val) (S : Sto) : R (List Val × (Sto → Prop)) := match d with
  | .im (.tuple xs) => .ok (xs.map .im, fun _ => True) S
  | .im (.list xs) => .ok (xs.map .im, fun _ => True) S
  | .ref h => match S.objs[h]? with
    | some (.lst xs) => .ok (xs, fun S' => S'.objs[h]? = some (.lst xs)) S
    | _ => .bad
  | _ => .bad
def iSeq (fa : EvE) : EvI := fun env S => (fa env S).bind seqI
/-- the three kinds of a sequence that stands still -/
theorem seqI_ok {K : PySem.W.Frag} {m : Mp} {S : Sto} {H : Hp} {d : Val} {v : V} {Q : Mp → Sto → Hp → List Val × (Sto → Prop) → Prop} (rel : Rel K m S H) (r : RV K H m d v) (p : Post K W m S H (seqI d S) Q) :
    ∃ ad xs its gd, v = .ref ad ∧ Q m S H (its, gd) ∧ ((SqT K H ad xs ∧ ∀ m' S' H', Aft m S H m' S' H' → Rel K m' S' H' → gd S' → SqT K H' ad xs ∧ RVs K H' m' its xs) ∨ (SqL K H ad xs ∧ ∀ m' S' H', Aft m S H m' S' H' → Rel K m' S' H' → gd S' → ∃ xs', SqL K H' ad xs' ∧ RVs K H' m' its xs')) := by
  unfold seqI at p
  split at p
  · cases r with
    | @tup ad vs ds fz q => exact ⟨ad, vs, _, _, rfl, p.ok rel, .inl ⟨fz.sq, fun m' S' H' A _ _ => ⟨(fz.aft A).sq, RVs.aft A q.pair⟩⟩⟩
  · cases r with
    | @lst ad vs ds fz q => exact ⟨ad, vs, _, _, rfl, p.ok rel, .inr ⟨fz.sq, fun m' S' H' A _ _ => ⟨vs, (fz.aft A).sq, RVs.aft A q.pair⟩⟩⟩
  · rename_i h
    split at p
    · rename_i xs hx
      obtain ⟨ad, rfl, e, vs, hv, rv⟩ := live_obj rel r hx (fun z => nomatch z)
      refine ⟨ad, vs, _, _, rfl, p.ok rel, .inr ⟨.of hv, fun m' S' H' A rel' hg => ?_⟩⟩
      rcases A.pre h _ e with q | q
      · obtain ⟨o, e2, ro⟩ := rel'.obj h ad q
        have hg : S'.objs[h]? = some (.lst xs) := hg
        rw [hg] at e2; cases e2
        obtain ⟨vs', h1, h2⟩ := ro
        exact ⟨vs', .of h1, h2⟩
      · have := rel'.dead h q
        have hg : S'.objs[h]? = some (.lst xs) := hg
        rw [hg] at this; cases this
    · exact p.elim
  · exact p.elim
theorem SqT_inj {K : PySem.W.Frag} {m : Mp} {S : Sto} {H : Hp} : True := trivial
theorem itt_ok {K : PySem.W.Frag} {m0 : Mp} {S0 : Sto} {H0 : Hp} {ad : Addr} {xs : List V} {its : List Val} {gd : Sto → Prop} (h : ∀ m' S' H', Aft m0 S0 H0 m' S' H' → Rel K m' S' H' → gd S' → SqT K H' ad xs ∧ RVs K H' m' its xs) : ItOk K (Itt K ad) its gd m0 S0 H0 where
  stop := fun m S H A rel hg => let ⟨h1, h2⟩ := h m S H A rel hg; ⟨xs, h1, Nat.le_of_eq (paired_len h2)⟩
  go := fun i x m S H A rel hg e => by
    obtain ⟨h1, h2⟩ := h m S H A rel hg
    obtain ⟨y, hy, r⟩ := Paired.get h2 e
    refine ⟨⟨xs, y, h1, hy⟩, fun v H' hyl => ?_⟩
    obtain ⟨e1, e2⟩ := hyl
    subst e1
    have := e2 xs h1
    rw [hy] at this
    cases this
    exact ⟨Aft.refl _ _ _, rel, r⟩
theorem itl_ok {K : PySem.W.Frag} {m0 : Mp} {S0 : Sto} {H0 : Hp} {ad : Addr} {its : List Val} {gd : Sto → Prop} (h : ∀ m' S' H', Aft m0 S0 H0 m' S' H' → Rel K m' S' H' → gd S' → ∃ xs, SqL K H' ad xs ∧ RVs K H' m' its xs) : ItOk K (Itl K ad) its gd m0 S0 H0 where
  stop := fun m S H A rel hg => let ⟨xs, h1, h2⟩ := h m S H A rel hg; ⟨xs, h1, Nat.le_of_eq (paired_len h2)⟩
  go := fun i x m S H A rel hg e => by
    obtain ⟨xs, h1, h2⟩ := h m S H A rel hg
    obtain ⟨y, hy, r⟩ := Paired.get h2 e
    refine ⟨⟨xs, y, h1, hy⟩, fun v H' hyl => ?_⟩
    obtain ⟨e1, e2⟩ := hyl
    subst e1
    have := e2 xs h1
    rw [hy] at this
    cases this
    exact ⟨Aft.refl _ _ _, rel, r⟩
theorem si_seq (he : SE X W e fa) : SI X W tg e (iSeq fa) :=
  (pi_seq he).imp fun σ H RR ⟨env, m, S, rE, rel, p⟩ => ⟨env, m, S, rE, rel, p.bind.mono fun m1 S1 H1 d A1 rel1 p1 v1 r1 => by
    obtain ⟨ad, xs, its, gd, rfl, q, h⟩ := seqI_ok rel1 r1 p1
    rcases h with ⟨h1, h2⟩ | ⟨h1, h2⟩
    · exact ⟨ad, xs, rfl, .inr ⟨h1, q _ (itt_ok h2)⟩⟩
    · exact ⟨ad, xs, rfl, .inl ⟨h1, q _ (itl_ok h2)⟩⟩⟩
/-! ### over a range -/
def rngC (lo c : Int) (n : Nat) : List Val := (List.range n).map fun (i : Nat) => .im (.int (lo + (i : Int) * c))
def rngL (lo : Int) (n : Nat) : List Val := (List.range n).map fun (i : Nat) => .im (.int (lo + (i : Int)))
def SmallI (i : Int) : Prop := -(2 ^ 62) ≤ i ∧ i < 2 ^ 62
def rng1 (ds : List Val) (S : Sto) : R (List Val × (Sto → Prop)) := match ds with
  | [.im (.int j)] => if SmallI j then .ok (rngL 0 j.toNat, fun _ => True) S else .bad
  | _ => .bad
def rng2 (ds : List Val) (S : Sto) : R (List Val × (Sto → Prop)) := match ds with
  | [.im (.int i), .im (.int j)] => if SmallI i ∧ SmallI j then .ok (rngL i (j - i).toNat, fun _ => True) S else .bad
  | _ => .bad
/-- downward by ones -/
def rng3 (ds : List Val) (S : Sto) : R (List Val × (Sto → Prop)) := match ds with
  | [.im (.int i), .im (.int j), .im (.int c)] => if SmallI i ∧ SmallI j ∧ c = -1 then .ok (rngC i (-1) (i - j).toNat, fun _ => True) S else .bad
  | _ => .bad
def iRng (rg : List Val → Sto → R (List Val × (Sto → Prop))) (ga : EvA) : EvI := fun env S => (ga env S).bind rg
theorem rngL_get {lo : Int} {n i : Nat} {x : Val} (e : (rngL lo n)[i]? = some x) : i < n ∧ x = .im (.int (lo + (i : Int))) := by
  have hi : i < n := by
    have := (List.getElem?_eq_some_iff.mp e).1
    simpa [rngL] using this
  have e' : (rngL lo n)[i]? = some (.im (.int (lo + (i : Int)))) := by
    unfold rngL
    rw [List.getElem?_map, List.getElem?_range hi]
    rfl
  rw [e'] at e; cases e
  exact ⟨hi, rfl⟩
theorem rngC_get {lo c : Int} {n i : Nat} {x : Val} (e : (rngC lo c n)[i]? = some x) : i < n ∧ x = .im (.int (lo + (i : Int) * c)) := by
  have hi : i < n := by
    have := (List.getElem?_eq_some_iff.mp e).1
    simpa [rngC] using this
  have e' : (rngC lo c n)[i]? = some (.im (.int (lo + (i : Int) * c))) := by
    unfold rngC
    rw [List.getElem?_map, List.getElem?_range hi]
    rfl
  rw [e'] at e; cases e
  exact ⟨hi, rfl⟩
theorem itr_ok {K : PySem.W.Frag} {m0 : Mp} {S0 : Sto} {H0 : Hp} {gd : Sto → Prop} (lo : Int) (n : Nat) : ItOk K (Itr lo n) (rngL lo n) gd m0 S0 H0 where
  stop := fun m S H A rel hg => by
    show n ≤ (rngL lo n).length
    simp [rngL]
  go := fun i x m S H A rel hg e => by
    obtain ⟨hi, rfl⟩ := rngL_get e
    refine ⟨hi, fun v H' hyl => ?_⟩
    obtain ⟨e1, e2⟩ := hyl
    subst e1 e2
    exact ⟨Aft.refl _ _ _, rel, .int _⟩
theorem itc_ok {K : PySem.W.Frag} {m0 : Mp} {S0 : Sto} {H0 : Hp} {gd : Sto → Prop} (lo c : Int) (n : Nat) : ItOk K (Itc lo c n) (rngC lo c n) gd m0 S0 H0 where
  stop := fun m S H A rel hg => by
    show n ≤ (rngC lo c n).length
    simp [rngC]
  go := fun i x m S H A rel hg e => by
    obtain ⟨hi, rfl⟩ := rngC_get e
    refine ⟨hi, fun v H' hyl => ?_⟩
    obtain ⟨e1, e2⟩ := hyl
    subst e1 e2
    exact ⟨Aft.refl _ _ _, rel, .int _⟩
theorem si_range1 {p : Pos} (hg : Gl X "range") (hm : X.mg "range" = none) (ha : SA X W [a] ga) (hs : starEach [a] X.env = [(false, eval a X.env)]) : SI X W tg (.Call (.Name "range" p) [a] [] pos) (iRng rng1 ga) :=
  (pi_range1 hg hm ha hs).imp fun σ H RR ⟨env, m, S, rE, rel, p⟩ => ⟨env, m, S, rE, rel, p.bind.mono fun m1 S1 H1 ds A1 rel1 p1 vs r1 => by
    unfold rng1 at p1
    split at p1
    · obtain ⟨v, rfl, r⟩ := r1.one
      cases r
      split at p1
      · rename_i c
        exact ⟨_, rfl, c.1, c.2, p1.ok rel1 _ (itr_ok 0 _)⟩
      · exact p1.elim
    · exact p1.elim⟩
theorem si_range2 {p : Pos} (hg : Gl X "range") (hm : X.mg "range" = none) (ha : SA X W [a, b] ga) (hs : starEach [a, b] X.env = [(false, eval a X.env), (false, eval b X.env)]) (hs2 : starEach [b] X.env = [(false, eval b X.env)]) : SI X W tg (.Call (.Name "range" p) [a, b] [] pos) (iRng rng2 ga) :=
  (pi_range2 hg hm ha hs hs2).imp fun σ H RR ⟨env, m, S, rE, rel, p⟩ => ⟨env, m, S, rE, rel, p.bind.mono fun m1 S1 H1 ds A1 rel1 p1 vs r1 => by
    unfold rng2 at p1
    split at p1
    · obtain ⟨v, v2, rfl, r, r2⟩ := r1.two
      cases r; cases r2
      split at p1
      · rename_i c
        exact ⟨_, _, rfl, ⟨c.1.1, c.1.2, c.2.1, c.2.2⟩, p1.ok rel1 _ (itr_ok _ _)⟩
      · exact p1.elim
    · exact p1.elim⟩
theorem si_range3 {p : Pos} (hg : Gl X "range") (hm : X.mg "range" = none) (ha : SA X W [a, b, c] ga) (hs : starEach [a, b, c] X.env = (false, eval a X.env) :: starEach [b, c] X.env) (hpl : (backTo pos (starEach [b, c] X.env)).any (·.1) = false) : SI X W tg (.Call (.Name "range" p) [a, b, c] [] pos) (iRng rng3 ga) :=
  (pi_range3 hg hm ha hs hpl).imp fun σ H RR ⟨env, m, S, rE, rel, p⟩ => ⟨env, m, S, rE, rel, p.bind.mono fun m1 S1 H1 ds A1 rel1 p1 vs r1 => by
    unfold rng3 at p1
    split at p1
    · obtain ⟨v, v2, v3, rfl, r, r2, r3⟩ := r1.three
      cases r; cases r2; cases r3
      split at p1
      · rename_i q
        obtain ⟨q1, q2, q3⟩ := q
        subst q3
        exact ⟨_, _, _, _, rfl, RgC.neg q1.1 q1.2 q2.1 q2.2, p1.ok rel1 _ (itc_ok _ _ _)⟩
      · exact p1.elim
    · exact p1.elim⟩
/-! ### enumerate -/
/-- enumerate over a tuple: the library's two lemmas about a tuple's iterator -/
theorem meets_enum1 {v : Value} {o : PySem.Obj} {HH : Heap → Prop} (B : Begins v o HH) :
    Meets (Builtin.«enumerate.__new__» ⟨[.type "enumerate", v], []⟩) (fun _ RR s => HH s.heap ∧
      RR (.ok (.ret (.ref (s.heap.push o).objs.size))) { s with heap := (s.heap.push o).push { cls := .type "enumerate", data := .fields #[.none, .bool false, .ref s.heap.objs.size, rawInt 0, .none, .none] } }) :=
  .of_wp fun prog w A RR s h => by
    obtain ⟨hp, gs, dr, tk, os⟩ := s
    obtain ⟨h1, h⟩ := h
    have hsub := sub_enumerate
    have q1 : ∀ {A' : Around} {E : Value → Shared → Prop} {Q : Value → Shared → Prop}, Q (.ref hp.objs.size) ⟨hp.push o, gs, dr, tk, os⟩ → wpAny (model prog w) A' (pyIter v) Q E ⟨hp, gs, dr, tk, os⟩ := fun q => B.iter prog w _ _ ⟨hp, gs, dr, tk, os⟩ _ h1 q
    wp_walk using q1
    refine wpAny_stack_any (fun z => wpAny_pure ?_)
    split
    · rename_i cc _ _ _ _ _
      cases (cc == Value.type "enumerate") <;> (wp_walk using q1; exact ⟨_, rfl, h⟩)
    · wp_walk using q1
      exact ⟨_, rfl, h⟩
theorem call_enum1 {prog : Program} {w : World} {A : Around} {E : Value → Shared → Prop} {s : Shared} {v : Value} {o : PySem.Obj} {HH : Heap → Prop} {Q : Value → Shared → Prop} (B : Begins v o HH) (h1 : HH s.heap)
    (h : ∀ h', IsEnum h' (s.heap.objs.size + 1) s.heap.objs.size 0 .none → h'.get? s.heap.objs.size = some o → (∀ b u, s.heap.get? b = some u → h'.get? b = some u) → Q (.ref (s.heap.objs.size + 1)) { s with heap := h' }) :
    wpAny (model prog w) A (call (.type "enumerate") [v]) Q E s := by
  refine callType_new F.called_enumerate (by decide) (F.typeCall_enumerate_1 _) (F.newCall_enumerate_1 _) (fun ob => F.args_object_init_2 ob _) F.entry_enumerate_new (meets_enum1 B) ⟨h1, ?_⟩
  have z : (s.heap.push o).objs.size = s.heap.objs.size + 1 := Heap.size_push ..
  have he := Heap.get?_push_size (s.heap.push o) (o := { cls := .type "enumerate", data := .fields #[.none, .bool false, .ref s.heap.objs.size, rawInt 0, .none, .none] }) rfl
  rw [z] at he
  refine ⟨⟨_, by rw [z]; exact he, rfl⟩, ?_⟩
  rw [z]
  exact h _ he (Heap.get?_push_of_some _ (Heap.get?_push_size _ B.free)) fun b u x => Heap.get?_push_of_some _ (Heap.get?_push_of_some _ x)
def IteT (K : PySem.W.Frag) (a : Addr) : It where
  go := fun i H => ∃ (xs : List V) (x : V), SqT K H a xs ∧ xs[i]? = some x
  yld := fun i H v H' => ∃ T x, v = .ref T ∧ H T = none ∧ H' = upd H T (.tup [.int (i : Nat), x]) ∧ ∀ xs, SqT K H a xs → xs[i]? = some x
  stop := fun i H => ∃ xs : List V, SqT K H a xs ∧ xs.length = i
theorem turn_enumT {P : Program} {w : World} {K : PySem.W.Frag} {elts : List Expr} {kk : Nat} {tpos : Pos} (a e it : Addr) :
    Turn P w K (.Tuple elts kk tpos) (IteT K a) [e, it] e (fun i h => (∃ old, IsEnum h e it (i : Nat) old) ∧ h.IsTupleIter it a i ∧ e ≠ it ∧ a ≠ it ∧ a ≠ e) where
  mem := List.mem_cons_self
  obj := fun i h st b hb => by
    obtain ⟨⟨old, he⟩, ⟨o, ho, _, hd⟩, _⟩ := st
    rcases List.mem_cons.mp hb with rfl | hb
    · exact ⟨_, he, fun v q => nomatch q⟩
    · cases List.mem_singleton.mp hb
      exact ⟨o, ho, fun v q => by rw [hd] at q; cases q⟩
  keep := fun i h h' st k => by
    obtain ⟨⟨old, he⟩, hi, hne⟩ := st
    exact ⟨⟨old, k e List.mem_cons_self _ he⟩, hi.at fun o q => k it (by simp) o q, hne⟩
  item := by
    intro X hP hw hK hc i pins s σ H E I hf st hg
    subst hP hw hK
    obtain ⟨⟨old, he⟩, hit, hne, hai, hae⟩ := st
    obtain ⟨xs, x, hq, hx⟩ := hg
    obtain ⟨its, rv, p, _⟩ := I.tuple hq
    obtain ⟨u, hu, ru⟩ := rv.get hx
    have hel : e < s.heap.objs.size := Heap.lt_size he
    have hil : it < s.heap.objs.size := by
      obtain ⟨_, q, _⟩ := hit
      exact Heap.lt_size q
    have hlt : i < its.toArray.size := by
      have := (List.getElem?_eq_some_iff.mp hu).1
      simpa using this
    refine wpAny_pyNext_enum_itemD (Draws.tuple (A := X.A.in1) (I.ok.hd hc) it a hai its.toArray) he ⟨hit, p⟩ hlt hne (by simp [hne, Ne.symm hae]) fun y h' tk hy ho hst hT hsz hk => ?_
    have hyu : y = u := by
      have hy : its.toArray[i]? = some y := hy
      rw [List.getElem?_toArray, hu] at hy
      cases hy; rfl
    subst hyu
    refine ⟨_, rfl, wpAny_letOwnedTupleGo_enum (s := { s with heap := h', toks := tk + 1 }) ho fun h2 he2 sb => ?_⟩
    have hT2 := (sb.2 _ (Nat.ne_of_gt hel)).trans hT
    have new : ObjOk X.prog X.w (upd H s.heap.objs.size (.tup [.int (i : Nat), x])) h2 s.heap.objs.size (.tup [.int (i : Nat), x]) := ⟨by show 2 ≤ sizeLine; decide, [.int i tk, y], .cons ⟨_, rfl⟩ (.cons ru .nil), ⟨_, hT2, rfl, _, rfl⟩⟩
    have I1 : Inv X pins σ (upd H s.heap.objs.size (.tup [.int (i : Nat), x])) { s with heap := h2, toks := tk + 1 } :=
      I.turnedNew (ch := [e, it]) (fun b ob hb q => by
        simp only [List.mem_cons, List.not_mem_nil, or_false, not_or] at hb
        exact (sb.2 b hb.1).trans (hk b ob hb.1 hb.2 q)) hf (Nat.le_refl _) new
    have hn := I.hok.fresh (Nat.le_refl s.heap.objs.size)
    refine ⟨.ref s.heap.objs.size, _, I1, rfl, ⟨_, x, rfl, hn, rfl, fun ys hy => ?_⟩, ⟨⟨y, ?_⟩, hst.1.at fun o q => (sb.2 it (Ne.symm hne)).trans q, hne, hai, hae⟩, fun b hb => ?_⟩
    · rw [I.tuple_inj hy hq]; exact hx
    · have e1 : ((i + 1 : Nat) : Int) = (i : Int) + 1 := rfl
      rw [e1]; exact he2
    · have hb' : b < s.heap.objs.size := by
        rcases List.mem_cons.mp hb with rfl | hb
        · exact hel
        · cases List.mem_singleton.mp hb; exact hil
      rw [upd_ne (Nat.ne_of_lt hb')]
      exact (hf b hb).1
  done := by
    intro X hP hw hK hc i pins s σ H E I hf st hg
    subst hP hw hK
    obtain ⟨⟨old, he⟩, hit, hne, hai, hae⟩ := st
    obtain ⟨xs, hq, hx⟩ := hg
    obtain ⟨its, rv, p, _⟩ := I.tuple hq
    obtain ⟨f0, f1, f2, f3, f4, f5⟩ := hf it (by simp)
    have hl : i = its.toArray.size := by rw [List.size_toArray, ← rv.length]; exact hx.symm
    subst hl
    exact wpAny_pyNext_enum_endD (Draws.tuple (A := X.A.in1) (I.ok.hd hc) it a hai its.toArray) he ⟨hit, p⟩ fun h' eb => ⟨rfl, I.turned (t' := s.toks) (fun b o hb q => eb b o hb q) f0 f1 f3 f4 f5⟩
  self := fun A i s Q E st h => let ⟨⟨_, he⟩, _⟩ := st; wpAny_pyIter_enum he h
/-- enumerate of a list or a tuple -/
theorem pi_enumA {ta : TA} {p tpos : Pos} {elts : List Expr} {kk : Nat} (hg : Gl X "enumerate") (hm : X.mg "enumerate" = none) (ha : PA X [e] ta) (hs : starEach [e] X.env = [(false, eval e X.env)]) :
    PI X (.Tuple elts kk tpos) (.Call (.Name "enumerate" p) [e] [] pos) (fun σ H RR => ta σ H fun vs H1 => ∃ ad xs, vs = [.ref ad] ∧ ((SqL X.K H1 ad xs ∧ RR (Ite X.K ad) H1) ∨ (SqT X.K H1 ad xs ∧ RR (IteT X.K ad) H1))) := by
  refine ⟨fun pins s σ H RR I h => ?_⟩
  refine PyProof.Rows.Call_ (ld_blt I hg hm PyProof.Rows.boot_enumerate (PyProof.Rows.callWith_type1 (thn (ha.run pos pins s σ H _ I h) fun us s1 ⟨vs, H1, I1, r1, q1⟩ => ?_) hs rfl))
  obtain ⟨ad, xs, ex, q⟩ := q1
  subst ex
  obtain ⟨u, rfl, rx⟩ := vals1 r1
  cases rx
  have hfree : ∀ b, s1.heap.objs.size ≤ b → FpOk X pins H1 b := fun b hb => I1.fpOk hb (I1.hok.fresh hb)
  have both : ∀ b ∈ [s1.heap.objs.size + 1, s1.heap.objs.size], FpOk X pins H1 b := fun b hb => by
    rcases List.mem_cons.mp hb with rfl | hb
    · exact hfree _ (Nat.le_succ _)
    · cases List.mem_singleton.mp hb; exact hfree _ (Nat.le_refl _)
  rcases q with ⟨hq, q⟩ | ⟨hq, q⟩
  · obtain ⟨its, rv, pl, _⟩ := I1.list hq
    refine call_enum1 (begins_list ad its.toArray) pl.isList fun h' he ho hk => wpAny_pyIter_enum he ?_
    exact ⟨_, [s1.heap.objs.size + 1, s1.heap.objs.size], _, _, H1, rfl, I1.kept (t' := s1.toks) hk, turn_enum ad _ s1.heap.objs.size, ⟨⟨.none, he⟩, ⟨_, ho, rfl, rfl⟩, Nat.succ_ne_self _⟩, both, q⟩
  · obtain ⟨its, rv, pl, _⟩ := I1.tuple hq
    have hlt : ad < s1.heap.objs.size := pl.lt
    refine call_enum1 (begins_tuple ad its.toArray) pl fun h' he ho hk => wpAny_pyIter_enum he ?_
    exact ⟨_, [s1.heap.objs.size + 1, s1.heap.objs.size], _, _, H1, rfl, I1.kept (t' := s1.toks) hk, turn_enumT ad _ s1.heap.objs.size, ⟨⟨.none, he⟩, ⟨_, ho, rfl, rfl⟩, Nat.succ_ne_self _, Nat.ne_of_lt hlt, Nat.ne_of_lt (Nat.lt_succ_of_lt hlt)⟩, both, q⟩
def enumL : Nat → List D → List Val
  | _, [] => []
  | i, d :: r => .im (.tuple [.int i, d]) :: enumL (i + 1) r
theorem enumL_len : ∀ (i : Nat) (ds : List D), (enumL i ds).length = ds.length
  | _, [] => rfl
  | i, d :: r => by simp [enumL, enumL_len (i + 1) r]
theorem enumL_get : ∀ (j i : Nat) (ds : List D), (enumL j ds)[i]? = (ds[i]?).map fun d => .im (.tuple [.int ((j + i : Nat)), d])
  | _, _, [] => by simp [enumL]
  | j, 0, d :: r => by simp [enumL]
  | j, i + 1, d :: r => by
    have := enumL_get (j + 1) i r
    simp only [enumL, List.getElem?_cons_succ, this]
    have e : j + 1 + i = j + (i + 1) := by omega
    rw [e]
def enumI (ds : List Val) (S : Sto) : R (List Val × (Sto → Prop)) := match ds with
  | [d] => (seqI d S).bind fun p S1 => match allIm p.1 with
    | some es => .ok (enumL 0 es, p.2) S1
    | none => .bad
  | _ => .bad
def iEnu (ga : EvA) : EvI := fun env S => (ga env S).bind enumI
theorem enum_item {K : PySem.W.Frag} {m : Mp} {S : Sto} {H : Hp} {T : Addr} {i : Nat} {d : D} {x : V} (rel : Rel K m S H) (r : RD K H m d x) (hT : H T = none) : Aft m S H m S (upd H T (.tup [.int (i : Nat), x])) ∧ Rel K m S (upd H T (.tup [.int (i : Nat), x])) ∧ RV K (upd H T (.tup [.int (i : Nat), x])) m (.im (.tuple [.int (i : Nat), d])) (.ref T) :=
  ⟨Aft.grow hT, rel.grow hT, .tup (.inl ⟨.inl upd_same, rel.fresh hT⟩) (.cons (.int _) (.cons (RD.aft (Aft.grow (S := S) hT) r) .nil))⟩
theorem si_enum {p tpos : Pos} {elts : List Expr} {kk : Nat} (hg : Gl X "enumerate") (hm : X.mg "enumerate" = none) (ha : SA X W [e] ga) (hs : starEach [e] X.env = [(false, eval e X.env)]) : SI X W (.Tuple elts kk tpos) (.Call (.Name "enumerate" p) [e] [] pos) (iEnu ga) :=
  (pi_enumA hg hm ha hs).imp fun σ H RR ⟨env, m, S, rE, rel, p⟩ => ⟨env, m, S, rE, rel, p.bind.mono fun m1 S1 H1 ds A1 rel1 p1 vs r1 => by
    unfold enumI at p1
    split at p1
    · rename_i d
      obtain ⟨v, rfl, rd⟩ := r1.one
      obtain ⟨ad, xs, its, gd, rfl, q, h⟩ := seqI_ok rel1 rd p1.bind
      dsimp only at q
      split at q
      · rename_i es hes
        rw [allIm_eq hes] at h
        rcases h with ⟨h1, h2⟩ | ⟨h1, h2⟩
        · refine ⟨ad, xs, rfl, .inr ⟨h1, q.ok rel1 _ ⟨fun m S H A rel hgd => ?_, fun i x m S H A rel hgd e => ?_⟩⟩⟩
          · obtain ⟨s1, s2⟩ := h2 m S H A rel hgd
            exact ⟨xs, s1, by rw [enumL_len, paired_len s2, List.length_map]⟩
          · obtain ⟨s1, s2⟩ := h2 m S H A rel hgd
            rw [enumL_get] at e
            obtain ⟨d', hd', e⟩ := Option.map_eq_some_iff.mp e
            subst e
            obtain ⟨y, hy, r⟩ := Paired.get s2 (i := i) (x := .im d') (by rw [List.getElem?_map, hd']; rfl)
            refine ⟨⟨xs, y, s1, hy⟩, fun v H' hyl => ?_⟩
            obtain ⟨T, x, rfl, hT, rfl, hx⟩ := hyl
            have := hx xs s1
            rw [hy] at this
            cases this
            rw [Nat.zero_add]
            exact enum_item rel r hT
        · refine ⟨ad, xs, rfl, .inl ⟨h1, q.ok rel1 _ ⟨fun m S H A rel hgd => ?_, fun i x m S H A rel hgd e => ?_⟩⟩⟩
          · obtain ⟨ys, s1, s2⟩ := h2 m S H A rel hgd
            exact ⟨ys, s1, by rw [enumL_len, paired_len s2, List.length_map]; exact Nat.le_refl _⟩
          · obtain ⟨ys, s1, s2⟩ := h2 m S H A rel hgd
            rw [enumL_get] at e
            obtain ⟨d', hd', e⟩ := Option.map_eq_some_iff.mp e
            subst e
            obtain ⟨y, hy, r⟩ := Paired.get s2 (i := i) (x := .im d') (by rw [List.getElem?_map, hd']; rfl)
            refine ⟨⟨ys, y, s1, hy⟩, fun v H' hyl => ?_⟩
            obtain ⟨T, x, rfl, hT, rfl, hx⟩ := hyl
            have := hx ys s1
            rw [hy] at this
            cases this
            rw [Nat.zero_add]
            exact enum_item rel r hT
      · exact q.elim
    · exact p1.elim⟩
end
end
end MP
set_option Elab.async false
set_option linter.all false
set_option maxRecDepth 100000
namespace MP
open PySem PySem.Spec L2
noncomputable section
open Classical
/-! Part g: functions, methods, instances -/
/-- no exception is wanted -/
abbrev W0 : WX := fun _ _ _ _ => False
def spD (K : PySem.W.Frag) (g : List Val → Sto → R Val) : Sp := fun vs H Q _ => ∃ m S ds, Rel K m S H ∧ RVs K H m ds vs ∧ Post K W0 m S H (g ds S) fun m' _ H' z => ∀ v, RV K H' m' z v → Q v H'
def startE (n : Nat) (ds : List Val) : Env := ds.map some ++ List.replicate (n - ds.length) none
/-- what a body hands back -/
def Fl.out : Fl → Option Val
  | .rt d => some d
  | .nx _ => some (.im .none)
  | _ => none
/-- the call's own objects go; a list that is handed back is frozen -/
def leave (S : Sto) (r : R Fl) : R Val := match r with
  | .ok fl S' => if (S'.esc.all fun t => decide (S.objs.length ≤ t)) = true then match fl.out with
      | some (.im d) => .ok (.im d) ⟨S'.objs.take S.objs.length, S.esc⟩
      | some (.ref h) => if h < S.objs.length then .ok (.ref h) ⟨S'.objs.take S.objs.length, S.esc⟩ else match S'.objs[h]? with
        | some (.lst xs) => match allIm xs with
          | some ds => .ok (.im (.list ds)) ⟨S'.objs.take S.objs.length, S.esc⟩
          | none => .bad
        | _ => .bad
      | none => .bad
    else .bad
  | _ => .bad
/-- the call's own objects stay -/
def stay (S : Sto) (r : R Fl) : R Val := match r with
  | .ok fl S' => match fl.out with
    | some d => .ok d ⟨S'.objs, S'.esc ++ S.esc⟩
    | none => .bad
  | _ => .bad
def fnD (lv : Sto → R Fl → R Val) (np n : Nat) (body : EvS) : List Val → Sto → R Val := fun ds S => if ds.length = np then lv S (body (startE n ds) ⟨S.objs, []⟩) else .bad
/-- what leaving a body asks -/
def LvOk (lv : Sto → R Fl → R Val) : Prop := ∀ (K : PySem.W.Frag) (m : Mp) (S : Sto) (H : Hp) (r : R Fl) (Q : Mp → Sto → Hp → Val → Prop), Rel K m S H → Post K W0 m S H (lv S r) Q →
  Post K W0 m ⟨S.objs, []⟩ H r fun m' S' H' fl => ∃ d, fl.out = some d ∧ ∃ m2 S2 d2, Q m2 S2 H' d2 ∧ ∀ v, RV K H' m' d v → RV K H' m2 d2 v
section
variable {K : PySem.W.Frag} {W : WX} {m m' : Mp} {S S' : Sto} {H H' : Hp}
theorem Rel.esc {l : List Nat} (r : Rel K m S H) : Rel K m ⟨S.objs, l⟩ H := ⟨r.len, r.inj, r.obj, r.dead⟩
theorem take_get {α : Type} {l : List α} {n i : Nat} {x : α} (h : (l.take n)[i]? = some x) : i < n ∧ l[i]? = some x := by
  rw [List.getElem?_take] at h
  split at h
  · exact ⟨by assumption, h⟩
  · cases h
theorem live_take {n : Nat} {a : Addr} (h : live (m.take n) a) : live m a := List.mem_of_mem_take h
mutual
theorem RD.take (n : Nat) : ∀ {d : D} {v : V}, RD K H m d v → RD K H (m.take n) d v
  | _, _, .non => .non
  | _, _, .bl b => .bl b
  | _, _, .int i => .int i
  | _, _, .str x => .str x
  | _, _, .lst f r => .lst (f.imp (fun z => ⟨z.1, fun l => z.2 (live_take l)⟩) id) (RDs.take n r)
  | _, _, .tup f r => .tup (f.imp (fun z => ⟨z.1, fun l => z.2 (live_take l)⟩) id) (RDs.take n r)
theorem RDs.take (n : Nat) : ∀ {ds : List D} {vs : List V}, RDs K H m ds vs → RDs K H (m.take n) ds vs
  | _, _, .nil => .nil
  | _, _, .cons r t => .cons (RD.take n r) (RDs.take n t)
end
theorem RV.take {n : Nat} : ∀ {x : Val} {v : V}, (∀ r ∈ x.refs, r < n) → RV K H m x v → RV K H (m.take n) x v
  | .im _, _, _, h => RD.take n h
  | .ref h, v, hr, q => by
    obtain ⟨o, e, f⟩ := q
    refine ⟨o, ?_, f⟩
    rw [List.getElem?_take_of_lt (hr h (List.mem_singleton.mpr rfl))]
    exact e
theorem RVs.take {n : Nat} : ∀ {xs : List Val} {vs : List V}, (∀ r ∈ xs.flatMap Val.refs, r < n) → RVs K H m xs vs → RVs K H (m.take n) xs vs
  | _, _, _, .nil => .nil
  | _, _, hr, .cons r t => .cons (RV.take (fun z hz => hr z (by rw [List.flatMap_cons]; exact List.mem_append_left _ hz)) r) (RVs.take (fun z hz => hr z (by rw [List.flatMap_cons]; exact List.mem_append_right _ hz)) t)
theorem RKs.take {κ : Type} {n : Nat} : ∀ {xs : List (κ × Val)} {vs : List (κ × V)}, (∀ r ∈ xs.flatMap (fun p => p.2.refs), r < n) → RKs K H m xs vs → RKs K H (m.take n) xs vs
  | _, _, _, .nil => .nil
  | _, _, hr, .cons r t => .cons ⟨r.1, RV.take (fun z hz => hr z (by rw [List.flatMap_cons]; exact List.mem_append_left _ hz)) r.2⟩ (RKs.take (fun z hz => hr z (by rw [List.flatMap_cons]; exact List.mem_append_right _ hz)) t)
theorem RO.take {n : Nat} {o : Obj} {a : Addr} (hr : ∀ r ∈ o.refs, r < n) (h : RO K H m o a) : RO K H (m.take n) o a := by
  cases o with
  | lst xs => obtain ⟨vs, q, r⟩ := h; exact ⟨vs, q, RVs.take hr r⟩
  | dct xs => obtain ⟨vs, q, r⟩ := h; exact ⟨vs, q, RKs.take hr r⟩
  | ins c xs => obtain ⟨dx, vs, q, r⟩ := h; exact ⟨dx, vs, q, RKs.take hr r⟩
  | dead => exact h.elim
theorem RV.lt : ∀ {x : Val} {v : V}, RV K H m x v → ∀ r ∈ x.refs, r < m.length
  | .im _, _, _, r, hr => nomatch hr
  | .ref h, _, q, r, hr => by
    obtain ⟨o, e, _⟩ := q
    have hr : r ∈ [h] := hr
    rw [List.mem_singleton.mp hr]
    exact (List.getElem?_eq_some_iff.mp e).1
theorem RVs.lt : ∀ {xs : List Val} {vs : List V}, RVs K H m xs vs → ∀ r ∈ xs.flatMap Val.refs, r < m.length
  | _, _, .nil, r, hr => nomatch hr
  | _, _, .cons q t, r, hr => by
    rw [List.flatMap_cons] at hr
    rcases List.mem_append.mp hr with z | z
    · exact q.lt r z
    · exact RVs.lt t r z
theorem RKs.lt {κ : Type} : ∀ {xs : List (κ × Val)} {vs : List (κ × V)}, RKs K H m xs vs → ∀ r ∈ xs.flatMap (fun p => p.2.refs), r < m.length
  | _, _, .nil, r, hr => nomatch hr
  | _, _, .cons q t, r, hr => by
    rw [List.flatMap_cons] at hr
    rcases List.mem_append.mp hr with z | z
    · exact q.2.lt r z
    · exact RKs.lt t r z
theorem Rel.refs_lt (r : Rel K m S H) {h : Nat} {o : Obj} (e : S.objs[h]? = some o) : ∀ x ∈ o.refs, x < m.length := by
  have hl : h < m.length := by rw [r.len]; exact (List.getElem?_eq_some_iff.mp e).1
  cases q : m[h] with
  | none =>
    have := r.dead h (by rw [List.getElem?_eq_getElem hl, q])
    rw [e] at this; cases this
    intro x hx; cases hx
  | some a =>
    obtain ⟨o', e', ro⟩ := r.obj h a (by rw [List.getElem?_eq_getElem hl, q])
    rw [e] at e'; cases e'
    cases o with
    | lst xs => obtain ⟨_, _, z⟩ := ro; exact RVs.lt z
    | dct xs => obtain ⟨_, _, z⟩ := ro; exact RKs.lt z
    | ins c xs => obtain ⟨_, _, _, z⟩ := ro; exact RKs.lt z
    | dead => exact ro.elim
/-- the objects of a call are let go -/
theorem Rel.leave (r0 : Rel K m S H) (A : Aft m ⟨S.objs, []⟩ H m' S' H') (r : Rel K m' S' H') (he : ∀ t ∈ S'.esc, S.objs.length ≤ t) : Rel K (m'.take S.objs.length) ⟨S'.objs.take S.objs.length, S.esc⟩ H' ∧ Aft m S H (m'.take S.objs.length) ⟨S'.objs.take S.objs.length, S.esc⟩ H' := by
  have hml := r0.len
  have old : ∀ (h : Nat) (o' : Obj), h < S.objs.length → S'.objs[h]? = some o' → ∃ o, S.objs[h]? = some o ∧ ∀ x ∈ o'.refs, x ∈ o.refs := fun h o' hl e => by
    rcases A.refs h o' (by rw [hml]; exact hl) e with z | z
    · exact absurd hl (Nat.not_lt.mpr (he h z))
    · exact z
  refine ⟨⟨?_, fun h h' a e e' => ?_, fun h a e => ?_, fun h e => ?_⟩, ⟨fun h o e => ?_, A.keep, fun a l => A.new a (live_take l), fun _ z => z, fun h o' hl e => ?_⟩⟩
  · show (m'.take S.objs.length).length = (S'.objs.take S.objs.length).length
    rw [List.length_take, List.length_take, r.len]
  · exact r.inj h h' a (take_get e).2 (take_get e').2
  · obtain ⟨hl, e⟩ := take_get e
    obtain ⟨o, e1, ro⟩ := r.obj h a e
    refine ⟨o, by show (S'.objs.take S.objs.length)[h]? = some o; rw [List.getElem?_take_of_lt hl]; exact e1, RO.take (fun x hx => ?_) ro⟩
    obtain ⟨o0, e0, sub⟩ := old h o hl e1
    rw [← hml]
    exact r0.refs_lt e0 x (sub x hx)
  · obtain ⟨hl, e⟩ := take_get e
    show (S'.objs.take S.objs.length)[h]? = some .dead
    rw [List.getElem?_take_of_lt hl]; exact r.dead h e
  · have hl : h < S.objs.length := by rw [← hml]; exact (List.getElem?_eq_some_iff.mp e).1
    rw [List.getElem?_take_of_lt hl]
    exact A.pre h o e
  · have e : (S'.objs.take S.objs.length)[h]? = some o' := e
    obtain ⟨hl, e⟩ := take_get e
    exact .inr (old h o' hl e)
end
theorem leave_ok : LvOk leave := fun K m S H r Q rel p => by
  cases r with
  | bad => exact p.elim
  | exc x S' => exact p.elim
  | ok fl S' =>
    unfold leave at p
    intro m' H' A r'
    dsimp only at p
    split at p
    · rename_i hesc
      have he : ∀ t ∈ S'.esc, S.objs.length ≤ t := fun t ht => of_decide_eq_true (List.all_eq_true.mp hesc t ht)
      obtain ⟨R2, A2⟩ := rel.leave A r' he
      split at p
      · rename_i d hd
        exact ⟨_, hd, _, _, _, p _ _ A2 R2, fun v rv => RV.take (fun r hr => nomatch hr) rv⟩
      · rename_i h hd
        split at p
        · rename_i hl
          exact ⟨_, hd, _, _, _, p _ _ A2 R2, fun v rv => RV.take (fun r hr => by rw [List.mem_singleton.mp (show r ∈ [h] from hr)]; exact hl) rv⟩
        · rename_i hl
          split at p
          · rename_i xs hx
            split at p
            · rename_i ds hds
              refine ⟨_, hd, _, _, _, p _ _ A2 R2, fun v rv => ?_⟩
              obtain ⟨a, rfl, e, vs, hv, rvs⟩ := live_obj r' rv hx (fun z => nomatch z)
              rw [allIm_eq hds] at rvs
              refine .lst (.inl ⟨.inl hv, fun l => ?_⟩) (RDs.take _ (RDs.of_pair rvs))
              obtain ⟨i, hi⟩ := List.mem_iff_getElem?.mp l
              obtain ⟨hil, hi⟩ := take_get hi
              have := r'.inj i h a hi e
              omega
            · exact p.elim
          · exact p.elim
      · exact p.elim
    · exact p.elim
theorem stay_ok : LvOk stay := fun K m S H r Q rel p => by
  cases r with
  | bad => exact p.elim
  | exc x S' => exact p.elim
  | ok fl S' =>
    unfold stay at p
    intro m' H' A r'
    dsimp only at p
    split at p
    · rename_i d hd
      have A2 : Aft m S H m' ⟨S'.objs, S'.esc ++ S.esc⟩ H' := ⟨A.pre, A.keep, A.new, fun t ht => List.mem_append_right _ ht, fun h o' hl e => (A.refs h o' hl e).imp (fun z => List.mem_append_left _ z) id⟩
      exact ⟨d, hd, _, _, _, p m' H' A2 r'.esc, fun v rv => rv⟩
    · exact p.elim
theorem startE_rel {K : PySem.W.Frag} {H : Hp} {m : Mp} {N : List Str} {ds : List Val} {vs : List V} (h : RVs K H m ds vs) (hl : ds.length ≤ N.length) : RelE K H m (startE N.length ds) (L2.start N vs) := by
  have e := paired_len h
  refine ⟨by simp [startE, L2.start, e], fun i d q => ?_⟩
  unfold startE at q
  unfold L2.start
  by_cases hi : i < ds.length
  · rw [List.getElem?_append_left (by simpa using hi), List.getElem?_map] at q
    cases q1 : ds[i]? with
    | none => rw [q1] at q; cases q
    | some x =>
      rw [q1] at q; cases q
      obtain ⟨v, hv, r⟩ := Paired.get h q1
      exact ⟨v, by rw [List.getElem?_append_left (by simp; omega), List.getElem?_map, hv]; rfl, r⟩
  · rw [List.getElem?_append_right (by simpa using hi)] at q
    rw [List.getElem?_replicate] at q
    split at q <;> cases q
section
variable {P : Program} {w : World} {K : PySem.W.Frag} {mg : Str → Option Value} {base : Heap} {x qual : Str} {params : Arguments} {body : List Stmt} {scope : Scope} {dvs : List V} {kws : List (Str × V)} {f : Addr} {fd : FuncData}
/-- THE RULE for a def -/
theorem fn_ok {lv : Sto → R Fl → R Val} (hlv : LvOk lv) {N ps : List Str} {k : Nat} {fb : EvS} (F : FunD K x qual params body scope dvs kws f fd) (S : FnScope N ps scope)
    (hbody : ∀ (X : Cx), X.prog = P → X.w = w → X.K = K → X.mg = mg → X.base = base → X.N = N → X.env.scope = scope → X.calm = true → (∀ y, X.fn y = true) → Room k X.A → PassesOwn (model X.prog X.w) X.A X.env X.xe → SSs X W0 body fb) :
    FnOk P w K mg base CX0 (k + 1) f fd ps (spD K (fnD lv ps.length N.length fb)) := by
  refine F.ok S (fun vs H Q E ⟨m, St, ds, rel, r, p⟩ => ?_) fun cdv A outer s H vs Q E hr ⟨m, St, ds, rel, r, p⟩ => ?_
  · rw [paired_len r]
    unfold fnD at p
    split at p
    · assumption
    · exact p.elim
  · refine ⟨tS K W0 fb, PSs.nox (hbody (cxOf CX0 P w K mg base N qual scope f cdv A outer s H E).nox rfl rfl rfl rfl rfl rfl rfl rfl (fun _ => rfl) hr PassesOwn.never), ?_⟩
    unfold fnD at p
    split at p
    · rename_i hl
      have hN : ds.length ≤ N.length := by
        have e := congrArg List.length S.pre
        rw [List.length_take] at e
        omega
      refine ⟨_, m, ⟨St.objs, []⟩, startE_rel r hN, rel.esc, (hlv K m St H _ _ rel p).mono fun m' S' H' fl A' rel' ⟨d, hd, m2, S2, d2, q, rr⟩ => ?_⟩
      cases fl with
      | nx env =>
        cases hd
        exact fun σ _ => q _ (rr .non .non)
      | rt d' =>
        cases hd
        exact fun v rv => q v (rr v rv)
      | bk env => cases hd
      | ct env => cases hd
    · exact p.elim
end
section
variable {X : Cx} {W : WX} {a b c e o : Expr} {fa fb fc fo : EvE} {pos : Pos} {es : List Expr} {ga gk : EvA} {k : Nat} {f C : Addr} {fd : FuncData} {ps : List Str} {g : List Val → Sto → R Val} {x m : Str} {p apos : Pos}
theorem Post.w0 {α : Type} {K : PySem.W.Frag} {mm : Mp} {S : Sto} {H : Hp} {r : R α} {Q : Mp → Sto → Hp → α → Prop} (hx : ∀ y S', r ≠ .exc y S') (h : Post K W mm S H r Q) : Post K W0 mm S H r Q := by
  cases r with
  | ok d S' => exact h
  | exc y S' => exact (hx y S' rfl).elim
  | bad => exact h
/-- exceptions of a callee are not followed here -/
def noX {α : Type} (r : R α) : R α := match r with
  | .exc _ _ => .bad
  | r => r
theorem Post.noX {α : Type} {K : PySem.W.Frag} {mm : Mp} {S : Sto} {H : Hp} {r : R α} {Q : Mp → Sto → Hp → α → Prop} (h : Post K W mm S H (noX r) Q) : Post K W0 mm S H r Q := by
  cases r with
  | ok d S' => exact h
  | exc y S' => exact h.elim
  | bad => exact h
def evFn (g : List Val → Sto → R Val) (ga : EvA) : EvE := fun env S => (ga env S).bind fun ds S1 => noX (g ds S1)
theorem se_call (F : FnOk X.prog X.w X.K X.mg X.base CX0 k f fd ps (spD X.K g)) (hr : Room k X.A) (hg : Gl X x) (hm : X.mg x = some (.ref f)) (hk : PySem.W.keepIn X.K (.ref f) = true) (hb : Binds X.K fd ps [])
    (ha : SA X W (e :: es) ga) (hdb : (x == ("__debug__" : Str)) = false) (he : starEach (e :: es) X.env = (false, eval e X.env) :: starEach es X.env) (hpl : (backTo pos (starEach es X.env)).any (·.1) = false) :
    SE X W (.Call (.Name x p) (e :: es) [] pos) (evFn g ga) :=
  (pe_call F hr hg hm hk hb .nil pass0 ha hdb he hpl).imp fun σ H Q ⟨env, mm, S, rE, rel, q⟩ => ⟨env, mm, S, rE, rel, q.bind.mono fun m1 S1 H1 ds A1 rel1 p1 vs r1 => by
    show spD X.K g (vs ++ []) H1 Q E0
    rw [List.append_nil]
    exact ⟨m1, S1, ds, rel1, r1, p1.noX⟩⟩
theorem se_call0 (F : FnOk X.prog X.w X.K X.mg X.base CX0 k f fd ps (spD X.K g)) (hr : Room k X.A) (hg : Gl X x) (hm : X.mg x = some (.ref f)) (hk : PySem.W.keepIn X.K (.ref f) = true) (hb : Binds X.K fd ps []) (hdb : (x == ("__debug__" : Str)) = false) :
    SE X W (.Call (.Name x p) [] [] pos) (evFn g evNil) :=
  (pe_call0 F hr hg hm hk hb .nil pass0 hdb).imp fun σ H Q ⟨env, mm, S, rE, rel, q⟩ => ⟨mm, S, [], rel, .nil, (q.bind.ok rel).noX⟩
/-- o.m(..), o an instance of the class named cn -/
def isIns (cn m : Str) (d : Val) (S : Sto) : Bool := match d with
  | .ref h => match S.objs[h]? with
    | some (.ins c fs) => decide (c = cn) && (fs.lookup m).isNone
    | _ => false
  | _ => false
def evMeth (cn m : Str) (g : List Val → Sto → R Val) (fo : EvE) (ga : EvA) : EvE := fun env S => (fo env S).bind fun d S1 => if isIns cn m d S1 = true then (ga env S1).bind fun ds S2 => noX (g (d :: ds) S2) else .bad
theorem isIns_ok {K : PySem.W.Frag} {mm : Mp} {S : Sto} {H : Hp} {d : Val} {v : V} {cn m : Str} (rel : Rel K mm S H) (r : RV K H mm d v) (h : isIns cn m d S = true) : ∃ a dx fs, v = .ref a ∧ H a = some (.ins (He.ga K cn) dx fs) ∧ fs.lookup m = none := by
  unfold isIns at h
  split at h
  · split at h
    · rename_i c fs ho
      obtain ⟨a, rfl, _, dx, gs, hg, rk⟩ := live_obj rel r ho (fun z => nomatch z)
      obtain ⟨h1, h2⟩ := Bool.and_eq_true_iff.mp h
      have := of_decide_eq_true h1
      subst this
      exact ⟨a, dx, gs, rfl, hg, (lookup_rel rk).2 (Option.isNone_iff_eq_none.mp h2)⟩
    · cases h
  · cases h
theorem se_meth {pl : Sem Bool} {cn : Str} (he : SE X W o fo) (c : Cls X.K (He.ga X.K cn)) (hm : Meth X.K (He.ga X.K cn) m f) (F : FnOk X.prog X.w X.K X.mg X.base CX0 k f fd ps (spD X.K g)) (hr : Room k X.A) (hb : Binds X.K fd ps []) (ha : SA X W (e :: es) ga)
    (hst : starEach (e :: es) X.env = (false, eval e X.env) :: starEach es X.env) (hpl : (backTo pos (starEach es X.env)).any (·.1) = false)
    (ht : eval (.Call (.Attribute o m apos) (e :: es) [] pos) X.env = (do
      let ov ← eval o X.env
      standAt apos.atName
      let (f, first) ← holding [ov] (getMethod ov m pl)
      callWith pos f first (backTo pos (starEach (e :: es) X.env)) (backToKw pos (keywordEach [] X.env)))) :
    SE X W (.Call (.Attribute o m apos) (e :: es) [] pos) (evMeth cn m g fo ga) :=
  (pe_meth he c hm F hr hb .nil pass0 ha hst hpl ht).imp fun σ H Q ⟨env, mm, S, rE, rel, q⟩ => ⟨env, mm, S, rE, rel, q.bind.mono fun m1 S1 H1 d A1 rel1 p1 v1 r1 => by
    split at p1
    · rename_i hi
      obtain ⟨ad, dx, fs, rfl, h1, h2⟩ := isIns_ok rel1 r1 hi
      refine ⟨ad, dx, fs, rfl, h1, h2, env, m1, S1, rE.aft A1, rel1, p1.bind.mono fun m2 S2 H2 ds A2 rel2 p2 vs r2 => ?_⟩
      show spD X.K g (_ :: (vs ++ [])) H2 Q E0
      rw [List.append_nil]
      exact ⟨m2, S2, _, rel2, .cons (RV.aft A2 r1) r2, p2.noX⟩
    · exact p1.elim⟩
theorem se_meth0 {pl : Sem Bool} {cn : Str} (he : SE X W o fo) (c : Cls X.K (He.ga X.K cn)) (hm : Meth X.K (He.ga X.K cn) m f) (F : FnOk X.prog X.w X.K X.mg X.base CX0 k f fd ps (spD X.K g)) (hr : Room k X.A) (hb : Binds X.K fd ps [])
    (ht : eval (.Call (.Attribute o m apos) [] [] pos) X.env = (do
      let ov ← eval o X.env
      standAt apos.atName
      let (f, first) ← holding [ov] (getMethod ov m pl)
      callWith pos f first (backTo pos (starEach [] X.env)) (backToKw pos (keywordEach [] X.env)))) :
    SE X W (.Call (.Attribute o m apos) [] [] pos) (evMeth cn m g fo evNil) :=
  (pe_meth0 he c hm F hr hb .nil pass0 ht).imp fun σ H Q ⟨env, mm, S, rE, rel, q⟩ => ⟨env, mm, S, rE, rel, q.bind.mono fun m1 S1 H1 d A1 rel1 p1 v1 r1 => by
    split at p1
    · rename_i hi
      obtain ⟨ad, dx, fs, rfl, h1, h2⟩ := isIns_ok rel1 r1 hi
      have p2 := p1.bind.ok rel1
      refine ⟨ad, dx, fs, rfl, h1, h2, ?_⟩
      show spD X.K g _ H1 Q E0
      exact ⟨m1, S1, _, rel1, .cons r1 .nil, p2.noX⟩
    · exact p1.elim⟩
/-- C(..) -/
def evMake (cn : Str) (g : List Val → Sto → R Val) (ga : EvA) : EvE := fun env S => (ga env S).bind fun ds S1 => (noX (g (.ref S1.objs.length :: ds) ⟨S1.objs ++ [.ins cn []], S1.esc⟩)).bind fun d S2 => match d with
  | .im .none => .ok (.ref S1.objs.length) S2
  | _ => .bad
theorem Rel.own {K : PySem.W.Frag} {mm : Mp} {S : Sto} {H : Hp} {y dx : Addr} {cn : Str} (rel : Rel K mm S H) (hx : H y = none) (hd : H dx = none) (hne : dx ≠ y) :
    Rel K (mm ++ [some y]) ⟨S.objs ++ [.ins cn []], S.esc⟩ (upd (upd H dx (.own y)) y (.ins (He.ga K cn) dx [])) ∧ Aft mm S H (mm ++ [some y]) ⟨S.objs ++ [.ins cn []], S.esc⟩ (upd (upd H dx (.own y)) y (.ins (He.ga K cn) dx [])) := by
  have h1 : upd H dx (.own y) y = none := by rw [upd_ne (Ne.symm hne)]; exact hx
  exact ⟨(rel.grow hd).made h1 ⟨dx, [], upd_same, .nil⟩, (Aft.grow (S := S) hd).trans (Aft.made (rel.grow hd) h1)⟩
theorem se_make {cn : Str} (M : Mk X.K (He.ga X.K cn) f) (F : FnOk X.prog X.w X.K X.mg X.base CX0 k f fd ps (spD X.K g)) (hr : Room (k + 1) X.A) (hg : Gl X x) (hm : X.mg x = some (.ref (He.ga X.K cn))) (hb : Binds X.K fd ps [])
    (ha : SA X W (e :: es) ga) (hdb : (x == ("__debug__" : Str)) = false) (he : starEach (e :: es) X.env = (false, eval e X.env) :: starEach es X.env) (hpl : (backTo pos (starEach es X.env)).any (·.1) = false) :
    SE X W (.Call (.Name x p) (e :: es) [] pos) (evMake cn g ga) :=
  (pe_make M F hr hg hm hb .nil pass0 ha hdb he hpl).imp fun σ H Q ⟨env, mm, S, rE, rel, q⟩ => ⟨env, mm, S, rE, rel, q.bind.mono fun m1 S1 H1 ds A1 rel1 p1 vs r1 y dx hy hd hne => by
    obtain ⟨R2, A2⟩ := rel1.own (cn := cn) hy hd hne
    show spD X.K g (_ :: (vs ++ [])) _ _ E0
    rw [List.append_nil]
    have hlen := rel1.len
    have p2 := (p1.move A2).bind.noX
    have ry : RV X.K (upd (upd H1 dx (.own y)) y (.ins (He.ga X.K cn) dx [])) (m1 ++ [some y]) (.ref S1.objs.length) (.ref y) := ⟨some y, by rw [← hlen]; simp, fun a e => by cases e; rfl⟩
    refine ⟨_, _, _, R2, .cons ry (RVs.aft A2 r1), p2.mono fun m3 S3 H3 d A3 rel3 p3 v r3 => ?_⟩
    split at p3
    · cases r3
      exact ⟨rfl, p3.ok rel3 _ (RV.aft A3 ry)⟩
    · exact p3.elim⟩
theorem se_make0 {cn : Str} (M : Mk X.K (He.ga X.K cn) f) (F : FnOk X.prog X.w X.K X.mg X.base CX0 k f fd ps (spD X.K g)) (hr : Room (k + 1) X.A) (hg : Gl X x) (hm : X.mg x = some (.ref (He.ga X.K cn))) (hb : Binds X.K fd ps []) (hdb : (x == ("__debug__" : Str)) = false) :
    SE X W (.Call (.Name x p) [] [] pos) (evMake cn g evNil) :=
  (pe_make0 M F hr hg hm hb .nil pass0 hdb).imp fun σ H Q ⟨env, mm, S, rE, rel, q⟩ y dx hy hd hne => by
    have p1 := q.bind.ok rel
    obtain ⟨R2, A2⟩ := rel.own (cn := cn) hy hd hne
    have hlen := rel.len
    have p2 := (p1.move A2).bind.noX
    have ry : RV X.K (upd (upd H dx (.own y)) y (.ins (He.ga X.K cn) dx [])) (mm ++ [some y]) (.ref S.objs.length) (.ref y) := ⟨some y, by rw [← hlen]; simp, fun a e => by cases e; rfl⟩
    refine ⟨_, _, _, R2, .cons ry .nil, p2.mono fun m3 S3 H3 d A3 rel3 p3 v r3 => ?_⟩
    split at p3
    · cases r3
      exact ⟨rfl, p3.ok rel3 _ (RV.aft A3 ry)⟩
    · exact p3.elim
end
end
end MP
set_option Elab.async false
set_option linter.all false
set_option maxRecDepth 100000
namespace MP
open PySem PySem.Spec L2
noncomputable section
open Classical
/-! Part h: isinstance, dict displays, repeated lists, calls by keywords -/
def tyD (d : Val) (S : Sto) : Option String := match d with
  | .im .none => some "NoneType"
  | .im (.bool _) => some "bool"
  | .im (.int _) => some "int"
  | .im (.str _) => some "str"
  | .im (.list _) => some "list"
  | .im (.tuple _) => some "tuple"
  | .im (.dict _) => none
  | .ref h => match S.objs[h]? with
    | some (.lst _) => some "list"
    | some (.dct _) => some "dict"
    | _ => none
def isiD (T : String) (d : Val) (S : Sto) : R Val := match tyD d S with
  | some n => match kitB n T with
    | some b => .ok (.im (.bool b)) S
    | none => .bad
  | none => .bad
theorem FzL.ty {K : PySem.W.Frag} {H : Hp} {m : Mp} {a : Addr} {vs : List V} (h : FzL K H m a vs) : TyX K H (.ref a) (.type "list") := by
  rcases h with ⟨h | ⟨o, h⟩, _⟩ | (h | ⟨o, its, n, h1, h2, _⟩)
  · exact .base (.lst h)
  · exact .base (.frz h)
  · rcases h with h | ⟨o, h⟩ <;> cases h
  · exact .kList h1 h2
theorem FzT.ty {K : PySem.W.Frag} {H : Hp} {m : Mp} {a : Addr} {vs : List V} (h : FzT K H m a vs) : TyX K H (.ref a) (.type "tuple") := by
  rcases h with ⟨h | ⟨o, h⟩, _⟩ | (h | ⟨o, its, n, h1, h2, _⟩)
  · exact .base (.tup h)
  · exact .fTuple h
  · rcases h with h | ⟨o, h⟩ <;> cases h
  · exact .kTuple h1 h2
theorem tyD_ok {K : PySem.W.Frag} {m : Mp} {S : Sto} {H : Hp} {d : Val} {v : V} {n : String} (rel : Rel K m S H) (r : RV K H m d v) (e : tyD d S = some n) : TyX K H v (.type n) := by
  cases d with
  | im d =>
    cases r with
    | non => cases e; exact .base .non
    | bl b => cases e; exact .base (.bl b)
    | int i => cases e; exact .base (.int i)
    | str x => cases e; exact .base (.str x)
    | lst f q => cases e; exact f.ty
    | tup f q => cases e; exact f.ty
  | ref h =>
    simp only [tyD] at e
    split at e
    · rename_i hx
      obtain ⟨a, rfl, _, vs, ha, _⟩ := live_obj rel r hx (fun z => nomatch z)
      cases e; exact .base (.lst ha)
    · rename_i hx
      obtain ⟨a, rfl, _, vs, ha, _⟩ := live_obj rel r hx (fun z => nomatch z)
      cases e; exact .base (.dK ha)
    · cases e
section
variable {X : Cx} {W : WX} {a b c e o : Expr} {fa fb fc fo : EvE} {pos : Pos} {es : List Expr} {ga gk : EvA}
theorem se_isi {T : String} {xT : Str} {p pT : Pos} {k : Nat} (hg : Gl X "isinstance") (hm : X.mg "isinstance" = none) (hv : bootBuiltins "isinstance" = some (.builtin "isinstance")) (ha : SE X W a fa)
    (hg2 : Gl X xT) (hm2 : X.mg xT = none) (hv2 : bootBuiltins xT = some (.type T)) (hn2 : xT ≠ "__name__") (hd2 : (xT == ("__debug__" : Str)) = false)
    (he : starEach [a, .Name xT pT] X.env = (false, eval a X.env) :: starEach [.Name xT pT] X.env) (hpl : (backTo pos (starEach [.Name xT pT] X.env)).any (·.1) = false) :
    SE X W (.Call (.Name "isinstance" p) [a, .Name xT pT] [] pos) (ev1 (isiD T) fa) :=
  (pe_callB call_isi hg hm hv (pa_cons ha (pa_cons (pe_bltn (v := .ty T) hg2 hm2 hv2 rfl hn2 hd2) pa_nil) he) (by decide) (by decide) he hpl).imp fun σ H Q ⟨env, m, S, rE, rel, p⟩ => ⟨env, m, S, rE, rel, p.bind.mono fun m1 S1 H1 d A1 rel1 p1 v1 r1 => by
    unfold isiD at p1
    split at p1
    · rename_i n hn
      split at p1
      · rename_i b hb
        exact ⟨v1, .ty T, .type n, .type T, b, rfl, .ty T, tyD_ok rel1 r1 hn, kit_ty hb, p1.ok rel1 _ (.bl b)⟩
      · exact p1.elim
    · exact p1.elim⟩
/-! ### dict displays with texts as keys -/
def evPrs : List (Str × EvE) → Env → Sto → R (List (Key × Val))
  | [], _, S => .ok [] S
  | (k, f) :: r, env, S => (f env S).bind fun v S1 => (evPrs r env S1).bind fun ps S2 => .ok ((.inr k, v) :: ps) S2
def mergeKd (more : List (Key × Val)) : List (Key × Val) := more.foldl (fun acc kv => putKd acc kv.1 kv.2) []
def evDisp (prs : List (Str × EvE)) : EvE := fun env S => (evPrs prs env ⟨S.objs ++ [.dct []], S.esc⟩).bind fun ps S2 => match S2.objs[S.objs.length]? with
  | some (.dct []) => if ps.length ≤ 15 then .ok (.ref S.objs.length) (putO S2 S.objs.length (.dct (mergeKd ps)) true) else .bad
  | _ => .bad
def tPrs (K : PySem.W.Frag) (W : WX) (prs : List (Str × EvE)) : List (TE × TE) := prs.map fun p => (tC (.str p.1), tE K W p.2)
theorem tPrs_of {K : PySem.W.Frag} : ∀ (prs : List (Str × EvE)) {env : Env} {σ : L2.St} {m : Mp} {S : Sto} {H : Hp} {Q : List (V × V) → Hp → Prop}, RelE K H m env σ → Rel K m S H →
    (Post K W m S H (evPrs prs env S) fun m' _ H' ps => ∀ ws : List (Key × V), RKs K H' m' ps ws → Q (ws.map fun kv => (kV kv.1, kv.2)) H') → tPairs (tPrs K W prs) σ H Q
  | [], env, σ, m, S, H, Q, rE, rel, p => p.ok rel [] .nil
  | (k, f) :: r, env, σ, m, S, H, Q, rE, rel, p => ⟨env, m, S, rE, rel, Post.mono (Post.bind p) fun m1 S1 H1 d A1 rel1 p1 v1 r1 => tPrs_of r (rE.aft A1) rel1 (Post.mono (Post.bind p1) fun m2 S2 H2 ps A2 rel2 p2 ws hws =>
      p2.ok rel2 ((.inr k, v1) :: ws) (.cons ⟨rfl, RV.aft A2 r1⟩ hws))⟩
theorem mergeK_rel {K : PySem.W.Frag} {H : Hp} {m : Mp} : ∀ {ps : List (Key × Val)} {ws : List (Key × V)} {as : List (Key × Val)} {bs : List (Key × V)}, RKs K H m ps ws → RKs K H m as bs → RKs K H m (ps.foldl (fun acc kv => putKd acc kv.1 kv.2) as) (ws.foldl (fun acc kv => putK acc kv.1 kv.2) bs)
  | _, _, _, _, .nil, h => h
  | (k1, x1) :: r, (k2, v2) :: r2, _, _, .cons q t, h => by
    obtain ⟨q1, q2⟩ := q
    have q1 : k1 = k2 := q1
    subst q1
    have := mergeK_rel t (putK_rel (k := k1) q2 h)
    exact this
structure SPs (X : Cx) (W : WX) (pos : Pos) (ks : List (Option Expr)) (vs : List Expr) (prs : List (Str × EvE)) : Prop where
  run : PPs X pos ks vs (tPrs X.K W prs)
theorem sps_nil : SPs X W pos [] [] [] := ⟨pps_nil⟩
theorem sps_cons {k : Str} {j : Nat} {p : Pos} {ks : List (Option Expr)} {vs : List Expr} {prs : List (Str × EvE)} (hv : SE X W a fa) (hr : SPs X W pos ks vs prs) : SPs X W pos (some (.Constant (.str k) j p) :: ks) (a :: vs) ((k, fa) :: prs) := ⟨pps_cons pe_str hv hr.run⟩
theorem se_disp {ks : List (Option Expr)} {vs : List Expr} {prs : List (Str × EvE)} (h : SPs X W pos ks vs prs) (hall : ks.all (·.isSome) = true) (hl : ks.length = vs.length) (h0 : ks ≠ []) (h15 : ks.length ≤ 15) : SE X W (.Dict ks vs pos) (evDisp prs) :=
  (pe_disp h.run hall hl h0 h15).imp fun σ H Q ⟨env, m, S, rE, rel, p⟩ q hq => by
    have A0 := Aft.made (ob := .dct []) (o := .dK []) rel hq
    have rel0 : Rel X.K (m ++ [some q]) ⟨S.objs ++ [.dct []], S.esc⟩ (upd H q (.dK [])) := rel.made hq ⟨[], upd_same, .nil⟩
    refine tPrs_of prs (rE.aft A0) rel0 (Post.mono (Post.bind (p.move A0)) fun m2 S2 H2 ps A2 rel2 p2 ws hws => ?_)
    have hlen := rel.len
    have e0 : (m ++ [some q])[S.objs.length]? = some (some q) := by rw [← hlen]; simp
    have ry : RV X.K H2 m2 (.ref S.objs.length) (.ref q) := RV.aft A2 (show RV X.K (upd H q (.dK [])) (m ++ [some q]) (.ref S.objs.length) (.ref q) from ⟨some q, e0, fun a e => by cases e; rfl⟩)
    split at p2
    · rename_i hx
      obtain ⟨ad, ead, e, zs, hz, rz⟩ := live_obj rel2 ry hx (fun z => nomatch z)
      cases ead
      cases rz
      split at p2
      · rename_i h15
        refine ⟨hz, ws, rfl, by rw [paired_len hws]; exact h15, ?_⟩
        have A := Aft.put (H := H2) (ob' := .dct (mergeKd ps)) (fl := true) (o' := .dK (mergeK [] ws)) e hx (fun z => nomatch z)
        have R' := rel2.put (ob' := .dct (mergeKd ps)) (fl := true) (o' := .dK (mergeK [] ws)) e hx (fun z => nomatch z) ⟨_, upd_same, mergeK_rel (RKs.aft A hws) .nil⟩
        exact p2 m2 _ A R' _ (RV.aft A ry)
      · exact p2.elim
    · exact p2.elim
/-! ### [a, ..] * n -/
def repD (mu : Bool) (xs : List Val) (n : Val) (S : Sto) : R Val := match n with
  | .im (.int k) => if -(2 ^ 63) ≤ k ∧ k < 2 ^ 63 ∧ xs.length * k.toNat ≤ sizeLine then newL mu (List.replicate k.toNat xs).flatten S else .bad
  | _ => .bad
def evRep (mu : Bool) (ga : EvA) (fb : EvE) : EvE := fun env S => (ga env S).bind fun xs S1 => if xs.length ≤ sizeLine then (fb env S1).bind fun n S2 => repD mu xs n S2 else .bad
theorem Paired.rep {α β : Type} {F : α → β → Prop} {xs : List α} {ys : List β} (h : Paired F xs ys) : ∀ k : Nat, Paired F (List.replicate k xs).flatten (List.replicate k ys).flatten
  | 0 => .nil
  | k + 1 => by
    rw [List.replicate_succ, List.replicate_succ, List.flatten_cons, List.flatten_cons]
    exact Paired.append h (Paired.rep h k)
theorem se_rep {mu : Bool} {p1 : Pos} (ha : SA X W es ga) (hb : SE X W b fb) : SE X W (.BinOp (.List es p1) .Mult b pos) (evRep mu ga fb) :=
  (pe_op op_rep (pe_lst ha) hb).imp fun σ H Q ⟨env, m, S, rE, rel, p⟩ => ⟨env, m, S, rE, rel, p.bind.mono fun m1 S1 H1 xs A1 rel1 p1 vs r1 => by
    split at p1
    · rename_i hl
      refine ⟨by rw [paired_len r1]; exact hl, fun q hq => ?_⟩
      have A := Aft.grow (S := S1) (m := m1) (o := .lst vs) hq
      have rel2 := rel1.grow (o := .lst vs) hq
      refine ⟨env, m1, S1, (rE.aft A1).aft A, rel2, (p1.move A).bind.mono fun m2 S2 H2 d A2 rel3 p2 v2 r2 => ?_⟩
      have hq2 : H2 q = some (.lst vs) := A2.keep q _ upd_same (rel1.fresh hq)
      have rv := RVs.aft A2 (RVs.aft A r1)
      unfold repD at p2
      split at p2
      · cases r2
        split at p2
        · rename_i c
          exact ⟨q, _, vs, rfl, rfl, hq2, c.1, c.2.1, by rw [paired_len r1]; exact c.2.2, fun z hz => new_lst rel3 (Paired.rep rv _) p2 hz⟩
        · exact p2.elim
      · exact p2.elim
    · exact p1.elim⟩
/-! ### f(k = v, ..) -/
def permL {α : Type} (is : List Nat) (ws : List α) : List α := is.filterMap fun i => ws[i]?
theorem permL_rel {α β : Type} {F : α → β → Prop} {xs : List α} {ys : List β} (h : Paired F xs ys) : ∀ is : List Nat, Paired F (permL is xs) (permL is ys)
  | [] => .nil
  | i :: is => by
    unfold permL
    rw [List.filterMap_cons, List.filterMap_cons]
    cases hx : xs[i]? with
    | none =>
      have hy : ys[i]? = none := by
        rw [List.getElem?_eq_none_iff] at hx ⊢
        rw [paired_len h]; exact hx
      rw [hy]
      exact permL_rel h is
    | some x =>
      obtain ⟨y, hy, r⟩ := Paired.get h hx
      rw [hy]
      exact .cons r (permL_rel h is)
abbrev SK (X : Cx) (W : WX) (kws : List Keyword) (f : EvA) : Prop := PK X kws (tA X.K W f)
theorem sk_nil : SK X W [] evNil := ⟨fun pos pins s σ H Q I ⟨env, m, S, rE, rel, p⟩ => pk_nil.run pos pins s σ H Q I (p.ok rel _ .nil)⟩
theorem sk_cons {kws : List Keyword} {nm : Option Str} {kp : Pos} (ha : SE X W a fa) (hr : SK X W kws ga) : SK X W (⟨nm, a, kp⟩ :: kws) (evCons fa ga) := ⟨fun pos pins s σ H Q I ⟨env, m, S, rE, rel, p⟩ => (pk_cons ha hr).run pos pins s σ H Q I
  ⟨env, m, S, rE, rel, p.bind.mono fun m1 S1 H1 d A1 rel1 p1 v1 r1 => ⟨env, m1, S1, rE.aft A1, rel1, p1.bind.mono fun m2 S2 H2 ds A2 rel2 p2 vs r2 => p2.ok rel2 _ (.cons (RV.aft A2 r1) r2)⟩⟩⟩
def evFnK (g : List Val → Sto → R Val) (is : List Nat) (n : Nat) (gk : EvA) : EvE := fun env S => (gk env S).bind fun ds S1 => if ds.length = n then noX (g (permL is ds) S1) else .bad
variable {k : Nat} {f C : Addr} {fd : FuncData} {ps ks : List Str} {g : List Val → Sto → R Val} {x : Str} {p : Pos} {kws : List Keyword}
theorem se_callK {is : List Nat} (F : FnOk X.prog X.w X.K X.mg X.base CX0 k f fd ps (spD X.K g)) (hr : Room k X.A) (hg : Gl X x) (hm : X.mg x = some (.ref f)) (hk : PySem.W.keepIn X.K (.ref f) = true)
    (hb : ∀ (s : Shared) (ws : List Value), ws.length = ks.length → BindsTo s fd ⟨[], ks.zip ws⟩ (ps.zip (permL is ws))) (hkw : SK X W kws gk)
    (hall : (backToKw pos (keywordEach kws X.env)).all (·.1.isSome) = true) (hks : (backToKw pos (keywordEach kws X.env)).filterMap (·.1) = ks) (hdb : (x == ("__debug__" : Str)) = false)
    (hpl : ((backTo pos (starEach [] X.env)).any (·.1) || (backToKw pos (keywordEach kws X.env)).any (·.1.isNone)) = false) : SE X W (.Call (.Name x p) [] kws pos) (evFnK g is ks.length gk) := by
  refine ⟨fun pins s σ H Q I ⟨env, m, S, rE, rel, q⟩ => ?_⟩
  refine wpAny_Call_Name_kw (ld_glob I hg hm ?_ hdb)
  refine PySem.W.callWith_KW0 (h₀ := X.base) I.ok.mod.kin hk hall (thn (hkw.run pos pins s σ H (fun zs H1 => zs.length = ks.length ∧ spD X.K g (permL is zs) H1 Q E0) I ⟨env, m, S, rE, rel, q.bind.mono fun m1 S1 H1 ds A1 rel1 p1 vs r1 => ?_⟩) fun ws s2 ⟨zs, H2, I2, rz, l2, q2⟩ => ⟨I2.kIn, ?_⟩) hpl
  · split at p1
    · rename_i hl
      exact ⟨by rw [paired_len r1]; exact hl, m1, S1, _, rel1, permL_rel r1 is, p1.noX⟩
    · exact p1.elim
  · rw [hks]
    have rp : Vals (permL is zs) (permL is ws) := permL_rel rz is
    refine wpAny_call (codeAny_mono (F.run X.A X.stack s2 H2 ⟨[], ks.zip ws⟩ (permL is ws) (permL is zs) Q E0 hr I2.env0 (hb s2 ws (by rw [← rz.length]; exact l2)) rp q2) fun r s3 hq => ?_)
    cases r with
    | error e => exact hq.elim
    | ok fl =>
      cases fl with
      | ret u => exact I2.after hq
      | next => exact hq.elim
      | brk => exact hq.elim
      | cont => exact hq.elim
end
/-! ### the law's end -/
theorem law_sp {K : PySem.W.Frag} {g : List Val → Sto → R Val} {ns : List Int} {H : Hp} {a : Addr} (hS : SqL K H a (ns.map V.int)) (h : ∃ S', g [.im (.list (ns.map PyData.int))] ⟨[], []⟩ = .ok (.im (.bool true)) S') :
    spD K g [.ref a] H (fun v _ => v = .bl true) fun _ _ _ => False := by
  obtain ⟨S', h⟩ := h
  have rel : Rel K [] ⟨[], []⟩ H := ⟨rfl, fun h h' a e => by simp at e, fun h a e => by simp at e, fun h e => by simp at e⟩
  have rd : ∀ l : List Int, RDs K H [] (l.map PyData.int) (l.map V.int) := fun l => by
    induction l with
    | nil => exact .nil
    | cons i r ih => exact .cons (.int i) ih
  have fz : FzL K H [] a (ns.map V.int) := by
    rcases hS with h | h
    · exact .inl ⟨h, fun l => nomatch l⟩
    · exact .inr (.inr h)
  refine ⟨[], ⟨[], []⟩, _, rel, .cons (show RV K H [] (.im (.list (ns.map PyData.int))) (.ref a) from RD.lst fz (rd ns)) .nil, ?_⟩
  rw [h]
  intro m' H' A r v rv
  cases rv
  rfl
end
end MP
set_option Elab.async false
set_option linter.all false
set_option maxRecDepth 100000
namespace MP
open PySem PySem.Spec PySem.Calls L2
noncomputable section
open Classical
/-! Part i: the same rules in short, and the facts of a text -/
/-- the context of a def's body -/
abbrev cxq (P : Program) (w : World) (K : PySem.W.Frag) (mg : Str → Option Value) (base : Heap) (N : List Str) (qual : Str) (scope : Scope) (f : Addr) (cd : Value) (A : Around) (outer : List PySem.Env) (s : Shared) (H : Hp) (E : XK) : Cx := (cxOf CX0 P w K mg base N qual scope f cd A outer s H E).nox
structure Fc (fa : List He.Fa) (fn : List He.DefD) (K : PySem.W.Frag) (mg : Str → Option Value) : Prop where
  says : He.SaysD fa fn K
  glo : ∀ x, He.Fa.glo x ∈ fa → mg x = some (.ref (He.ga K x))
  free : ∀ x, He.Fa.free x ∈ fa → mg x = none
theorem Fc.of {fa : List He.Fa} {fn : List He.DefD} {K : PySem.W.Frag} {mg : Str → Option Value} {h : Heap} (X : K.In h) (G : h.Ns mainGlobals mg) (c : He.SaysD fa fn K) : Fc fa fn K mg := by
  have all : ∀ f ∈ fa, f.ok K = true := fun f hf => by
    obtain ⟨i, hi⟩ := List.mem_iff_getElem?.mp hf
    exact c.fact i hi
  exact ⟨c, fun x hx => He.glo_ok X G (all _ hx), fun x hx => He.free_ok X G (all _ hx)⟩
section
variable {fa : List He.Fa} {fn : List He.DefD} {K : PySem.W.Frag} {mg : Str → Option Value}
theorem Fc.g (E : Fc fa fn K mg) (i : Nat) {x : Str} (h : fa[i]? = some (.glo x) := by rfl) : mg x = some (.ref (He.ga K x)) := E.glo x (List.mem_of_getElem? h)
theorem Fc.z (E : Fc fa fn K mg) (i : Nat) {x : Str} (h : fa[i]? = some (.free x) := by rfl) : mg x = none := E.free x (List.mem_of_getElem? h)
end
def OkF (P : Program) (w : World) (K : PySem.W.Frag) (mg : Str → Option Value) (base : Heap) (k : Nat) (d : He.DefD) (ps : List Str) (g : List Val → Sto → R Val) : Prop := ∃ fd, FnOk P w K mg base CX0 k (He.fAd K d.at_) fd ps (spD K g) ∧ Binds K fd ps [] ∧ PySem.W.keepIn K (.ref (He.fAd K d.at_)) = true ∧
  FunD K d.name d.qual d.params d.body d.scope [] [] (He.fAd K d.at_) fd
theorem FunD.kb {K : PySem.W.Frag} {x qual : Str} {params : Arguments} {body : List Stmt} {scope : Scope} {kws : List (Str × V)} {f : Addr} {fd : FuncData} {ps ks : List Str} {is : List Nat} (F : FunD K x qual params body scope [] kws f fd)
    (h : ∀ (kV doc pm : Value) (an : Option Addr) (cdv ct : Value) (ws : List Value), ws.length = ks.length → bindArgs (PySem.W.fnOf x qual params body scope .none kV doc pm an cdv ct) ⟨[], ks.zip ws⟩ = pure (ps.zip (permL is ws))) (s : Shared) (ws : List Value) (hl : ws.length = ks.length) : BindsTo s fd ⟨[], ks.zip ws⟩ (ps.zip (permL is ws)) := by
  obtain ⟨oc, od, dV, kV, doc, pm, an, cdv, ct, osl, rfl, _, _, hD, _⟩ := F.ex
  rcases hD with ⟨_, rfl⟩ | ⟨z, _⟩
  · exact .of_eq (h kV doc pm an cdv ct ws hl)
  · exact absurd rfl z
theorem FunD.uniq {K : PySem.W.Frag} {x qual : Str} {params : Arguments} {body : List Stmt} {scope : Scope} {dvs dvs2 : List V} {kws kws2 : List (Str × V)} {f : Addr} {fd fd2 : FuncData} (F : FunD K x qual params body scope dvs kws f fd) (F2 : FunD K x qual params body scope dvs2 kws2 f fd2) : fd = fd2 := by
  obtain ⟨_, _, _, _, _, _, _, _, _, _, _, l1, _⟩ := F.ex
  obtain ⟨_, _, _, _, _, _, _, _, _, _, _, l2, _⟩ := F2.ex
  rw [l1] at l2
  injection l2 with l3
  injection l3 with _ _ l4 _
  injection l4
section
variable {P : Program} {w : World} {fa : List He.Fa} {fn : List He.DefD} {K : PySem.W.Frag} {mg : Str → Option Value} {base : Heap}
theorem okF {lv : Sto → R Fl → R Val} (hlv : LvOk lv) (E : Fc fa fn K mg) (i : Nat) {d : He.DefD} {N ps : List Str} {k : Nat} {fb : EvS} (S : FnScope N ps d.scope)
    (hbody : ∀ (f : Addr) (cdv : Value) (A : Around) (outer : List PySem.Env) (s : Shared) (H : Hp) (XE : XK), Room k (A.deeper (PyProof.Rows.envOfC d.qual d.scope s.heap.objs.size f cdv)) → SSs (cxq P w K mg base N d.qual d.scope f cdv A outer s H XE) W0 d.body fb)
    (hb : ∀ (kV doc pm : Value) (an : Option Addr) (cdv ct : Value) (us : List Value), us.length = ps.length → bindArgs (PySem.W.fnOf d.name d.qual d.params d.body d.scope .none kV doc pm an cdv ct) ⟨us, []⟩ = pure (ps.zip us))
    (h : fn[i]? = some d := by rfl) (h1 : d.dfl = [] := by rfl) (h2 : d.kwd = [] := by rfl) : OkF P w K mg base (k + 1) d ps (fnD lv ps.length N.length fb) := by
  obtain ⟨fd, F⟩ := E.says.def_ i h
  have e1 : d.dvs K = [] := by unfold He.DefD.dvs; rw [h1]; rfl
  have e2 : d.kws K = [] := by unfold He.DefD.kws; rw [h2]; rfl
  rw [e1, e2] at F
  refine ⟨fd, ?_, F.bindsN hb, F.kp, F⟩
  refine F.ok S (fun vs H Q E ⟨m, St, ds, rel, r, p⟩ => ?_) fun cdv A outer s H vs Q XE hr ⟨m, St, ds, rel, r, p⟩ => ?_
  · rw [paired_len r]
    unfold fnD at p
    split at p
    · assumption
    · exact p.elim
  · refine ⟨tS K W0 fb, PSs.nox (hbody _ cdv A outer s H XE hr), ?_⟩
    unfold fnD at p
    split at p
    · rename_i hl
      have hN : ds.length ≤ N.length := by
        have e := congrArg List.length S.pre
        rw [List.length_take] at e
        omega
      refine ⟨_, m, ⟨St.objs, []⟩, startE_rel r hN, rel.esc, (hlv K m St H _ _ rel p).mono fun m' S' H' fl A' rel' ⟨d, hd, m2, S2, d2, q, rr⟩ => ?_⟩
      cases fl with
      | nx env =>
        cases hd
        exact fun σ _ => q _ (rr .non .non)
      | rt d' =>
        cases hd
        exact fun v rv => q v (rr v rv)
      | bk env => cases hd
      | ct env => cases hd
    · exact p.elim
end
/-! ### built-in names -/
theorem bb_len : bootBuiltins "len" = some (.builtin "len") := by decide +kernel
theorem bb_abs : bootBuiltins "abs" = some (.builtin "abs") := by decide +kernel
theorem bb_max : bootBuiltins "max" = some (.builtin "max") := by decide +kernel
theorem bb_min : bootBuiltins "min" = some (.builtin "min") := by decide +kernel
theorem bb_isi : bootBuiltins "isinstance" = some (.builtin "isinstance") := by decide +kernel
theorem bb_int : bootBuiltins "int" = some (.type "int") := by decide +kernel
theorem bb_bool : bootBuiltins "bool" = some (.type "bool") := by decide +kernel
theorem bb_str : bootBuiltins "str" = some (.type "str") := by decide +kernel
theorem bb_list : bootBuiltins "list" = some (.type "list") := by decide +kernel
theorem bb_tuple : bootBuiltins "tuple" = some (.type "tuple") := by decide +kernel
theorem bb_dict : bootBuiltins "dict" = some (.type "dict") := by decide +kernel
section
variable {X : Cx} {W : WX} {a b c e o : Expr} {fa fb fc fo : EvE} {pos : Pos} {es : List Expr} {ga gb : EvA} {st : Stmt} {sts : List Stmt} {f g : EvS}
theorem v_ (i : Nat) {x : Str} (hN : X.N[i]? = some x := by rfl) (hv : Vis X.env.scope x := by first | exact Or.inl rfl | exact Or.inr (Or.inl rfl) | exact Or.inr (Or.inr rfl)) (hd : (x == ("__debug__" : Str)) = false := by decide) (hcd : (x == ("__classdict__" : Str)) = false := by decide) : SE X W (.Name x pos) (evVar i) := se_var hN hv hd hcd
theorem a2 (ha : SE X W a fa) (hr : SA X W es ga) (hs : starEach (a :: es) X.env = (false, eval a X.env) :: starEach es X.env := by rfl) : SA X W (a :: es) (evCons fa ga) := sa_cons ha hr hs
/-- a built-in function, a built-in type -/
theorem cb_ {gg : List Val → Sto → R Val} {id : String} {x : Str} {p : Pos} (hc : CallR X (.builtin id) (rC X.K W gg)) (hm : X.mg x = none) (hv : bootBuiltins x = some (.builtin id)) (ha : SA X W (e :: es) ga) (hg : Gl X x := by rfl) (hn : x ≠ "__name__" := by decide) (hdb : (x == ("__debug__" : Str)) = false := by decide)
    (he : starEach (e :: es) X.env = (false, eval e X.env) :: starEach es X.env := by rfl) (hpl : (backTo pos (starEach es X.env)).any (·.1) = false := by rfl) : SE X W (.Call (.Name x p) (e :: es) [] pos) (evCall gg ga) := se_callB hc hg hm hv ha hn hdb he hpl
theorem ct_ {gg : List Val → Sto → R Val} {T : String} {x : Str} {p : Pos} (hc : CallR X (.type T) (rC X.K W gg)) (hm : X.mg x = none) (hv : bootBuiltins x = some (.type T)) (ha : SA X W (e :: es) ga) (hg : Gl X x := by rfl) (hn : x ≠ "__name__" := by decide) (hdb : (x == ("__debug__" : Str)) = false := by decide)
    (he : starEach (e :: es) X.env = (false, eval e X.env) :: starEach es X.env := by rfl) (hpl : (backTo pos (starEach es X.env)).any (·.1) = false := by rfl) : SE X W (.Call (.Name x p) (e :: es) [] pos) (evCall gg ga) := se_callTy hc hg hm hv ha hn hdb he hpl
/-- an own def -/
theorem cf_ {k j : Nat} {p : He.DefD} {ps : List Str} {gg : List Val → Sto → R Val} {x : Str} {pn : Pos} (F : OkF X.prog X.w X.K X.mg X.base k p ps gg) (hr : Room j X.A) (hj : k ≤ j) (hm : X.mg x = some (.ref (He.fAd X.K p.at_))) (ha : SA X W (e :: es) ga)
    (hg : Gl X x := by rfl) (hdb : (x == ("__debug__" : Str)) = false := by decide) (he : starEach (e :: es) X.env = (false, eval e X.env) :: starEach es X.env := by rfl) (hpl : (backTo pos (starEach es X.env)).any (·.1) = false := by rfl) : SE X W (.Call (.Name x pn) (e :: es) [] pos) (evFn gg ga) := by
  obtain ⟨fd, F, hb, hk, _⟩ := F
  exact se_call F (hr.mono hj) hg hm hk hb ha hdb he hpl
theorem cf0 {k j : Nat} {p : He.DefD} {ps : List Str} {gg : List Val → Sto → R Val} {x : Str} {pn : Pos} (F : OkF X.prog X.w X.K X.mg X.base k p ps gg) (hr : Room j X.A) (hj : k ≤ j) (hm : X.mg x = some (.ref (He.fAd X.K p.at_)))
    (hg : Gl X x := by rfl) (hdb : (x == ("__debug__" : Str)) = false := by decide) : SE X W (.Call (.Name x pn) [] [] pos) (evFn gg evNil) := by
  obtain ⟨fd, F, hb, hk, _⟩ := F
  exact se_call0 F (hr.mono hj) hg hm hk hb hdb
theorem cm_ {pl : Sem Bool} {p : He.DefD} {k j : Nat} {cn m : Str} {ps : List Str} {gg : List Val → Sto → R Val} {apos : Pos} (ho : SE X W o fo) (cl : (He.Fa.cls cn).ok X.K = true) (me : (He.Fa.meth cn m).ok X.K = true) (F : OkF X.prog X.w X.K X.mg X.base k p ps gg) (hp : p.at_ = (cn, some m)) (hr : Room j X.A) (hj : k ≤ j) (ha : SA X W (e :: es) ga)
    (hst : starEach (e :: es) X.env = (false, eval e X.env) :: starEach es X.env := by rfl) (hpl : (backTo pos (starEach es X.env)).any (·.1) = false := by rfl)
    (ht : eval (.Call (.Attribute o m apos) (e :: es) [] pos) X.env = (do
      let ov ← eval o X.env
      standAt apos.atName
      let (f, first) ← holding [ov] (getMethod ov m pl)
      callWith pos f first (backTo pos (starEach (e :: es) X.env)) (backToKw pos (keywordEach [] X.env))) := by rfl) : SE X W (.Call (.Attribute o m apos) (e :: es) [] pos) (evMeth cn m gg fo ga) := by
  obtain ⟨fd, F, hb, hk, _⟩ := F
  rw [hp] at F
  exact se_meth ho (He.cls_ok cl) (He.meth_ok me) F (hr.mono hj) hb ha hst hpl ht
theorem cM_ {k j : Nat} {cn : Str} {d : He.DefD} {ps : List Str} {gg : List Val → Sto → R Val} {p : Pos} (F : OkF X.prog X.w X.K X.mg X.base k d ps gg) (hp : d.at_ = (cn, some ("__init__" : Str))) (mk : (He.Fa.mkr cn).ok X.K = true) (hr : Room j X.A) (hj : k + 1 ≤ j) (hm : X.mg cn = some (.ref (He.ga X.K cn))) (ha : SA X W (e :: es) ga)
    (hg : Gl X cn := by rfl) (hdb : (cn == ("__debug__" : Str)) = false := by decide) (he : starEach (e :: es) X.env = (false, eval e X.env) :: starEach es X.env := by rfl) (hpl : (backTo pos (starEach es X.env)).any (·.1) = false := by rfl) : SE X W (.Call (.Name cn p) (e :: es) [] pos) (evMake cn gg ga) := by
  obtain ⟨fd, F, hb, hk, _⟩ := F
  rw [hp] at F
  exact se_make (He.mkr_ok mk) F (hr.mono hj) hg hm hb ha hdb he hpl
theorem sss_kill (is : List Nat) (h : SSs X W sts f) : SSs X W sts (sKill is f) :=
  h.imp fun D σ H ⟨env, m, S, rE, rel, p⟩ => ⟨env, m, S, rE, rel, p.bind.mono fun m1 S1 H1 fl A1 rel1 p1 => by
    cases fl with
    | nx env1 => exact fun σ1 r1 => p1.ok rel1 σ1 (r1.kills is)
    | rt d => exact p1.ok rel1
    | bk env1 => exact p1.ok rel1
    | ct env1 => exact p1.ok rel1⟩
theorem mAppend {apos : Pos} (ho : SE X W o fo) (ha : SE X W a fa) (hbase : attributeBase o "append" X.env (eval o X.env) = eval o X.env := by rfl)
    (hfew : ((backTo pos (starEach [a] X.env)).all (fun x => !x.1) && (backToKw pos (keywordEach [] X.env)).all (fun x => x.1.isSome)
      && decide ([a].length + ([] : List Keyword).length + (if ([] : List Keyword).isEmpty then 0 else 1) < 30)) = true := by rfl)
    (hline : (apos.endLine == pos.line) = true := by rfl) (hs : starEach [a] X.env = (false, eval a X.env) :: starEach [] X.env := by rfl) (hplain : (backTo pos (starEach [] X.env)).any (·.1) = false := by rfl) : SE X W (.Call (.Attribute o "append" apos) [a] [] pos) (evM appD fo (evCons fa evNil)) :=
  se_bm PySem.F.slot_list_append PySem.F.type_list_append m_append ho (sa_cons ha sa_nil hs) hbase hfew hline hs hplain
theorem mPop {apos : Pos} (ho : SE X W o fo) (hbase : attributeBase o "pop" X.env (eval o X.env) = eval o X.env := by rfl) (hline : (apos.endLine == pos.line) = true := by rfl) : SE X W (.Call (.Attribute o "pop" apos) [] [] pos) (evM popD fo evNil) :=
  se_bm0 PySem.F.slot_list_pop PySem.F.type_list_pop m_pop ho hbase hline
theorem mReverse {apos : Pos} (ho : SE X W o fo) (hbase : attributeBase o "reverse" X.env (eval o X.env) = eval o X.env := by rfl) (hline : (apos.endLine == pos.line) = true := by rfl) : SE X W (.Call (.Attribute o "reverse" apos) [] [] pos) (evM revD fo evNil) :=
  se_bm0 PySem.F.slot_list_reverse PySem.F.type_list_reverse m_reverse ho hbase hline
theorem isi_ {T : String} {xT : Str} {p pT : Pos} (hm : X.mg "isinstance" = none) (ha : SE X W a fa) (hm2 : X.mg xT = none) (hv2 : bootBuiltins xT = some (.type T)) (hg : Gl X "isinstance" := by rfl) (hg2 : Gl X xT := by rfl) (hn2 : xT ≠ "__name__" := by decide) (hd2 : (xT == ("__debug__" : Str)) = false := by decide)
    (he : starEach [a, .Name xT pT] X.env = (false, eval a X.env) :: starEach [.Name xT pT] X.env := by rfl) (hpl : (backTo pos (starEach [.Name xT pT] X.env)).any (·.1) = false := by rfl) : SE X W (.Call (.Name "isinstance" p) [a, .Name xT pT] [] pos) (ev1 (isiD T) fa) :=
  se_isi (k := 0) hg hm bb_isi ha hg2 hm2 hv2 hn2 hd2 he hpl
theorem cK_ {k j : Nat} {p : He.DefD} {ps ks : List Str} {is : List Nat} {gg : List Val → Sto → R Val} {x : Str} {pn : Pos} {kws : List Keyword} {gk : EvA} (F : OkF X.prog X.w X.K X.mg X.base k p ps gg) (hr : Room j X.A) (hj : k ≤ j) (hm : X.mg x = some (.ref (He.fAd X.K p.at_)))
    (hd : ∀ (kV doc pm : Value) (an : Option Addr) (cdv ct : Value) (ws : List Value), ws.length = ks.length → bindArgs (PySem.W.fnOf p.name p.qual p.params p.body p.scope .none kV doc pm an cdv ct) ⟨[], ks.zip ws⟩ = pure (ps.zip (permL is ws))) (hkw : SK X W kws gk)
    (hg : Gl X x := by rfl) (hall : (backToKw pos (keywordEach kws X.env)).all (·.1.isSome) = true := by rfl) (hks : (backToKw pos (keywordEach kws X.env)).filterMap (·.1) = ks := by rfl) (hdb : (x == ("__debug__" : Str)) = false := by decide)
    (hpl : ((backTo pos (starEach [] X.env)).any (·.1) || (backToKw pos (keywordEach kws X.env)).any (·.1.isNone)) = false := by rfl) : SE X W (.Call (.Name x pn) [] kws pos) (evFnK gg is ks.length gk) := by
  obtain ⟨fd, F, hb, hk, FD⟩ := F
  exact se_callK F (hr.mono hj) hg hm hk (FunD.kb FD hd) hkw hall hks hdb hpl
/-- a, b, .. = x, y, .. by way of a tuple -/
def sUnp (n : Nat) (ga : EvA) (gs : EvGs) : EvS := fun env S => (ga env S).bind fun ds S1 => if ds.length = n ∧ n ≤ sizeLine then (gs ds env S1).bind fun env1 S2 => .ok (.nx env1) S2 else .bad
theorem ss_unp {tgs : List Expr} {gs : EvGs} {n k1 k2 : Nat} {p1 p2 : Pos} (ha : SA X W es ga) (hg : SGs X W tgs gs) (hc : X.calm = true := by rfl) (hn : (assignEach tgs X.env).length = n := by rfl) (hst : (assignEach tgs X.env).findIdx? (·.1) = none := by rfl)
    (hs : swapsWithSole [.Tuple tgs k1 p1] (.Tuple es k2 p2) pos.line X.env = pure false := by rfl) (hw : swappedStores [.Tuple tgs k1 p1] (.Tuple es k2 p2) X.env = pure none := by rfl) (h1 : (assignEach [.Tuple tgs k1 p1] X.env).map (·.2) = [assign (.Tuple tgs k1 p1) X.env] := by rfl) :
    SS X W (.Assign [.Tuple tgs k1 p1] (.Tuple es k2 p2) pos) (sUnp n ga gs) :=
  (ps_asg (pe_tup ha) (pg_tup hc hg hn hst) hs hw h1).imp fun D σ H ⟨env, m, S, rE, rel, p⟩ => ⟨env, m, S, rE, rel, p.bind.mono fun m1 S1 H1 ds A1 rel1 p1 vs r1 => by
    split at p1
    · rename_i hl
      refine ⟨by rw [paired_len r1, hl.1]; exact hl.2, fun q hq => ⟨q, vs, rfl, .of upd_same, by rw [paired_len r1]; exact hl.1, ?_⟩⟩
      have A := Aft.grow (S := S1) (m := m1) (o := .tup vs) hq
      exact ⟨env, m1, S1, ds, (rE.aft A1).aft A, rel1.grow hq, RVs.aft A r1, (p1.move A).bind.mono fun m2 S2 H2 env2 A2 rel2 p2 σ2 rE2 => p2.ok rel2 _ rE2⟩
    · exact p1.elim⟩
/-- a def that calls itself: nothing is claimed at depth 0 -/
theorem rec0 {P : Program} {w : World} {fa : List He.Fa} {fn : List He.DefD} {K : PySem.W.Frag} {mg : Str → Option Value} {base : Heap} {k : Nat} {d : He.DefD} {ps : List Str} (E : Fc fa fn K mg) (i : Nat)
    (hb : ∀ (kV doc pm : Value) (an : Option Addr) (cdv ct : Value) (us : List Value), us.length = ps.length → bindArgs (PySem.W.fnOf d.name d.qual d.params d.body d.scope .none kV doc pm an cdv ct) ⟨us, []⟩ = pure (ps.zip us))
    (h : fn[i]? = some d := by rfl) (h1 : d.dfl = [] := by rfl) (h2 : d.kwd = [] := by rfl) : OkF P w K mg base k d ps (fun _ _ => .bad) := by
  obtain ⟨fd, F⟩ := E.says.def_ i h
  have e1 : d.dvs K = [] := by unfold He.DefD.dvs; rw [h1]; rfl
  have e2 : d.kws K = [] := by unfold He.DefD.kws; rw [h2]; rfl
  rw [e1, e2] at F
  exact ⟨fd, ⟨fun vs H Q E ⟨_, _, _, _, _, p⟩ => p.elim, fun A outer s H args us vs Q E hr he hbd hv ⟨_, _, _, _, _, p⟩ => p.elim⟩, F.bindsN hb, F.kp, F⟩
end
end
end MP
set_option Elab.async false
set_option linter.all false
set_option maxRecDepth 100000
namespace F
open PySem PySem.Spec L2 MP
noncomputable section
def kn : Str → Str → Bool := fun c f => (decide (c = "Stab") && decide (f = "high")) || (decide (c = "Stab") && decide (f = "low")) || (decide (c = "Stab") && decide (f = "points")) || (decide (c = "Stab") && decide (f = "wide"))
def bdivisor : EvS := sSeq (sPar 0 1 (evCons (evCall absD (evCons (evVar 0) evNil)) (evCons (evCall absD (evCons (evVar 1) evNil)) evNil))) (sSeq (sWhile (evTru (evVar 1)) (sPar 0 1 (evCons (evVar 1) (evCons (ev2 modD (evVar 0) (evVar 1)) evNil)))) (sRet (evVar 0)))
def fdivisor : List Val → Sto → R Val := fnD leave 2 2 bdivisor
def blowest : EvS := sSeq (sAsg (evFn F.fdivisor (evCons (evVar 0) (evCons (evVar 1) evNil))) (gVar 2)) (sSeq (sIf (asB (ev2 ltD (evVar 1) (evC (.int 0)))) (sAsg (ev1 negD (evVar 2)) (gVar 2)) (sNext)) (sRet (evTup (evCons (ev2 fdivD (evVar 0) (evVar 2)) (evCons (ev2 fdivD (evVar 1) (evVar 2)) evNil)))))
def flowest : List Val → Sto → R Val := fnD leave 2 3 blowest
def bplus : EvS := sSeq (sIf (asB (ev2 (eqD false) (ev2 idxD (evVar 0) (evC (.int 0))) (evC (.int 0)))) (sRet (evVar 1)) (sNext)) (sSeq (sIf (asB (ev2 (eqD false) (ev2 idxD (evVar 1) (evC (.int 0))) (evC (.int 0)))) (sRet (evVar 0)) (sNext)) (sRet (evFn F.flowest (evCons (ev2 addD (ev2 mulD (ev2 idxD (evVar 0) (evC (.int 0))) (ev2 idxD (evVar 1) (evC (.int 1)))) (ev2 mulD (ev2 idxD (evVar 1) (evC (.int 0))) (ev2 idxD (evVar 0) (evC (.int 1))))) (evCons (ev2 mulD (ev2 idxD (evVar 0) (evC (.int 1))) (ev2 idxD (evVar 1) (evC (.int 1)))) evNil)))))
def fplus : List Val → Sto → R Val := fnD leave 2 2 bplus
def bminus : EvS := sRet (evFn F.fplus (evCons (evVar 0) (evCons (evTup (evCons (ev1 negD (ev2 idxD (evVar 1) (evC (.int 0)))) (evCons (ev2 idxD (evVar 1) (evC (.int 1))) evNil))) evNil)))
def fminus : List Val → Sto → R Val := fnD leave 2 2 bminus
def bproduct : EvS := sRet (evFn F.flowest (evCons (ev2 mulD (ev2 idxD (evVar 0) (evC (.int 0))) (ev2 idxD (evVar 1) (evC (.int 0)))) (evCons (ev2 mulD (ev2 idxD (evVar 0) (evC (.int 1))) (ev2 idxD (evVar 1) (evC (.int 1)))) evNil)))
def fproduct : List Val → Sto → R Val := fnD leave 2 2 bproduct
def bquotient : EvS := sRet (evFn F.flowest (evCons (ev2 mulD (ev2 idxD (evVar 0) (evC (.int 0))) (ev2 idxD (evVar 1) (evC (.int 1)))) (evCons (ev2 mulD (ev2 idxD (evVar 0) (evC (.int 1))) (ev2 idxD (evVar 1) (evC (.int 0)))) evNil)))
def fquotient : List Val → Sto → R Val := fnD leave 2 2 bquotient
def bis_less : EvS := sRet (ev2 ltD (ev2 mulD (ev2 idxD (evVar 0) (evC (.int 0))) (ev2 idxD (evVar 1) (evC (.int 1)))) (ev2 mulD (ev2 idxD (evVar 1) (evC (.int 0))) (ev2 idxD (evVar 0) (evC (.int 1)))))
def fis_less : List Val → Sto → R Val := fnD leave 2 2 bis_less
def bStab___init__ : EvS := sSeq (sAsg (evFn F.fproduct (evCons (evTup (evCons (evC (.int 2)) (evCons (evC (.int 1)) evNil))) (evCons (evVar 1) evNil))) (gFld F.kn "wide" (evVar 0))) (sSeq (sAsg (evLst true evNil) (gFld F.kn "points" (evVar 0))) (sUnp 2 (evCons (evC .none) (evCons (evC .none) evNil)) (gsCons (gFld F.kn "low" (evVar 0)) (gsCons (gFld F.kn "high" (evVar 0)) gsNil))))
def fStab___init__ : List Val → Sto → R Val := fnD stay 2 2 bStab___init__
def bStab_takes : EvS := sSeq (sPar 2 3 (evCons (ev1 (fldD F.kn "low") (evVar 0)) (evCons (ev1 (fldD F.kn "high") (evVar 0)) evNil))) (sSeq (sKill [4, 5, 6, 7, 8, 9] (sFor (iSeq (ev1 (fldD F.kn "points") (evVar 0))) (gTupD 2 (gsCons (gVar 4) (gsCons (gVar 5) gsNil))) (sKill [4, 5, 6, 7, 8, 9] (sSeq (sPar 6 7 (evCons (evFn F.fminus (evCons (ev2 idxD (evVar 1) (evC (.int 0))) (evCons (evVar 4) evNil))) (evCons (evFn F.fminus (evCons (ev2 idxD (evVar 1) (evC (.int 1))) (evCons (evVar 5) evNil))) evNil))) (sSeq (sPar 8 9 (evCons (evFn F.fquotient (evCons (evFn F.fminus (evCons (evVar 7) (evCons (ev1 (fldD F.kn "wide") (evVar 0)) evNil))) (evCons (evVar 6) evNil))) (evCons (evFn F.fquotient (evCons (evFn F.fplus (evCons (evVar 7) (evCons (ev1 (fldD F.kn "wide") (evVar 0)) evNil))) (evCons (evVar 6) evNil))) evNil))) (sSeq (sAsg (evIf (evOr (asB (ev2 (isD false) (evVar 2) (evC .none))) (evTru (evFn F.fis_less (evCons (evVar 2) (evCons (evVar 8) evNil))))) (evVar 8) (evVar 2)) (gVar 2)) (sAsg (evIf (evOr (asB (ev2 (isD false) (evVar 3) (evC .none))) (evTru (evFn F.fis_less (evCons (evVar 9) (evCons (evVar 3) evNil))))) (evVar 9) (evVar 3)) (gVar 3)))))))) (sSeq (sIf (evAnd (asB (ev2 (isD true) (evVar 2) (evC .none))) (evTru (evFn F.fis_less (evCons (evVar 3) (evCons (evVar 2) evNil))))) (sRet (evC (.bool false))) (sNext)) (sSeq (sUnp 2 (evCons (evVar 2) (evCons (evVar 3) evNil)) (gsCons (gFld F.kn "low" (evVar 0)) (gsCons (gFld F.kn "high" (evVar 0)) gsNil))) (sSeq (sExpr (evM appD (ev1 (fldD F.kn "points") (evVar 0)) (evCons (evVar 1) evNil))) (sRet (evC (.bool true)))))))
def fStab_takes : List Val → Sto → R Val := fnD leave 2 10 bStab_takes
def bstabbed : EvS := sSeq (sAsg (evLst true evNil) (gVar 2)) (sSeq (sAsg (evC .none) (gVar 3)) (sSeq (sKill [3, 4, 5] (sFor (iEnu (evCons (evVar 0) evNil)) (gTupD 2 (gsCons (gVar 4) (gsCons (gVar 5) gsNil))) (sKill [4, 5] (sIf (evOr (asB (ev2 (isD false) (evVar 3) (evC .none))) (evNot (evTru (evMeth "Stab" "takes" F.fStab_takes (evVar 3) (evCons (evVar 5) evNil))))) (sSeq (sExpr (evM appD (evVar 2) (evCons (evVar 4) evNil))) (sSeq (sAsg (evMake "Stab" F.fStab___init__ (evCons (evVar 1) evNil)) (gVar 3)) (sExpr (evMeth "Stab" "takes" F.fStab_takes (evVar 3) (evCons (evVar 5) evNil))))) (sNext))))) (sRet (evTup (evCons (evCall lenD (evCons (evVar 2) evNil)) (evCons (evCall tupD (evCons (evVar 2) evNil)) evNil))))))
def fstabbed : List Val → Sto → R Val := fnD leave 2 6 bstabbed
def b_law_mixed : EvS := sSeq (sAsg (ev2 modD (evCall intD (evCons (ev2 addD (ev2 addD (ev2 mulD (evVar 0) (evC (.int 48271))) (ev2 mulD (evVar 1) (evC (.int 69621)))) (evC (.int 11))) evNil)) (evC (.int 2147483647))) (gVar 2)) (sSeq (sAsg (ev2 modD (evCall intD (evCons (ev2 addD (ev2 addD (ev2 mulD (evVar 2) (evC (.int 16807))) (ev2 fdivD (evVar 2) (evC (.int 127773)))) (ev2 mulD (evVar 1) (evC (.int 271)))) evNil)) (evC (.int 1000003))) (gVar 3)) (sRet (ev2 modD (evCall intD (evCons (ev2 addD (ev2 mulD (evVar 3) (evVar 3)) (ev2 fdivD (evVar 2) (evC (.int 1009)))) evNil)) (evC (.int 999983)))))
def f_law_mixed : List Val → Sto → R Val := fnD leave 2 4 b_law_mixed
def b_law_tape : EvS := sRet (evDisp [("cells", evCall (listD false) (evCons (evVar 0) evNil)), ("at", evC (.int 0)), ("great", evC (.int 0)), ("left", evC (.int 0)), ("seed", evC (.int 7)), ("turn", evC (.int 0))])
def f_law_tape : List Val → Sto → R Val := fnD stay 1 1 b_law_tape
def b_law_draw : EvS := sSeq (sDput (evVar 0) (evC (.str "turn")) (ev2 addD (ev2 dixD (evVar 0) (evC (.str "turn"))) (evC (.int 1)))) (sSeq (sIf (evAnd (asB (ev2 (eqD false) (ev2 dixD (evVar 0) (evC (.str "left"))) (evC (.int 0)))) (asB (ev2 ltD (ev2 dixD (evVar 0) (evC (.str "at"))) (evCall lenD (evCons (ev2 dixD (evVar 0) (evC (.str "cells"))) evNil))))) (sSeq (sAsg (ev2 idxD (ev2 dixD (evVar 0) (evC (.str "cells"))) (ev2 dixD (evVar 0) (evC (.str "at")))) (gVar 2)) (sSeq (sDput (evVar 0) (evC (.str "at")) (ev2 addD (ev2 dixD (evVar 0) (evC (.str "at"))) (evC (.int 1)))) (sSeq (sDput (evVar 0) (evC (.str "seed")) (evFn F.f_law_mixed (evCons (ev2 addD (ev2 dixD (evVar 0) (evC (.str "seed"))) (evVar 2)) (evCons (ev2 dixD (evVar 0) (evC (.str "at"))) evNil)))) (sSeq (sDput (evVar 0) (evC (.str "left")) (evC (.int 4))) (sIf (asB (ev2 geD (evVar 2) (ev2 powD (evC (.int 10)) (evC (.int 18))))) (sSeq (sDput (evVar 0) (evC (.str "great")) (evVar 2)) (sDput (evVar 0) (evC (.str "left")) (evC (.int 60)))) (sNext)))))) (sNext)) (sSeq (sIf (asB (ev2 gtD (ev2 dixD (evVar 0) (evC (.str "left"))) (evC (.int 0)))) (sDput (evVar 0) (evC (.str "left")) (ev2 subD (ev2 dixD (evVar 0) (evC (.str "left"))) (evC (.int 1)))) (sNext)) (sSeq (sIf (asB (ev2 (eqD false) (ev2 dixD (evVar 0) (evC (.str "great"))) (evC (.int 0)))) (sRet (ev2 modD (evCall intD (evCons (evFn F.f_law_mixed (evCons (ev2 dixD (evVar 0) (evC (.str "seed"))) (evCons (ev2 dixD (evVar 0) (evC (.str "turn"))) evNil))) evNil)) (evVar 1))) (sNext)) (sSeq (sAsg (ev2 modD (evCall intD (evCons (ev2 dixD (evVar 0) (evC (.str "great"))) evNil)) (evC (.int 1009))) (gVar 3)) (sSeq (sDput (evVar 0) (evC (.str "great")) (ev2 fdivD (ev2 dixD (evVar 0) (evC (.str "great"))) (evC (.int 1009)))) (sSeq (sIf (evOr (asB (ev2 (eqD false) (ev2 dixD (evVar 0) (evC (.str "great"))) (evC (.int 0)))) (asB (ev2 (eqD false) (ev2 dixD (evVar 0) (evC (.str "left"))) (evC (.int 0))))) (sSeq (sDput (evVar 0) (evC (.str "great")) (evC (.int 0))) (sDput (evVar 0) (evC (.str "left")) (evC (.int 0)))) (sNext)) (sRet (ev2 modD (evCall intD (evCons (evVar 3) evNil)) (evVar 1)))))))))
def f_law_draw : List Val → Sto → R Val := fnD leave 2 4 b_law_draw
def b_law_same (n : List Val → Sto → R Val) : EvS := sSeq (sIf (evTru (ev1 (isiD "tuple") (evVar 1))) (sSeq (sIf (evOr (evNot (evTru (ev1 (isiD "tuple") (evVar 0)))) (asB (ev2 (eqD true) (evCall lenD (evCons (evVar 0) evNil)) (evCall lenD (evCons (evVar 1) evNil))))) (sRet (evC (.bool false))) (sNext)) (sSeq (sKill [2] (sFor (iRng rng1 (evCons (evCall lenD (evCons (evVar 1) evNil)) evNil)) (gVar 2) (sKill [2] (sIf (evNot (evTru (evFn n (evCons (ev2 idxD (evVar 0) (evVar 2)) (evCons (ev2 idxD (evVar 1) (evVar 2)) evNil))))) (sRet (evC (.bool false))) (sNext))))) (sRet (evC (.bool true))))) (sNext)) (sSeq (sIf (asB (ev2 (isD false) (evVar 1) (evC .none))) (sRet (ev2 (isD false) (evVar 0) (evC .none))) (sNext)) (sSeq (sIf (evTru (ev1 (isiD "str") (evVar 1))) (sRet (evAndV (ev1 (isiD "str") (evVar 0)) (ev2 (eqD false) (evVar 0) (evVar 1)))) (sNext)) (sSeq (sIf (evTru (ev1 (isiD "bool") (evVar 1))) (sRet (evAndV (ev1 (isiD "bool") (evVar 0)) (ev2 (eqD false) (evVar 0) (evVar 1)))) (sNext)) (sRet (evAndV (ev1 (isiD "int") (evVar 0)) (evAndV (ev1 notD (ev1 (isiD "bool") (evVar 0))) (ev2 (eqD false) (evVar 0) (evVar 1))))))))
def f_law_same : Nat → List Val → Sto → R Val
  | 0 => fun _ _ => .bad
  | n + 1 => fnD leave 2 3 (b_law_same (f_law_same n))
def b_law_fr : EvS := sSeq (sPar 2 3 (evCons (evCall absD (evCons (evVar 0) evNil)) (evCons (evCall absD (evCons (evVar 1) evNil)) evNil))) (sSeq (sKill [3, 4] (sFor (iRng rng1 (evCons (evC (.int 100000)) evNil)) (gVar 4) (sKill [4] (sSeq (sIf (asB (ev2 (eqD false) (evVar 3) (evC (.int 0)))) (sBreak) (sNext)) (sPar 2 3 (evCons (evVar 3) (evCons (ev2 modD (evCall intD (evCons (evVar 2) evNil)) (evVar 3)) evNil))))))) (sRet (evIf (asB (ev2 gtD (evVar 1) (evC (.int 0)))) (evTup (evCons (ev2 fdivD (evVar 0) (evVar 2)) (evCons (ev2 fdivD (evVar 1) (evVar 2)) evNil))) (evTup (evCons (ev2 subD (evC (.int 0)) (ev2 fdivD (evVar 0) (evVar 2))) (evCons (ev2 subD (evC (.int 0)) (ev2 fdivD (evVar 1) (evVar 2))) evNil))))))
def f_law_fr : List Val → Sto → R Val := fnD leave 2 5 b_law_fr
def b_law_plus : EvS := sRet (evFn F.f_law_fr (evCons (ev2 addD (ev2 mulD (ev2 idxD (evVar 0) (evC (.int 0))) (ev2 idxD (evVar 1) (evC (.int 1)))) (ev2 mulD (ev2 idxD (evVar 1) (evC (.int 0))) (ev2 idxD (evVar 0) (evC (.int 1))))) (evCons (ev2 mulD (ev2 idxD (evVar 0) (evC (.int 1))) (ev2 idxD (evVar 1) (evC (.int 1)))) evNil)))
def f_law_plus : List Val → Sto → R Val := fnD leave 2 2 b_law_plus
def b_law_minus : EvS := sRet (evFn F.f_law_fr (evCons (ev2 subD (ev2 mulD (ev2 idxD (evVar 0) (evC (.int 0))) (ev2 idxD (evVar 1) (evC (.int 1)))) (ev2 mulD (ev2 idxD (evVar 1) (evC (.int 0))) (ev2 idxD (evVar 0) (evC (.int 1))))) (evCons (ev2 mulD (ev2 idxD (evVar 0) (evC (.int 1))) (ev2 idxD (evVar 1) (evC (.int 1)))) evNil)))
def f_law_minus : List Val → Sto → R Val := fnD leave 2 2 b_law_minus
def b_law_of_both : EvS := sRet (evFn F.f_law_fr (evCons (ev2 mulD (ev2 idxD (evVar 0) (evC (.int 0))) (ev2 idxD (evVar 1) (evC (.int 0)))) (evCons (ev2 mulD (ev2 idxD (evVar 0) (evC (.int 1))) (ev2 idxD (evVar 1) (evC (.int 1)))) evNil)))
def f_law_of_both : List Val → Sto → R Val := fnD leave 2 2 b_law_of_both
def b_law_over : EvS := sRet (evFn F.f_law_fr (evCons (ev2 mulD (ev2 idxD (evVar 0) (evC (.int 0))) (ev2 idxD (evVar 1) (evC (.int 1)))) (evCons (ev2 mulD (ev2 idxD (evVar 0) (evC (.int 1))) (ev2 idxD (evVar 1) (evC (.int 0)))) evNil)))
def f_law_over : List Val → Sto → R Val := fnD leave 2 2 b_law_over
def b_law_less : EvS := sRet (ev2 ltD (ev2 mulD (ev2 idxD (evVar 0) (evC (.int 0))) (ev2 idxD (evVar 1) (evC (.int 1)))) (ev2 mulD (ev2 idxD (evVar 1) (evC (.int 0))) (ev2 idxD (evVar 0) (evC (.int 1)))))
def f_law_less : List Val → Sto → R Val := fnD leave 2 2 b_law_less
def b_law_drawn : EvS := sRet (evFn F.f_law_fr (evCons (ev2 subD (evFn F.f_law_draw (evCons (evVar 0) (evCons (ev2 addD (ev2 mulD (evC (.int 2)) (evVar 1)) (evC (.int 1))) evNil))) (evVar 1)) (evCons (ev2 idxD (evVar 2) (evFn F.f_law_draw (evCons (evVar 0) (evCons (evCall lenD (evCons (evVar 2) evNil)) evNil)))) evNil)))
def f_law_drawn : List Val → Sto → R Val := fnD leave 3 3 b_law_drawn
def b_law_scene : EvS := sSeq (sAsg (ev2 idxD (evLst false (evCons (evTup (evCons (evC (.int 0)) (evCons (evC (.int 1)) evNil))) (evCons (evTup (evCons (evC (.int 1)) (evCons (evC (.int 2)) evNil))) (evCons (evTup (evCons (evC (.int 1)) (evCons (evC (.int 1)) evNil))) (evCons (evTup (evCons (evC (.int 2)) (evCons (evC (.int 3)) evNil))) (evCons (evTup (evCons (evC (.int 5)) (evCons (evC (.int 1)) evNil))) (evCons (evTup (evCons (evC (.int 1)) (evCons (evC (.int 7)) evNil))) evNil))))))) (evFn F.f_law_draw (evCons (evVar 0) (evCons (evC (.int 6)) evNil)))) (gVar 1)) (sSeq (sUnp 4 (evCons (evFn F.f_law_drawn (evCons (evVar 0) (evCons (evC (.int 5)) (evCons (evLst false (evCons (evC (.int 1)) (evCons (evC (.int 2)) evNil))) evNil)))) (evCons (evTup (evCons (evC (.int 0)) (evCons (evC (.int 1)) evNil))) (evCons (evTup (evCons (evC (.int 0)) (evCons (evC (.int 1)) evNil))) (evCons (evLst true evNil) evNil)))) (gsCons (gVar 2) (gsCons (gVar 3) (gsCons (gVar 4) (gsCons (gVar 5) gsNil))))) (sSeq (sAsg (evFn F.f_law_draw (evCons (evVar 0) (evCons (evC (.int 4)) evNil))) (gVar 6)) (sSeq (sKill [2, 3, 4, 7, 8, 9] (sFor (iRng rng1 (evCons (ev2 addD (evC (.int 1)) (evFn F.f_law_draw (evCons (evVar 0) (evCons (evC (.int 14)) evNil)))) evNil)) (gVar 7) (sKill [7, 8, 9] (sSeq (sIf (asB (ev2 (eqD false) (evFn F.f_law_draw (evCons (evVar 0) (evCons (evC (.int 5)) evNil))) (evC (.int 0)))) (sAsg (evFn F.f_law_drawn (evCons (evVar 0) (evCons (evC (.int 3)) (evCons (evLst false (evCons (evC (.int 1)) (evCons (evC (.int 2)) evNil))) evNil)))) (gVar 3)) (sNext)) (sSeq (sAsg (evVar 4) (gVar 8)) (sSeq (sIf (asB (ev2 gtD (evVar 6) (evC (.int 0)))) (sAsg (evFn F.f_law_plus (evCons (evVar 4) (evCons (evFn F.f_law_of_both (evCons (evVar 1) (evCons (ev2 idxD (evLst false (evCons (evTup (evCons (evC (.int 0)) (evCons (evC (.int 1)) evNil))) (evCons (evTup (evCons (evC (.int 1)) (evCons (evC (.int 1)) evNil))) (evCons (evTup (evCons (ev1 negD (evC (.int 1))) (evCons (evC (.int 1)) evNil))) (evCons (evTup (evCons (evC (.int 1)) (evCons (evC (.int 2)) evNil))) (evCons (evTup (evCons (ev1 negD (evC (.int 2))) (evCons (evC (.int 3)) evNil))) (evCons (evTup (evCons (evC (.int 3)) (evCons (evC (.int 2)) evNil))) evNil))))))) (evFn F.f_law_draw (evCons (evVar 0) (evCons (evC (.int 6)) evNil)))) evNil))) evNil))) (gVar 8)) (sNext)) (sSeq (sIf (evAnd (asB (ev2 (eqD false) (evVar 6) (evC (.int 3)))) (asB (ev2 (eqD false) (evFn F.f_law_draw (evCons (evVar 0) (evCons (evC (.int 4)) evNil))) (evC (.int 0))))) (sAsg (evFn F.f_law_drawn (evCons (evVar 0) (evCons (evC (.int 6)) (evCons (evLst false (evCons (evC (.int 1)) (evCons (evC (.int 3)) evNil))) evNil)))) (gVar 8)) (sNext)) (sSeq (sExpr (evM appD (evVar 5) (evCons (evTup (evCons (evVar 2) (evCons (evVar 8) evNil))) evNil))) (sSeq (sAsg (evFn F.f_law_fr (evCons (ev2 addD (evC (.int 1)) (evFn F.f_law_draw (evCons (evVar 0) (evCons (evC (.int 4)) evNil)))) (evCons (ev2 addD (evC (.int 1)) (evFn F.f_law_draw (evCons (evVar 0) (evCons (evC (.int 3)) evNil)))) evNil))) (gVar 9)) (sPar 2 4 (evCons (evFn F.f_law_plus (evCons (evVar 2) (evCons (evVar 9) evNil))) (evCons (evFn F.f_law_plus (evCons (evVar 4) (evCons (evFn F.f_law_of_both (evCons (evVar 3) (evCons (evVar 9) evNil))) evNil))) evNil)))))))))))) (sRet (evTup (evCons (evCall tupD (evCons (evVar 5) evNil)) (evCons (evVar 1) evNil)))))))
def f_law_scene : List Val → Sto → R Val := fnD leave 1 10 b_law_scene
def b_law_is_near : EvS := sSeq (sPar3 2 3 4 (evCons (evC .none) (evCons (evC .none) (evCons (evFn F.f_law_plus (evCons (evVar 1) (evCons (evVar 1) evNil))) evNil)))) (sSeq (sKill [5, 6, 7, 8, 9, 10] (sFor (iRng rng1 (evCons (evCall lenD (evCons (evVar 0) evNil)) evNil)) (gVar 5) (sKill [5] (sKill [6, 7, 8, 9, 10] (sFor (iRng rng2 (evCons (ev2 addD (evVar 5) (evC (.int 1))) (evCons (evCall lenD (evCons (evVar 0) evNil)) evNil))) (gVar 6) (sKill [6, 7, 8, 9, 10] (sSeq (sAsg (evFn F.f_law_minus (evCons (ev2 idxD (ev2 idxD (evVar 0) (evVar 6)) (evC (.int 0))) (evCons (ev2 idxD (ev2 idxD (evVar 0) (evVar 5)) (evC (.int 0))) evNil))) (gVar 7)) (sSeq (sAsg (evFn F.f_law_minus (evCons (ev2 idxD (ev2 idxD (evVar 0) (evVar 6)) (evC (.int 1))) (evCons (ev2 idxD (ev2 idxD (evVar 0) (evVar 5)) (evC (.int 1))) evNil))) (gVar 8)) (sSeq (sPar 9 10 (evCons (evFn F.f_law_over (evCons (evFn F.f_law_minus (evCons (evVar 8) (evCons (evVar 4) evNil))) (evCons (evVar 7) evNil))) (evCons (evFn F.f_law_over (evCons (evFn F.f_law_plus (evCons (evVar 8) (evCons (evVar 4) evNil))) (evCons (evVar 7) evNil))) evNil))) (sSeq (sAsg (evIf (evOr (asB (ev2 (isD false) (evVar 2) (evC .none))) (evTru (evFn F.f_law_less (evCons (evVar 2) (evCons (evVar 9) evNil))))) (evVar 9) (evVar 2)) (gVar 2)) (sAsg (evIf (evOr (asB (ev2 (isD false) (evVar 3) (evC .none))) (evTru (evFn F.f_law_less (evCons (evVar 10) (evCons (evVar 3) evNil))))) (evVar 10) (evVar 3)) (gVar 3)))))))))))) (sRet (evOrV (ev2 (isD false) (evVar 2) (evC .none)) (ev1 notD (evFn F.f_law_less (evCons (evVar 3) (evCons (evVar 2) evNil)))))))
def f_law_is_near : List Val → Sto → R Val := fnD leave 2 11 b_law_is_near
def b_law_ends : EvS := sSeq (sPar 2 3 (evCons (evLst true evNil) (evCons (evC (.int 0)) evNil))) (sSeq (sKill [3, 4, 5] (sFor (iRng rng1 (evCons (evCall lenD (evCons (evVar 0) evNil)) evNil)) (gVar 4) (sKill [4] (sSeq (sAsg (evCall maxD (evCons (evC (.int 1)) (evCons (ev2 subD (evVar 3) (evC (.int 1))) evNil))) (gVar 3)) (sSeq (sKill [5] (sFor (iRng rng1 (evCons (evCall lenD (evCons (evVar 0) evNil)) evNil)) (gVar 5) (sKill [5] (sSeq (sIf (evOr (asB (ev2 geD (ev2 addD (evVar 4) (evVar 3)) (evCall lenD (evCons (evVar 0) evNil)))) (evNot (evTru (evFn F.f_law_is_near (evCons (evSlc false (evVar 0) (evSome (evVar 4)) (evSome (ev2 addD (ev2 addD (evVar 4) (evVar 3)) (evC (.int 1))))) (evCons (evVar 1) evNil)))))) (sBreak) (sNext)) (sAsg (ev2 addD (evVar 3) (evC (.int 1))) (gVar 3)))))) (sExpr (evM appD (evVar 2) (evCons (evVar 3) evNil)))))))) (sRet (evVar 2)))
def f_law_ends : List Val → Sto → R Val := fnD leave 2 6 b_law_ends
def blaw : EvS := sSeq (sAsg (evFn F.f_law_tape (evCons (evVar 0) evNil)) (gVar 1)) (sSeq (sKill [2, 3, 4, 5, 6, 7, 8, 9, 10] (sFor (iRng rng1 (evCons (evC (.int 2)) evNil)) (gVar 2) (sKill [2, 3, 4, 5, 6, 7, 9, 10] (sSeq (sAsg (evFn F.f_law_scene (evCons (evVar 1) evNil)) (gTupD 2 (gsCons (gVar 3) (gsCons (gVar 4) gsNil)))) (sSeq (sPar3 5 6 7 (evCons (evFn F.f_law_ends (evCons (evVar 3) (evCons (evVar 4) evNil))) (evCons (evLst true evNil) (evCons (evC (.int 0)) evNil)))) (sSeq (sKill [8] (sFor (iRng rng1 (evCons (evCall lenD (evCons (evVar 3) evNil)) evNil)) (gVar 8) (sKill [8] (sIf (asB (ev2 ltD (evVar 7) (evCall lenD (evCons (evVar 3) evNil)))) (sSeq (sExpr (evM appD (evVar 6) (evCons (evVar 7) evNil))) (sAsg (ev2 addD (evVar 7) (ev2 idxD (evVar 5) (evVar 7))) (gVar 7))) (sNext))))) (sSeq (sAsg (evRep true (evCons (evC (.int 0)) evNil) (ev2 addD (evCall lenD (evCons (evVar 3) evNil)) (evC (.int 1)))) (gVar 9)) (sSeq (sFor (iRng rng3 (evCons (ev2 subD (evCall lenD (evCons (evVar 3) evNil)) (evC (.int 1))) (evCons (ev1 negD (evC (.int 1))) (evCons (ev1 negD (evC (.int 1))) evNil)))) (gVar 7) (sAsg (ev2 addD (evC (.int 1)) (evCall minLD (evCons (evSlc false (evVar 9) (evSome (ev2 addD (evVar 7) (evC (.int 1)))) (evSome (ev2 addD (ev2 addD (evVar 7) (ev2 idxD (evVar 5) (evVar 7))) (evC (.int 1))))) evNil))) (gIt (evVar 9) (evVar 7)))) (sSeq (sIf (asB (ev2 (eqD true) (ev2 idxD (evVar 9) (evC (.int 0))) (evCall lenD (evCons (evVar 6) evNil)))) (sRet (evC (.bool false))) (sNext)) (sSeq (sAsg (evTup (evCons (evCall lenD (evCons (evVar 6) evNil)) (evCons (evCall tupD (evCons (evVar 6) evNil)) evNil))) (gVar 10)) (sIf (evNot (evTru (evFn (F.f_law_same 6) (evCons (evTup (evCons (evFn F.fstabbed (evCons (evVar 3) (evCons (evVar 4) evNil))) (evCons (evFnK F.fstabbed [1, 0] 2 (evCons (evVar 4) (evCons (evVar 3) evNil))) evNil))) (evCons (evTup (evCons (evVar 10) (evCons (evVar 10) evNil))) evNil))))) (sRet (evC (.bool false))) (sNext)))))))))))) (sRet (evC (.bool true))))
def flaw : List Val → Sto → R Val := fnD leave 1 11 blaw
end
end F
set_option Elab.async false
set_option linter.all false
set_option maxRecDepth 100000
namespace MP
open PySem PySem.Spec L2
noncomputable section
open Classical
/-! Q0: how the evaluator's terms are reckoned -/
section
variable {α β : Type} (env : Env) (S : Sto) (i j n : Nat) (a b c : EvE) (ga : EvA) (x y z : Val) (f g : EvS) (d : D) (cc tt : EvB)
@[simp] theorem q_var : evVar i env S = match env[i]? with | some (some d) => .ok d S | _ => .bad := rfl
@[simp] theorem q_c : evC d env S = .ok (.im d) S := rfl
@[simp] theorem q_1 (h : Val → Sto → R Val) : ev1 h a env S = (a env S).bind h := rfl
@[simp] theorem q_2 (h : Val → Val → Sto → R Val) : ev2 h a b env S = (a env S).bind fun x S1 => (b env S1).bind fun y S2 => h x y S2 := rfl
@[simp] theorem q_nil : evNil env S = .ok [] S := rfl
@[simp] theorem q_cons : evCons a ga env S = (a env S).bind fun x S1 => (ga env S1).bind fun xs S2 => .ok (x :: xs) S2 := rfl
@[simp] theorem q_tup : evTup ga env S = (ga env S).bind fun xs S1 => match allIm xs with | some ds => if ds.length ≤ sizeLine then .ok (.im (.tuple ds)) S1 else .bad | none => .bad := rfl
@[simp] theorem q_lst (mu : Bool) : evLst mu ga env S = (ga env S).bind fun xs S1 => if xs.length ≤ sizeLine then newL mu xs S1 else .bad := rfl
@[simp] theorem q_call (h : List Val → Sto → R Val) : evCall h ga env S = (ga env S).bind h := rfl
@[simp] theorem q_fn (h : List Val → Sto → R Val) : evFn h ga env S = (ga env S).bind fun ds S1 => noX (h ds S1) := rfl
@[simp] theorem q_noX_ok (x : α) : noX (.ok x S : R α) = .ok x S := rfl
@[simp] theorem q_noX_bad : noX (.bad : R α) = .bad := rfl
@[simp] theorem q_asB : asB a env S = (a env S).bind fun d S1 => match d with | .im (.bool b) => .ok b S1 | _ => .bad := rfl
@[simp] theorem q_tru : evTru a env S = (a env S).bind truD := rfl
@[simp] theorem q_and : evAnd cc tt env S = (cc env S).bind fun b S1 => if b then tt env S1 else .ok false S1 := rfl
@[simp] theorem q_or : evOr cc tt env S = (cc env S).bind fun b S1 => if b then .ok true S1 else tt env S1 := rfl
@[simp] theorem q_not : evNot cc env S = (cc env S).bind fun b S1 => .ok (!b) S1 := rfl
@[simp] theorem q_if : evIf cc a b env S = (cc env S).bind fun t S1 => if t then a env S1 else b env S1 := rfl
@[simp] theorem q_andV : evAndV a b env S = (a env S).bind fun d S1 => match d with | .im (.bool true) => b env S1 | .im (.bool false) => .ok (.im (.bool false)) S1 | _ => .bad := rfl
@[simp] theorem q_orV : evOrV a b env S = (a env S).bind fun d S1 => match d with | .im (.bool true) => .ok (.im (.bool true)) S1 | .im (.bool false) => b env S1 | _ => .bad := rfl
@[simp] theorem q_slc (mu : Bool) (l u : EvO) : evSlc mu a l u env S = (a env S).bind fun d S1 => (l env S1).bind fun lo S2 => (u env S2).bind fun hi S3 => slcD mu d lo hi S3 := rfl
@[simp] theorem q_none : evNone env S = .ok none S := rfl
@[simp] theorem q_some : evSome a env S = (a env S).bind fun d S1 => match d with | .im (.int i) => .ok (some i) S1 | _ => .bad := rfl
@[simp] theorem q_M (h : Val → List Val → Sto → R Val) : evM h a ga env S = (a env S).bind fun o S1 => if isLst o S1 = true then (ga env S1).bind fun xs S2 => h o xs S2 else .bad := rfl
@[simp] theorem q_meth (cn m : Str) (h : List Val → Sto → R Val) : evMeth cn m h a ga env S = (a env S).bind fun d S1 => if isIns cn m d S1 = true then (ga env S1).bind fun ds S2 => noX (h (d :: ds) S2) else .bad := rfl
@[simp] theorem q_make (cn : Str) (h : List Val → Sto → R Val) : evMake cn h ga env S = (ga env S).bind fun ds S1 => (noX (h (.ref S1.objs.length :: ds) ⟨S1.objs ++ [.ins cn []], S1.esc⟩)).bind fun d S2 => match d with | .im .none => .ok (.ref S1.objs.length) S2 | _ => .bad := rfl
@[simp] theorem q_fnK (h : List Val → Sto → R Val) (is : List Nat) : evFnK h is n ga env S = (ga env S).bind fun ds S1 => if ds.length = n then noX (h (permL is ds) S1) else .bad := rfl
@[simp] theorem q_seq : sSeq f g env S = (f env S).bind fun fl S1 => match fl with | .nx env1 => g env1 S1 | _ => .ok fl S1 := rfl
@[simp] theorem q_next : sNext env S = .ok (.nx env) S := rfl
@[simp] theorem q_asg (h : EvG) : sAsg a h env S = (a env S).bind fun d S1 => (h d env S1).bind fun env1 S2 => .ok (.nx env1) S2 := rfl
@[simp] theorem q_gvar : gVar i x env S = .ok (env.set i (some x)) S := rfl
@[simp] theorem q_gsnil : gsNil [] env S = .ok env S := rfl
@[simp] theorem q_gscons (h : EvG) (hs : EvGs) (r : List Val) : gsCons h hs (x :: r) env S = (h x env S).bind fun env1 S1 => hs r env1 S1 := rfl
@[simp] theorem q_gtup (hs : EvGs) (ds : List D) : gTupD n hs (.im (.tuple ds)) env S = if ds.length = n then hs (ds.map .im) env S else .bad := rfl
@[simp] theorem q_unp (hs : EvGs) : sUnp n ga hs env S = (ga env S).bind fun ds S1 => if ds.length = n ∧ n ≤ sizeLine then (hs ds env S1).bind fun env1 S2 => .ok (.nx env1) S2 else .bad := rfl
@[simp] theorem q_par : sPar i j ga env S = (ga env S).bind fun ds S1 => match ds with | [d, e] => .ok (.nx ((env.set i (some d)).set j (some e))) S1 | _ => .bad := rfl
@[simp] theorem q_par3 (l : Nat) : sPar3 i j l ga env S = (ga env S).bind fun ds S1 => match ds with | [d, e, f] => .ok (.nx (((env.set i (some d)).set j (some e)).set l (some f))) S1 | _ => .bad := rfl
@[simp] theorem q_kill (is : List Nat) : sKill is f env S = (f env S).bind fun fl S1 => match fl with | .nx env1 => .ok (.nx (killE is env1)) S1 | _ => .ok fl S1 := rfl
@[simp] theorem q_killE0 : killE [] env = env := rfl
@[simp] theorem q_killE1 (is : List Nat) : killE (i :: is) env = killE is (env.set i none) := rfl
@[simp] theorem q_brk : sBreak env S = .ok (.bk env) S := rfl
@[simp] theorem q_cnt : sCont env S = .ok (.ct env) S := rfl
@[simp] theorem q_expr : sExpr a env S = (a env S).bind fun _ S1 => .ok (.nx env) S1 := rfl
@[simp] theorem q_ret : sRet a env S = (a env S).bind fun d S1 => .ok (.rt d) S1 := rfl
@[simp] theorem q_retN : sRetN env S = .ok (.rt (.im .none)) S := rfl
@[simp] theorem q_sif : sIf cc f g env S = (cc env S).bind fun b S1 => if b then f env S1 else g env S1 := rfl
@[simp] theorem q_for (fi : EvI) (h : EvG) : sFor fi h f env S = (fi env S).bind fun p S1 => forD p.2 h f p.1 env S1 := rfl
@[simp] theorem q_iseq : iSeq a env S = (a env S).bind seqI := rfl
@[simp] theorem q_irng (rg : List Val → Sto → R (List Val × (Sto → Prop))) : iRng rg ga env S = (ga env S).bind rg := rfl
@[simp] theorem q_ienu : iEnu ga env S = (ga env S).bind enumI := rfl
@[simp] theorem q_dput (v : EvE) : sDput a b v env S = (v env S).bind fun v S1 => (a env S1).bind fun o S2 => (b env S2).bind fun k S3 => (setKD o k v S3).bind fun _ S4 => .ok (.nx env) S4 := rfl
@[simp] theorem q_git : gIt a b x env S = (a env S).bind fun ov S1 => (b env S1).bind fun iv S2 => (setItD ov iv x S2).bind fun _ S3 => .ok env S3 := rfl
@[simp] theorem q_gfld (kn : Str → Str → Bool) (fn : Str) : gFld kn fn a x env S = (a env S).bind fun ov S1 => (setFldD kn fn ov x S1).bind fun _ S2 => .ok env S2 := rfl
@[simp] theorem q_rep (mu : Bool) : evRep mu ga b env S = (ga env S).bind fun xs S1 => if xs.length ≤ sizeLine then (b env S1).bind fun n S2 => repD mu xs n S2 else .bad := rfl
@[simp] theorem q_allIm0 : allIm [] = some [] := rfl
@[simp] theorem q_allIm1 (r : List Val) : allIm (.im d :: r) = (allIm r).map (d :: ·) := rfl
theorem q_line {k : Nat} (h : k ≤ 1000) : k ≤ sizeLine := by rw [sizeLine_eq]; omega
@[simp] theorem q_line0 : (0 : Nat) ≤ sizeLine := Nat.zero_le _
@[simp] theorem q_line1 : (1 : Nat) ≤ sizeLine := q_line (by decide)
@[simp] theorem q_line2 : (2 : Nat) ≤ sizeLine := q_line (by decide)
@[simp] theorem q_line3 : (3 : Nat) ≤ sizeLine := q_line (by decide)
@[simp] theorem q_line4 : (4 : Nat) ≤ sizeLine := q_line (by decide)
@[simp] theorem q_line5 : (5 : Nat) ≤ sizeLine := q_line (by decide)
@[simp] theorem q_line6 : (6 : Nat) ≤ sizeLine := q_line (by decide)
end
section
variable (S : Sto) (i j : Int)
@[simp] theorem q_add : addD (.im (.int i)) (.im (.int j)) S = .ok (.im (.int (i + j))) S := rfl
@[simp] theorem q_sub : subD (.im (.int i)) (.im (.int j)) S = .ok (.im (.int (i - j))) S := rfl
theorem q_mul (h : IntMulOk i j) : mulD (.im (.int i)) (.im (.int j)) S = .ok (.im (.int (i * j))) S := if_pos h
theorem q_div (h : DivOk i j) : fdivD (.im (.int i)) (.im (.int j)) S = .ok (.im (.int (i.fdiv j))) S := if_pos h
theorem q_mod (h : j ≠ 0) : modD (.im (.int i)) (.im (.int j)) S = .ok (.im (.int (i.fmod j))) S := if_pos h
@[simp] theorem q_neg : negD (.im (.int i)) S = .ok (.im (.int (-i))) S := rfl
@[simp] theorem q_notD (b : Bool) : notD (.im (.bool b)) S = .ok (.im (.bool (!b))) S := rfl
@[simp] theorem q_abs : absD [.im (.int i)] S = .ok (.im (.int (if i < 0 then -i else i))) S := rfl
@[simp] theorem q_int : intD [.im (.int i)] S = .ok (.im (.int i)) S := rfl
@[simp] theorem q_cmp (g : Int → Int → Bool) : cmpD g (.im (.int i)) (.im (.int j)) S = .ok (.im (.bool (g i j))) S := rfl
@[simp] theorem q_truB (b : Bool) : truD (.im (.bool b)) S = .ok b S := rfl
@[simp] theorem q_truI : truD (.im (.int i)) S = .ok (i != 0) S := rfl
theorem shaped_int : SeqAt.shaped (.int i) = true := rfl
@[simp] theorem q_eq : eqD false (.im (.int i)) (.im (.int j)) S = .ok (.im (.bool (i == j))) S := by
  show (if SeqAt.shaped (.int i) = true ∧ SeqAt.shaped (.int j) = true then (R.ok (.im (.bool (PyData.eqv (.int i) (.int j)))) S : R Val) else R.bad) = _
  rw [if_pos ⟨shaped_int i, shaped_int j⟩]
  rfl
@[simp] theorem q_ne : eqD true (.im (.int i)) (.im (.int j)) S = .ok (.im (.bool (!(i == j)))) S := by
  show (if SeqAt.shaped (.int i) = true ∧ SeqAt.shaped (.int j) = true then (R.ok (.im (.bool (!PyData.eqv (.int i) (.int j)))) S : R Val) else R.bad) = _
  rw [if_pos ⟨shaped_int i, shaped_int j⟩]
  rfl
@[simp] theorem q_is (d : D) : isD false (.im d) (.im .none) S = .ok (.im (.bool (match d with | .none => true | _ => false))) S := by cases d <;> rfl
@[simp] theorem q_isnot (d : D) : isD true (.im d) (.im .none) S = .ok (.im (.bool (match d with | .none => false | _ => true))) S := by cases d <;> rfl
@[simp] theorem q_max : maxD [.im (.int i), .im (.int j)] S = .ok (.im (.int (if j > i then j else i))) S := rfl
@[simp] theorem q_idxT (ds : List D) (k : Nat) : idxD (.im (.tuple ds)) (.im (.int k)) S = match ds[k]? with | some x => .ok (.im x) S | none => .bad := by
  show (match (some (ds.map Val.im) : Option (List Val)) with | some xs => (match atI xs (k : Int) with | some x => R.ok x S | none => R.bad) | none => R.bad) = _
  dsimp only
  cases h : ds[k]? with
  | some x =>
    have : atI (ds.map Val.im) (k : Int) = some (.im x) := atI_nat (by rw [List.getElem?_map, h]; rfl)
    rw [this]
  | none =>
    have : atI (ds.map Val.im) (k : Int) = none := by
      unfold atI ixN
      rw [List.getElem?_eq_none_iff] at h
      rw [if_pos (by omega), if_neg (by rw [List.length_map]; omega)]
      rfl
    rw [this]
@[simp] theorem q_idxL (ds : List D) (k : Nat) : idxD (.im (.list ds)) (.im (.int k)) S = match ds[k]? with | some x => .ok (.im x) S | none => .bad := q_idxT S ds k
@[simp] theorem q_idxT0 (ds : List D) : idxD (.im (.tuple ds)) (.im (.int 0)) S = match ds[0]? with | some x => .ok (.im x) S | none => .bad := q_idxT S ds 0
@[simp] theorem q_idxT1 (ds : List D) : idxD (.im (.tuple ds)) (.im (.int 1)) S = match ds[1]? with | some x => .ok (.im x) S | none => .bad := q_idxT S ds 1
@[simp] theorem q_idxT2 (ds : List D) : idxD (.im (.tuple ds)) (.im (.int 2)) S = match ds[2]? with | some x => .ok (.im x) S | none => .bad := q_idxT S ds 2
@[simp] theorem q_lenT (ds : List D) : lenD [.im (.tuple ds)] S = .ok (.im (.int ds.length)) S := rfl
@[simp] theorem q_lenL (ds : List D) : lenD [.im (.list ds)] S = .ok (.im (.int ds.length)) S := rfl
@[simp] theorem q_tupT (ds : List D) : tupD [.im (.tuple ds)] S = .ok (.im (.tuple ds)) S := rfl
@[simp] theorem q_tupL (ds : List D) : tupD [.im (.list ds)] S = .ok (.im (.tuple ds)) S := rfl
@[simp] theorem q_seqT (ds : List D) : seqI (.im (.tuple ds)) S = .ok (ds.map .im, fun _ => True) S := rfl
@[simp] theorem q_seqL (ds : List D) : seqI (.im (.list ds)) S = .ok (ds.map .im, fun _ => True) S := rfl
theorem q_rng1 (h : SmallI i) : rng1 [.im (.int i)] S = .ok (rngL 0 i.toNat, fun _ => True) S := if_pos h
theorem q_rng2 (h : SmallI i) (h2 : SmallI j) : rng2 [.im (.int i), .im (.int j)] S = .ok (rngL i (j - i).toNat, fun _ => True) S := if_pos ⟨h, h2⟩
theorem q_rng3 (h : SmallI i) (h2 : SmallI j) : rng3 [.im (.int i), .im (.int j), .im (.int (-1))] S = .ok (rngC i (-1) (i - j).toNat, fun _ => True) S := if_pos ⟨h, h2, rfl⟩
end
@[simp] theorem q_for0 {gd : Sto → Prop} {g : EvG} {f : EvS} {env : Env} {S : Sto} (h : gd S) : forD gd g f [] env S = .ok (.nx env) S := if_pos h
theorem q_for1 {gd : Sto → Prop} {g : EvG} {f : EvS} {x : Val} {xs : List Val} {env : Env} {S : Sto} (h : gd S) : forD gd g f (x :: xs) env S = (g x env S).bind fun env1 S1 => (f env1 S1).bind fun fl S2 => match fl with
      | .nx env2 => forD gd g f xs env2 S2
      | .ct env2 => forD gd g f xs env2 S2
      | .bk env2 => .ok (.nx env2) S2
      | .rt d => .ok (.rt d) S2 := if_pos h
/-- a body that leaves the store as it is -/
theorem fn_ret {np n : Nat} {body : EvS} {ds : List Val} {S : Sto} {d : D} (hl : ds.length = np) (h : ∀ S0 : Sto, S0.objs = S.objs → S0.esc = [] → body (startE n ds) S0 = .ok (.rt (.im d)) S0) : fnD leave np n body ds S = .ok (.im d) S := by
  unfold fnD
  rw [if_pos hl, h ⟨S.objs, []⟩ rfl rfl]
  simp [leave, Fl.out]
/-- a body that changes objects of the caller alone, or makes new ones -/
theorem fn_chg {np n : Nat} {body : EvS} {ds : List Val} {S S' : Sto} {d : D} (hl : ds.length = np) (h : body (startE n ds) ⟨S.objs, []⟩ = .ok (.rt (.im d)) S') (he : S'.esc = []) : fnD leave np n body ds S = .ok (.im d) ⟨S'.objs.take S.objs.length, S.esc⟩ := by
  unfold fnD
  rw [if_pos hl, h]
  simp [leave, Fl.out, he]
theorem mulOk_of {i j : Int} {a b : Nat} (ha : i.natAbs < 2 ^ a) (hb : j.natAbs < 2 ^ b) (h : a + b ≤ 900000) : IntMulOk i j := by
  have h1 : i.natAbs < 2 ^ (a + 1) := Nat.lt_of_lt_of_le ha (Nat.pow_le_pow_right (by decide) (Nat.le_succ a))
  have h2 : j.natAbs < 2 ^ (b + 1) := Nat.lt_of_lt_of_le hb (Nat.pow_le_pow_right (by decide) (Nat.le_succ b))
  exact (wide_mul h1 h2 (Nat.succ_pos a) (Nat.succ_pos b) (by omega)).ok
theorem mulOk_l {i j : Int} (h1 : -(2 ^ 64) < i) (h2 : i < 2 ^ 64) : IntMulOk i j := .of_left (intBits_le_64 h1 h2)
theorem mulOk_r {i j : Int} (h1 : -(2 ^ 64) < j) (h2 : j < 2 ^ 64) : IntMulOk i j := .of_right (intBits_le_64 h1 h2)
theorem divOk_of {i j : Int} {b : Nat} (h0 : j ≠ 0) (hb : j.natAbs < 2 ^ b) (h : b ≤ 9000) : DivOk i j := ⟨h0, PyProof.noPylong_of_log2 (by
  have : j.natAbs.log2 < b := (Nat.log2_lt (by omega)).mpr hb
  omega)⟩
end
end MP
set_option Elab.async false
set_option linter.all false
set_option maxRecDepth 100000
namespace MP
open PySem PySem.Spec L2
noncomputable section
open Classical
/-! Q1: fractions -/
abbrev frD (q : Rat) : D := .tuple [.int q.num, .int q.den]
abbrev fr (q : Rat) : Val := .im (frD q)
theorem euclid_w (cc : EvB) (body : EvS) (hc : cc = evTru (evVar 1)) (hb : body = sPar 0 1 (evCons (evVar 1) (evCons (ev2 modD (evVar 0) (evVar 1)) evNil))) (b : Nat) : ∀ (a : Nat) (S : Sto), ∃ n, whileF cc body n [some (vi a), some (vi b)] S = .ok (.nx [some (vi (Nat.gcd b a)), some (vi 0)]) S := by
  subst hc hb
  induction b using Nat.strongRecOn with
  | _ b ih =>
    intro a S
    cases Nat.eq_zero_or_pos b with
    | inl h =>
      subst h
      refine ⟨1, ?_⟩
      simp [whileF]
    | inr h =>
      obtain ⟨n, hn⟩ := ih (a % b) (Nat.mod_lt _ h) b S
      refine ⟨n + 1, ?_⟩
      have hb : (b : Int) ≠ 0 := by omega
      rw [whileF_succ]
      simp [q_mod _ _ _ hb, hb]
      have e : (a : Int).fmod (b : Int) = ((a % b : Nat) : Int) := by
        rw [Int.fmod_eq_emod_of_nonneg _ (by omega)]
        exact (Int.natCast_emod a b).symm
      rw [e]
      rw [hn, Nat.gcd_rec b a, if_neg (by omega)]
theorem abs_nat (i : Int) : (if i < 0 then -i else i) = (i.natAbs : Int) := by split <;> omega
theorem divisor_ok (a b : Int) (S : Sto) : F.fdivisor [vi a, vi b] S = .ok (vi (Int.gcd b a)) S := by
  refine fn_ret rfl fun S0 _ _ => ?_
  obtain ⟨n, hn⟩ := euclid_w _ _ rfl rfl b.natAbs a.natAbs S0
  unfold F.bdivisor
  have hw := sWhile_of (c := evTru (evVar 1)) (n := n) (by rw [hn]; exact fun h => by cases h)
  rw [hn] at hw
  simp [startE, abs_nat, hw]
  rfl
theorem fdiv_gcd (a b : Int) (g : Nat) (hg : (g : Int) ∣ a) (h0 : g ≠ 0) : a.fdiv (g : Int) = a / (g : Int) ∧ a.fdiv (-(g : Int)) = -a / (g : Int) := by
  obtain ⟨k, rfl⟩ := hg
  have h : (g : Int) ≠ 0 := by omega
  refine ⟨Int.fdiv_eq_ediv_of_nonneg _ (by omega), ?_⟩
  have e : (g : Int) * k = (-(g : Int)) * (-k) := by rw [Int.neg_mul_neg]
  have e2 : -((g : Int) * k) = (g : Int) * (-k) := by rw [Int.mul_neg]
  rw [e2, Int.mul_ediv_cancel_left _ h, e, Int.mul_fdiv_cancel_left _ (by omega)]
theorem low_pos {a b : Int} (hb : 0 < b) : a.fdiv (Int.gcd b a : Int) = ((a : Rat) / (b : Rat)).num ∧ b.fdiv (Int.gcd b a : Int) = (((a : Rat) / (b : Rat)).den : Int) := by
  have h0 : Int.gcd b a ≠ 0 := by rw [Ne, Int.gcd_eq_zero_iff]; omega
  rw [← Rat.divInt_eq_div, Rat.num_divInt, Rat.den_divInt, if_neg (by omega), (fdiv_gcd a b _ (Int.gcd_dvd_right _ _) h0).1, (fdiv_gcd b a _ (Int.gcd_dvd_left _ _) h0).1, Int.sign_eq_one_of_pos hb, Int.one_mul]
  refine ⟨rfl, ?_⟩
  rw [Int.natCast_ediv, Int.natAbs_of_nonneg (by omega)]
theorem low_neg {a b : Int} (hb : b < 0) : a.fdiv (-(Int.gcd b a : Int)) = ((a : Rat) / (b : Rat)).num ∧ b.fdiv (-(Int.gcd b a : Int)) = (((a : Rat) / (b : Rat)).den : Int) := by
  have h0 : Int.gcd b a ≠ 0 := by rw [Ne, Int.gcd_eq_zero_iff]; omega
  rw [← Rat.divInt_eq_div, Rat.num_divInt, Rat.den_divInt, if_neg (by omega), (fdiv_gcd a b _ (Int.gcd_dvd_right _ _) h0).2, (fdiv_gcd b a _ (Int.gcd_dvd_left _ _) h0).2, Int.sign_eq_neg_one_of_neg hb, Int.neg_mul, Int.one_mul]
  refine ⟨rfl, ?_⟩
  rw [Int.natCast_ediv]
  congr 1
  omega
theorem gcd_lt {a b : Int} {n : Nat} (h0 : b ≠ 0) (hb : b.natAbs < 2 ^ n) : Int.gcd b a ≠ 0 ∧ Int.gcd b a < 2 ^ n := by
  refine ⟨by rw [Ne, Int.gcd_eq_zero_iff]; omega, Nat.lt_of_le_of_lt ?_ hb⟩
  exact Nat.le_of_dvd (by omega) (Int.ofNat_dvd_left.mp (Int.gcd_dvd_left b a))
theorem lowest_ok {a b : Int} {n : Nat} (h0 : b ≠ 0) (hb : b.natAbs < 2 ^ n) (hn : n ≤ 9000) (S : Sto) : F.flowest [vi a, vi b] S = .ok (fr ((a : Rat) / (b : Rat))) S := by
  refine fn_ret rfl fun S0 _ _ => ?_
  unfold F.blowest
  obtain ⟨g0, gl⟩ := gcd_lt (a := a) h0 hb
  have d1 : ∀ i, DivOk i (Int.gcd b a : Int) := fun i => divOk_of (by omega) (b := n) (by omega) hn
  have d2 : ∀ i, DivOk i (-(Int.gcd b a : Int)) := fun i => divOk_of (by omega) (b := n) (by omega) hn
  by_cases hs : b < 0
  · obtain ⟨e1, e2⟩ := low_neg (a := a) hs
    simp [startE, divisor_ok, ltD, hs, q_div _ _ _ (d2 _), e1, e2, frD]
  · obtain ⟨e1, e2⟩ := low_pos (a := a) (b := b) (by omega)
    simp [startE, divisor_ok, ltD, hs, q_div _ _ _ (d1 _), e1, e2, frD]
/-- small fractions -/
def Bd (n : Nat) (q : Rat) : Prop := q.num.natAbs < 2 ^ n ∧ q.den < 2 ^ n
theorem Bd.mono {m n : Nat} {q : Rat} (h : Bd m q) (l : m ≤ n) : Bd n q := ⟨Nat.lt_of_lt_of_le h.1 (Nat.pow_le_pow_right (by decide) l), Nat.lt_of_lt_of_le h.2 (Nat.pow_le_pow_right (by decide) l)⟩
theorem natAbs_ediv_le (a : Int) (g : Nat) (hg : (g : Int) ∣ a) : (a / (g : Int)).natAbs ≤ a.natAbs := by
  obtain ⟨k, rfl⟩ := hg
  by_cases h : g = 0
  · subst h; simp
  · rw [Int.mul_ediv_cancel_left _ (by omega), Int.natAbs_mul]
    exact Nat.le_mul_of_pos_left _ (by omega)
theorem bd_div {a b : Int} {n : Nat} (h0 : b ≠ 0) (ha : a.natAbs < 2 ^ n) (hb : b.natAbs < 2 ^ n) : Bd n ((a : Rat) / (b : Rat)) := by
  have h1 : Int.gcd b a ≠ 0 := by rw [Ne, Int.gcd_eq_zero_iff]; omega
  rw [← Rat.divInt_eq_div]
  constructor
  · rw [Rat.num_divInt]
    refine Nat.lt_of_le_of_lt (natAbs_ediv_le _ _ ?_) ?_
    · exact Int.dvd_trans (Int.gcd_dvd_right _ _) (Int.dvd_mul_left _ _)
    · rw [Int.natAbs_mul]
      rcases Int.lt_trichotomy b 0 with h | h | h
      · rw [Int.sign_eq_neg_one_of_neg h]; simpa using ha
      · exact (h0 h).elim
      · rw [Int.sign_eq_one_of_pos h]; simpa using ha
  · rw [Rat.den_divInt, if_neg h0]
    exact Nat.lt_of_le_of_lt (Nat.div_le_self _ _) hb
theorem lt_pow_mul {x y m n : Nat} (hx : x < 2 ^ m) (hy : y < 2 ^ n) : x * y < 2 ^ (m + n) := by
  rw [Nat.pow_add]
  exact Nat.mul_lt_mul'' hx hy
theorem rat_eq (q : Rat) : q = (q.num : Rat) / ((q.den : Int) : Rat) := by
  rw [← Rat.divInt_eq_div]; exact (Rat.num_divInt_den q).symm
theorem den_ne (q : Rat) : (q.den : Rat) ≠ 0 := by
  have := q.den_nz
  exact_mod_cast this
section
variable {p q : Rat} {m n : Nat}
theorem bd_add_raw (hp : Bd m p) (hq : Bd n q) : (p.num * q.den + q.num * p.den).natAbs < 2 ^ (m + n + 1) := by
  have h1 := lt_pow_mul hp.1 hq.2
  have h2 := lt_pow_mul hq.1 hp.2
  rw [Nat.add_comm n m] at h2
  have h3 := Int.natAbs_add_le (p.num * q.den) (q.num * p.den)
  rw [Int.natAbs_mul, Int.natAbs_mul, Int.natAbs_natCast, Int.natAbs_natCast] at h3
  rw [Nat.pow_succ]
  omega
theorem bd_sub_raw (hp : Bd m p) (hq : Bd n q) : (p.num * q.den - q.num * p.den).natAbs < 2 ^ (m + n + 1) := by
  have h1 := lt_pow_mul hp.1 hq.2
  have h2 := lt_pow_mul hq.1 hp.2
  rw [Nat.add_comm n m] at h2
  have h3 := Int.natAbs_sub_le (p.num * q.den) (q.num * p.den)
  rw [Int.natAbs_mul, Int.natAbs_mul, Int.natAbs_natCast, Int.natAbs_natCast] at h3
  rw [Nat.pow_succ]
  omega
theorem bd_den_raw (hp : Bd m p) (hq : Bd n q) : ((p.den : Int) * (q.den : Int)).natAbs < 2 ^ (m + n) := by
  rw [Int.natAbs_mul]; exact lt_pow_mul hp.2 hq.2
theorem bd_num_raw (hp : Bd m p) (hq : Bd n q) : (p.num * q.num).natAbs < 2 ^ (m + n) := by
  rw [Int.natAbs_mul]; exact lt_pow_mul hp.1 hq.1
theorem den_pos (q : Rat) : 0 < (q.den : Int) := by have := q.den_pos; omega
theorem dd_ne (p q : Rat) : (p.den : Int) * (q.den : Int) ≠ 0 := by
  have := Int.mul_pos (den_pos p) (den_pos q); omega
theorem lt_up {x m n : Nat} (h : x < 2 ^ m) (l : m ≤ n) : x < 2 ^ n := Nat.lt_of_lt_of_le h (Nat.pow_le_pow_right (by decide) l)
theorem add_as (p q : Rat) : ((p.num * q.den + q.num * p.den : Int) : Rat) / (((p.den : Int) * (q.den : Int) : Int) : Rat) = p + q := by
  have h1 := den_ne p
  have h2 := den_ne q
  conv => rhs; rw [rat_eq p, rat_eq q]
  push_cast
  grind
theorem sub_as (p q : Rat) : ((p.num * q.den - q.num * p.den : Int) : Rat) / (((p.den : Int) * (q.den : Int) : Int) : Rat) = p - q := by
  have h1 := den_ne p
  have h2 := den_ne q
  conv => rhs; rw [rat_eq p, rat_eq q]
  push_cast
  grind
theorem mul_as (p q : Rat) : ((p.num * q.num : Int) : Rat) / (((p.den : Int) * (q.den : Int) : Int) : Rat) = p * q := by
  have h1 := den_ne p
  have h2 := den_ne q
  conv => rhs; rw [rat_eq p, rat_eq q]
  push_cast
  grind
theorem num_ne (h : q ≠ 0) : q.num ≠ 0 := by
  intro e; exact h (Rat.num_eq_zero.mp e)
theorem div_as (p : Rat) (h : q ≠ 0) : ((p.num * q.den : Int) : Rat) / (((p.den : Int) * q.num : Int) : Rat) = p / q := by
  have h1 := den_ne p
  have h2 := den_ne q
  have h3 : (q.num : Rat) ≠ 0 := by have := num_ne h; exact_mod_cast this
  conv => rhs; rw [rat_eq p, rat_eq q]
  push_cast
  grind
theorem Bd.add (hp : Bd m p) (hq : Bd n q) : Bd (m + n + 1) (p + q) := by
  rw [← add_as]; exact bd_div (dd_ne p q) (bd_add_raw hp hq) (lt_up (bd_den_raw hp hq) (Nat.le_succ _))
theorem Bd.sub (hp : Bd m p) (hq : Bd n q) : Bd (m + n + 1) (p - q) := by
  rw [← sub_as]; exact bd_div (dd_ne p q) (bd_sub_raw hp hq) (lt_up (bd_den_raw hp hq) (Nat.le_succ _))
theorem Bd.mul (hp : Bd m p) (hq : Bd n q) : Bd (m + n) (p * q) := by
  rw [← mul_as]; exact bd_div (dd_ne p q) (bd_num_raw hp hq) (bd_den_raw hp hq)
theorem Bd.div (hp : Bd m p) (hq : Bd n q) (h : q ≠ 0) : Bd (m + n) (p / q) := by
  rw [← div_as p h]
  refine bd_div (Int.mul_ne_zero (by have := den_pos p; omega) (num_ne h)) ?_ ?_
  · rw [Int.natAbs_mul]; exact lt_pow_mul hp.1 hq.2
  · rw [Int.natAbs_mul]; exact lt_pow_mul hp.2 hq.1
theorem Bd.neg (hp : Bd m p) : Bd m (-p) := by
  refine ⟨?_, ?_⟩
  · rw [Rat.neg_num, Int.natAbs_neg]; exact hp.1
  · rw [Rat.neg_den]; exact hp.2
theorem less_as (p q : Rat) : (p.num * q.den < q.num * p.den) ↔ p < q := by rw [Rat.lt_iff]
end
/-- products of the parts -/
theorem mulOk_np {p q : Rat} {m n : Nat} (hp : Bd m p) (hq : Bd n q) (l : m + n ≤ 900000) : IntMulOk p.num (q.den : Int) := mulOk_of hp.1 (by rw [Int.natAbs_natCast]; exact hq.2) l
theorem mulOk_nn {p q : Rat} {m n : Nat} (hp : Bd m p) (hq : Bd n q) (l : m + n ≤ 900000) : IntMulOk p.num q.num := mulOk_of hp.1 hq.1 l
theorem mulOk_dd {p q : Rat} {m n : Nat} (hp : Bd m p) (hq : Bd n q) (l : m + n ≤ 900000) : IntMulOk (p.den : Int) (q.den : Int) := mulOk_of (by rw [Int.natAbs_natCast]; exact hp.2) (by rw [Int.natAbs_natCast]; exact hq.2) l
theorem mulOk_dn {p q : Rat} {m n : Nat} (hp : Bd m p) (hq : Bd n q) (l : m + n ≤ 900000) : IntMulOk (p.den : Int) q.num := mulOk_of (by rw [Int.natAbs_natCast]; exact hp.2) hq.1 l
end
end MP
set_option Elab.async false
set_option linter.all false
set_option maxRecDepth 100000
namespace MP
open PySem PySem.Spec L2
noncomputable section
open Classical
/-! Q2: the functions over fractions -/
section
variable {p q : Rat} {m n : Nat}
theorem plus_ok (hp : Bd m p) (hq : Bd n q) (l : m + n ≤ 8000) (S : Sto) : F.fplus [fr p, fr q] S = .ok (fr (p + q)) S := by
  refine fn_ret rfl fun S0 _ _ => ?_
  unfold F.bplus
  have m1 := mulOk_np hp hq (by omega)
  have m2 := mulOk_np hq hp (by omega)
  have m3 := mulOk_dd hp hq (by omega)
  have lo := lowest_ok (a := p.num * q.den + q.num * p.den) (dd_ne p q) (bd_den_raw hp hq) (by omega) S0
  rw [add_as] at lo
  by_cases h1 : p.num = 0
  · have e : p = 0 := Rat.num_eq_zero.mp h1
    subst e
    simp [startE, Rat.zero_add]
  · by_cases h2 : q.num = 0
    · have e : q = 0 := Rat.num_eq_zero.mp h2
      subst e
      simp [startE, h1, Rat.add_zero]
    · simp [startE, h1, h2, q_mul _ _ _ m1, q_mul _ _ _ m2, q_mul _ _ _ m3, lo]
theorem minus_ok (hp : Bd m p) (hq : Bd n q) (l : m + n ≤ 8000) (S : Sto) : F.fminus [fr p, fr q] S = .ok (fr (p - q)) S := by
  refine fn_ret rfl fun S0 _ _ => ?_
  unfold F.bminus
  have lo := plus_ok hp hq.neg l S0
  rw [← Rat.sub_eq_add_neg] at lo
  simp [startE]
  simp only [fr, frD, Rat.neg_num, Rat.neg_den] at lo
  simp [lo]
theorem product_ok (hp : Bd m p) (hq : Bd n q) (l : m + n ≤ 8000) (S : Sto) : F.fproduct [fr p, fr q] S = .ok (fr (p * q)) S := by
  refine fn_ret rfl fun S0 _ _ => ?_
  unfold F.bproduct
  have m1 := mulOk_nn hp hq (by omega)
  have m3 := mulOk_dd hp hq (by omega)
  have lo := lowest_ok (a := p.num * q.num) (dd_ne p q) (bd_den_raw hp hq) (by omega) S0
  rw [mul_as] at lo
  simp [startE, q_mul _ _ _ m1, q_mul _ _ _ m3, lo]
theorem dn_ne (p : Rat) (h : q ≠ 0) : (p.den : Int) * q.num ≠ 0 := Int.mul_ne_zero (by have := den_pos p; omega) (num_ne h)
theorem bd_dn_raw (hp : Bd m p) (hq : Bd n q) : ((p.den : Int) * q.num).natAbs < 2 ^ (m + n) := by
  rw [Int.natAbs_mul]; exact lt_pow_mul hp.2 hq.1
theorem quotient_ok (hp : Bd m p) (hq : Bd n q) (h : q ≠ 0) (l : m + n ≤ 8000) (S : Sto) : F.fquotient [fr p, fr q] S = .ok (fr (p / q)) S := by
  refine fn_ret rfl fun S0 _ _ => ?_
  unfold F.bquotient
  have m1 := mulOk_np hp hq (by omega)
  have m3 := mulOk_dn hp hq (by omega)
  have lo := lowest_ok (a := p.num * q.den) (dn_ne p h) (bd_dn_raw hp hq) (by omega) S0
  rw [div_as p h] at lo
  simp [startE, q_mul _ _ _ m1, q_mul _ _ _ m3, lo]
theorem is_less_ok (hp : Bd m p) (hq : Bd n q) (l : m + n ≤ 8000) (S : Sto) : F.fis_less [fr p, fr q] S = .ok (vb (decide (p < q))) S := by
  refine fn_ret rfl fun S0 _ _ => ?_
  unfold F.bis_less
  have m1 := mulOk_np hp hq (by omega)
  have m2 := mulOk_np hq hp (by omega)
  simp [startE, ltD, q_mul _ _ _ m1, q_mul _ _ _ m2, less_as]
end
theorem rngL_length (lo : Int) (n : Nat) : (rngL lo n).length = n := by simp [rngL]
theorem rngL_at {lo : Int} {n i : Nat} (h : i < n) : (rngL lo n)[i]? = some (vi (lo + (i : Int))) := by
  unfold rngL
  rw [List.getElem?_map, List.getElem?_range h]
  rfl
/-- a loop's run -/
def FlP (P : Env → Sto → Prop) (B : Env → Sto → Prop) (T : Val → Sto → Prop) (r : R Fl) : Prop := match r with
  | .ok (.nx e) S => P e S
  | .ok (.ct e) S => P e S
  | .ok (.bk e) S => B e S
  | .ok (.rt d) S => T d S
  | _ => False
def FlE (P : Env → Sto → Prop) (T : Val → Sto → Prop) (r : R Fl) : Prop := match r with
  | .ok (.nx e) S => P e S
  | .ok (.rt d) S => T d S
  | _ => False
theorem for_gen {gd : Sto → Prop} {g : EvG} {f : EvS} (hgd : ∀ S, gd S) (P : Nat → Env → Sto → Prop) (B : Env → Sto → Prop) (T : Val → Sto → Prop) : ∀ (xs : List Val) (i : Nat) (env : Env) (S : Sto), P i env S →
    (∀ j x env S, xs[j]? = some x → P (i + j) env S → FlP (P (i + j + 1)) B T ((g x env S).bind f)) →
    FlE (fun e S => P (i + xs.length) e S ∨ B e S) T (forD gd g f xs env S)
  | [], i, env, S, h, _ => by
    rw [q_for0 (hgd S)]
    exact .inl h
  | x :: xs, i, env, S, h, st => by
    rw [q_for1 (hgd S)]
    have h1 := st 0 x env S rfl h
    have ih := fun env2 S2 (hp : P (i + 1) env2 S2) => for_gen (f := f) (g := g) hgd P B T xs (i + 1) env2 S2 hp (fun j y e S hy hP => by
      have := st (j + 1) y e S hy (by rw [show i + (j + 1) = i + 1 + j by omega]; exact hP)
      rw [show i + (j + 1) + 1 = i + 1 + j + 1 by omega] at this
      exact this)
    rw [show i + 1 + xs.length = i + (x :: xs).length by rw [List.length_cons]; omega] at ih
    cases hg : g x env S with
    | ok env1 S1 =>
      rw [hg] at h1
      simp only [R.bind_ok] at h1 ⊢
      cases hf : f env1 S1 with
      | ok fl S2 =>
        rw [hf] at h1
        simp only [R.bind_ok]
        cases fl with
        | nx e => exact ih e S2 h1
        | ct e => exact ih e S2 h1
        | bk e => exact .inr h1
        | rt d => exact h1
      | exc x S2 => rw [hf] at h1; exact h1.elim
      | bad => rw [hf] at h1; exact h1.elim
    | exc x S2 => rw [hg] at h1; exact h1.elim
    | bad => rw [hg] at h1; exact h1.elim
/-- a loop with no way out but its end -/
theorem for_ok {gd : Sto → Prop} {g : EvG} {f : EvS} (hgd : ∀ S, gd S) (P : Nat → Env → Sto → Prop) (xs : List Val) (env : Env) (S : Sto) (h : P 0 env S)
    (st : ∀ j x env S, xs[j]? = some x → P j env S → ∃ e S', (g x env S).bind f = .ok (.nx e) S' ∧ P (j + 1) e S') : ∃ e S', forD gd g f xs env S = .ok (.nx e) S' ∧ P xs.length e S' := by
  have h1 := for_gen hgd P (fun _ _ => False) (fun _ _ => False) xs 0 env S h (fun j x env S hx hp => by
    obtain ⟨e, S', he, hP⟩ := st j x env S hx (by simpa using hp)
    rw [he]
    simpa [FlP] using hP)
  cases hr : forD gd g f xs env S with
  | ok fl S' =>
    rw [hr] at h1
    cases fl with
    | nx e => exact ⟨e, S', rfl, by simpa [FlE] using h1⟩
    | ct e => exact h1.elim
    | bk e => exact h1.elim
    | rt d => exact h1.elim
  | exc x S' => rw [hr] at h1; exact h1.elim
  | bad => rw [hr] at h1; exact h1.elim
theorem law_fr_loop (g : EvG) (body : EvS) (hg : g = gVar 4) (hb : body = (sKill [4] (sSeq (sIf (asB (ev2 (eqD false) (evVar 3) (evC (.int 0)))) (sBreak) (sNext)) (sPar 2 3 (evCons (evVar 3) (evCons (ev2 modD (evCall intD (evCons (evVar 2) evNil)) (evVar 3)) evNil))))))
    (va vb : Option Val) (S : Sto) : ∀ (k x y : Nat) (xs : List Val), y < 2 ^ k → 2 * k + 1 ≤ xs.length →
      ∃ z v, forD (fun _ => True) g body xs [va, vb, some (vi x), some (vi y), none] S = .ok (.nx [va, vb, some (vi (Nat.gcd y x)), z, v]) S
  | 0, x, y, v :: xs, hy, _ => by
    subst hg hb
    have : y = 0 := by omega
    subst this
    rw [q_for1 trivial]
    simp
  | k + 1, x, y, [], hy, hl => by simp at hl
  | k + 1, x, y, [v], hy, hl => by simp at hl
  | 0, x, y, [], hy, hl => by simp at hl
  | k + 1, x, y, v :: w :: xs, hy, hl => by
    have hl' : 2 * k + 1 ≤ xs.length := by simp only [List.length_cons] at hl; omega
    by_cases h : y = 0
    · subst h hg hb
      rw [q_for1 trivial]
      simp
    · have hyi : (y : Int) ≠ 0 := by omega
      have e : (x : Int).fmod (y : Int) = ((x % y : Nat) : Int) := by
        rw [Int.fmod_eq_emod_of_nonneg _ (by omega)]
        exact (Int.natCast_emod x y).symm
      rw [q_for1 trivial]
      by_cases h2 : x % y = 0
      · have : forD (fun _ => True) g body (w :: xs) [va, vb, some (vi y), some (vi 0), none] S = .ok (.nx [va, vb, some (vi y), some (vi 0), some w]) S := by
          subst hg hb
          rw [q_for1 trivial]
          simp
        refine ⟨some (vi 0), some w, ?_⟩
        rw [Nat.gcd_rec, h2, Nat.gcd_zero_left]
        have e0 : (x : Int).fmod (y : Int) = 0 := by rw [e, h2]; rfl
        subst hg hb
        simp [h, q_mod _ _ _ hyi, e0, this]
      · have hr : y % (x % y) < 2 ^ k := by
          have h3 : x % y < y := Nat.mod_lt _ (by omega)
          have h4 : y % (x % y) < x % y := Nat.mod_lt _ (by omega)
          have h5 : y % (x % y) ≤ y - x % y := by
            rw [Nat.mod_eq_sub_mod (by omega)]
            exact Nat.mod_le _ _
          rw [Nat.pow_succ] at hy
          omega
        obtain ⟨z, u, ih⟩ := law_fr_loop g body hg hb va vb S k (x % y) (y % (x % y)) xs hr hl'
        have e2 : (y : Int).fmod ((x % y : Nat) : Int) = ((y % (x % y) : Nat) : Int) := by
          rw [Int.fmod_eq_emod_of_nonneg _ (by omega)]
          exact (Int.natCast_emod y (x % y)).symm
        have hxi : ((x % y : Nat) : Int) ≠ 0 := by omega
        have : forD (fun _ => True) g body (w :: xs) [va, vb, some (vi y), some (vi ((x % y : Nat) : Int)), none] S = .ok (.nx [va, vb, some (vi (Nat.gcd y x)), z, u]) S := by
          rw [q_for1 trivial]
          rw [Nat.gcd_rec y x, Nat.gcd_rec (x % y) y]
          subst hg hb
          simp only [q_killE0, q_killE1, q_gvar, q_kill, q_seq, q_sif, q_asB, q_2, q_var, q_c, q_eq, R.bind_ok, List.set_cons_zero, List.set_cons_succ, List.getElem?_cons_zero, List.getElem?_cons_succ, q_next, q_par, q_cons, q_nil, q_call, q_int, q_mod _ _ _ hxi, e2]
          have : ((((x % y : Nat) : Int)) == 0) = false := by simp only [beq_eq_false_iff_ne]; exact hxi
          rw [this]
          simp only [Bool.false_eq_true, if_false, R.bind_ok, List.set_cons_zero, List.set_cons_succ, q_seq, q_sif, q_asB, q_2, q_var, q_c, q_eq, List.getElem?_cons_zero, List.getElem?_cons_succ, q_next, q_par, q_cons, q_nil, q_call, q_int, q_mod _ _ _ hxi, e2]
          exact ih
        refine ⟨z, u, ?_⟩
        subst hg hb
        simp only [q_killE0, q_killE1, q_gvar, q_kill, q_seq, q_sif, q_asB, q_2, q_var, q_c, q_eq, R.bind_ok, List.set_cons_zero, List.set_cons_succ, List.getElem?_cons_zero, List.getElem?_cons_succ, q_next, q_par, q_cons, q_nil, q_call, q_int, q_mod _ _ _ hyi, e]
        have : ((((y : Nat) : Int)) == 0) = false := by simp only [beq_eq_false_iff_ne]; exact hyi
        rw [this]
        simp only [Bool.false_eq_true, if_false, R.bind_ok, List.set_cons_zero, List.set_cons_succ, q_seq, q_sif, q_asB, q_2, q_var, q_c, q_eq, List.getElem?_cons_zero, List.getElem?_cons_succ, q_next, q_par, q_cons, q_nil, q_call, q_int, q_mod _ _ _ hyi, e]
        assumption
theorem rng_ex (k : Int) (hk : SmallI k) : ∃ L : List Val, (∀ S, rng1 [.im (.int k)] S = .ok (L, fun _ => True) S) ∧ L.length = k.toNat ∧ ∀ i, i < k.toNat → L[i]? = some (vi i) := by
  refine ⟨rngL 0 k.toNat, fun S => q_rng1 _ _ hk, rngL_length _ _, fun i h => ?_⟩
  rw [rngL_at h, Int.zero_add]
theorem law_fr_ok {a b : Int} {n : Nat} (h0 : b ≠ 0) (hb : b.natAbs < 2 ^ n) (hn : n ≤ 9000) (S : Sto) : F.f_law_fr [vi a, vi b] S = .ok (fr ((a : Rat) / (b : Rat))) S := by
  refine fn_ret rfl fun S0 _ _ => ?_
  unfold F.b_law_fr
  obtain ⟨L, hL, hlen, _⟩ := rng_ex 100000 (by unfold SmallI; omega)
  obtain ⟨z, v, hl⟩ := law_fr_loop _ _ rfl rfl (some (vi a)) (some (vi b)) S0 n a.natAbs b.natAbs L hb (by rw [hlen]; omega)
  obtain ⟨g0, gl⟩ := gcd_lt (a := a) h0 hb
  have d1 : ∀ i, DivOk i (Int.gcd b a : Int) := fun i => divOk_of (by omega) (b := n) (by omega) hn
  have eg : Nat.gcd b.natAbs a.natAbs = Int.gcd b a := rfl
  rw [eg] at hl
  by_cases hs : b < 0
  · obtain ⟨e1, e2⟩ := low_neg (a := a) hs
    have f1 := fdiv_gcd a b _ (Int.gcd_dvd_right b a) g0
    have f2 := fdiv_gcd b b _ (Int.gcd_dvd_left b a) g0
    have k1 : 0 - a.fdiv (Int.gcd b a : Int) = ((a : Rat) / (b : Rat)).num := by
      rw [← e1, f1.1, f1.2, Int.neg_ediv_of_dvd (Int.gcd_dvd_right b a)]; omega
    have k2 : 0 - b.fdiv (Int.gcd b a : Int) = (((a : Rat) / (b : Rat)).den : Int) := by
      rw [← e2, f2.1, f2.2, Int.neg_ediv_of_dvd (Int.gcd_dvd_left b a)]; omega
    have hs2 : ¬ b > 0 := by omega
    simp [startE, gtD, hL, abs_nat, hs2, hl, q_div _ _ _ (d1 _), k1, k2]
  · obtain ⟨e1, e2⟩ := low_pos (a := a) (b := b) (by omega)
    have hs2 : b > 0 := by omega
    simp [startE, gtD, hL, abs_nat, hs2, hl, q_div _ _ _ (d1 _), e1, e2]
section
variable {p q : Rat} {m n : Nat}
theorem law_plus_ok (hp : Bd m p) (hq : Bd n q) (l : m + n ≤ 8000) (S : Sto) : F.f_law_plus [fr p, fr q] S = .ok (fr (p + q)) S := by
  refine fn_ret rfl fun S0 _ _ => ?_
  unfold F.b_law_plus
  have m1 := mulOk_np hp hq (by omega)
  have m2 := mulOk_np hq hp (by omega)
  have m3 := mulOk_dd hp hq (by omega)
  have lo := law_fr_ok (a := p.num * q.den + q.num * p.den) (dd_ne p q) (bd_den_raw hp hq) (by omega) S0
  rw [add_as] at lo
  simp [startE, q_mul _ _ _ m1, q_mul _ _ _ m2, q_mul _ _ _ m3, lo]
theorem law_minus_ok (hp : Bd m p) (hq : Bd n q) (l : m + n ≤ 8000) (S : Sto) : F.f_law_minus [fr p, fr q] S = .ok (fr (p - q)) S := by
  refine fn_ret rfl fun S0 _ _ => ?_
  unfold F.b_law_minus
  have m1 := mulOk_np hp hq (by omega)
  have m2 := mulOk_np hq hp (by omega)
  have m3 := mulOk_dd hp hq (by omega)
  have lo := law_fr_ok (a := p.num * q.den - q.num * p.den) (dd_ne p q) (bd_den_raw hp hq) (by omega) S0
  rw [sub_as] at lo
  simp [startE, q_mul _ _ _ m1, q_mul _ _ _ m2, q_mul _ _ _ m3, lo]
theorem law_of_both_ok (hp : Bd m p) (hq : Bd n q) (l : m + n ≤ 8000) (S : Sto) : F.f_law_of_both [fr p, fr q] S = .ok (fr (p * q)) S := by
  refine fn_ret rfl fun S0 _ _ => ?_
  unfold F.b_law_of_both
  have m1 := mulOk_nn hp hq (by omega)
  have m3 := mulOk_dd hp hq (by omega)
  have lo := law_fr_ok (a := p.num * q.num) (dd_ne p q) (bd_den_raw hp hq) (by omega) S0
  rw [mul_as] at lo
  simp [startE, q_mul _ _ _ m1, q_mul _ _ _ m3, lo]
theorem law_over_ok (hp : Bd m p) (hq : Bd n q) (h : q ≠ 0) (l : m + n ≤ 8000) (S : Sto) : F.f_law_over [fr p, fr q] S = .ok (fr (p / q)) S := by
  refine fn_ret rfl fun S0 _ _ => ?_
  unfold F.b_law_over
  have m1 := mulOk_np hp hq (by omega)
  have m3 := mulOk_dn hp hq (by omega)
  have lo := law_fr_ok (a := p.num * q.den) (dn_ne p h) (bd_dn_raw hp hq) (by omega) S0
  rw [div_as p h] at lo
  simp [startE, q_mul _ _ _ m1, q_mul _ _ _ m3, lo]
theorem law_less_ok (hp : Bd m p) (hq : Bd n q) (l : m + n ≤ 8000) (S : Sto) : F.f_law_less [fr p, fr q] S = .ok (vb (decide (p < q))) S := by
  refine fn_ret rfl fun S0 _ _ => ?_
  unfold F.b_law_less
  have m1 := mulOk_np hp hq (by omega)
  have m2 := mulOk_np hq hp (by omega)
  simp [startE, ltD, q_mul _ _ _ m1, q_mul _ _ _ m2, less_as]
end
end
end MP
set_option Elab.async false
set_option linter.all false
set_option maxRecDepth 100000
namespace MP
open PySem PySem.Spec L2
noncomputable section
open Classical
/-! Q3: the tape -/
structure TSt where
  a : Nat
  g : Int
  l : Int
  s : Int
  t : Int
def TP (ns : List Int) (c : TSt) : List (Key × Val) := [(.inr "cells", .im (.list (ns.map PyData.int))), (.inr "at", vi c.a), (.inr "great", vi c.g), (.inr "left", vi c.l), (.inr "seed", vi c.s), (.inr "turn", vi c.t)]
def tpO (ns : List Int) (c : TSt) : Obj := .dct (TP ns c)
section
variable (ns : List Int) (c : TSt) (x : Int)
theorem tp_at : getK (TP ns c) (.inr "at") = some (vi c.a) := rfl
theorem tp_turn : getK (TP ns c) (.inr "turn") = some (vi c.t) := rfl
theorem tp_cells : getK (TP ns c) (.inr "cells") = some (.im (.list (ns.map PyData.int))) := rfl
theorem tp_great : getK (TP ns c) (.inr "great") = some (vi c.g) := rfl
theorem tp_left : getK (TP ns c) (.inr "left") = some (vi c.l) := rfl
theorem tp_seed : getK (TP ns c) (.inr "seed") = some (vi c.s) := rfl
theorem tp_pturn : putKd (TP ns c) (.inr "turn") (vi x) = TP ns { c with t := x } := rfl
theorem tp_pgreat : putKd (TP ns c) (.inr "great") (vi x) = TP ns { c with g := x } := rfl
theorem tp_pleft : putKd (TP ns c) (.inr "left") (vi x) = TP ns { c with l := x } := rfl
theorem tp_pseed : putKd (TP ns c) (.inr "seed") (vi x) = TP ns { c with s := x } := rfl
theorem tp_pat (k : Nat) : putKd (TP ns c) (.inr "at") (vi k) = TP ns { c with a := k } := rfl
end
theorem tp_len (ns : List Int) (c : TSt) : (TP ns c).length < sizeLine := by
  rw [sizeLine_eq]; show 6 < _; omega
section
variable {l : List Obj} {e : List Nat} {h : Nat} {ns : List Int} {c : TSt} {x : Int}
theorem set_at (hh : h < l.length) (o : Obj) : (l.set h o)[h]? = some o := by rw [List.getElem?_set_self hh]
theorem dix_tp (hh : h < l.length) (y : Str) : dixD (.ref h) (.im (.str y)) ⟨l.set h (tpO ns c), e⟩ = match getK (TP ns c) (.inr y) with | some v => .ok v ⟨l.set h (tpO ns c), e⟩ | none => .bad := by
  unfold dixD keyD
  simp only [set_at hh]
  rfl
theorem set_tp (hh : h < l.length) (y : Str) : setKD (.ref h) (.im (.str y)) (vi x) ⟨l.set h (tpO ns c), e⟩ = .ok () ⟨l.set h (.dct (putKd (TP ns c) (.inr y) (vi x))), e⟩ := by
  unfold setKD keyD
  simp only [set_at hh, tpO, tp_len ns c, if_true]
  unfold putO
  simp [Val.isRef]
theorem dix_at (hh : h < l.length) : dixD (.ref h) (.im (.str "at")) ⟨l.set h (tpO ns c), e⟩ = .ok (vi c.a) ⟨l.set h (tpO ns c), e⟩ := by rw [dix_tp hh, tp_at]
theorem dix_turn (hh : h < l.length) : dixD (.ref h) (.im (.str "turn")) ⟨l.set h (tpO ns c), e⟩ = .ok (vi c.t) ⟨l.set h (tpO ns c), e⟩ := by rw [dix_tp hh, tp_turn]
theorem dix_cells (hh : h < l.length) : dixD (.ref h) (.im (.str "cells")) ⟨l.set h (tpO ns c), e⟩ = .ok (.im (.list (ns.map PyData.int))) ⟨l.set h (tpO ns c), e⟩ := by rw [dix_tp hh, tp_cells]
theorem dix_great (hh : h < l.length) : dixD (.ref h) (.im (.str "great")) ⟨l.set h (tpO ns c), e⟩ = .ok (vi c.g) ⟨l.set h (tpO ns c), e⟩ := by rw [dix_tp hh, tp_great]
theorem dix_left (hh : h < l.length) : dixD (.ref h) (.im (.str "left")) ⟨l.set h (tpO ns c), e⟩ = .ok (vi c.l) ⟨l.set h (tpO ns c), e⟩ := by rw [dix_tp hh, tp_left]
theorem dix_seed (hh : h < l.length) : dixD (.ref h) (.im (.str "seed")) ⟨l.set h (tpO ns c), e⟩ = .ok (vi c.s) ⟨l.set h (tpO ns c), e⟩ := by rw [dix_tp hh, tp_seed]
theorem set_turn (hh : h < l.length) : setKD (.ref h) (.im (.str "turn")) (vi x) ⟨l.set h (tpO ns c), e⟩ = .ok () ⟨l.set h (tpO ns { c with t := x }), e⟩ := by rw [set_tp hh, tp_pturn]; rfl
theorem set_great (hh : h < l.length) : setKD (.ref h) (.im (.str "great")) (vi x) ⟨l.set h (tpO ns c), e⟩ = .ok () ⟨l.set h (tpO ns { c with g := x }), e⟩ := by rw [set_tp hh, tp_pgreat]; rfl
theorem set_left (hh : h < l.length) : setKD (.ref h) (.im (.str "left")) (vi x) ⟨l.set h (tpO ns c), e⟩ = .ok () ⟨l.set h (tpO ns { c with l := x }), e⟩ := by rw [set_tp hh, tp_pleft]; rfl
theorem set_seed (hh : h < l.length) : setKD (.ref h) (.im (.str "seed")) (vi x) ⟨l.set h (tpO ns c), e⟩ = .ok () ⟨l.set h (tpO ns { c with s := x }), e⟩ := by rw [set_tp hh, tp_pseed]; rfl
theorem set_a1 (hh : h < l.length) : setKD (.ref h) (.im (.str "at")) (vi ((c.a : Int) + 1)) ⟨l.set h (tpO ns c), e⟩ = .ok () ⟨l.set h (tpO ns { c with a := c.a + 1 }), e⟩ := by
  have := set_tp (ns := ns) (c := c) (e := e) (x := ((c.a + 1 : Nat) : Int)) hh "at"
  rw [tp_pat] at this
  exact this
end
def mixA (a b : Int) : Int := (a * 48271 + b * 69621 + 11).fmod 2147483647
def mixB (a b : Int) : Int := (mixA a b * 16807 + (mixA a b).fdiv 127773 + b * 271).fmod 1000003
def mixV (a b : Int) : Int := (mixB a b * mixB a b + (mixA a b).fdiv 1009).fmod 999983
theorem mixed_ok (a b : Int) (S : Sto) : F.f_law_mixed [vi a, vi b] S = .ok (vi (mixV a b)) S := by
  refine fn_ret rfl fun S0 _ _ => ?_
  unfold F.b_law_mixed
  have m1 : IntMulOk a 48271 := mulOk_r (by omega) (by omega)
  have m2 : IntMulOk b 69621 := mulOk_r (by omega) (by omega)
  have m3 : ∀ x, IntMulOk x 16807 := fun x => mulOk_r (by omega) (by omega)
  have m4 : IntMulOk b 271 := mulOk_r (by omega) (by omega)
  have d1 : ∀ x, DivOk x 127773 := fun x => divOk_of (b := 20) (by omega) (by decide) (by omega)
  have d2 : ∀ x, DivOk x 1009 := fun x => divOk_of (b := 20) (by omega) (by decide) (by omega)
  have z1 : (2147483647 : Int) ≠ 0 := by omega
  have z2 : (1000003 : Int) ≠ 0 := by omega
  have z3 : (999983 : Int) ≠ 0 := by omega
  have m5 : ∀ x : Int, IntMulOk (x.fmod 1000003) (x.fmod 1000003) := fun x => by
    have h1 := Int.fmod_nonneg_of_pos x (b := 1000003) (by omega)
    have h2 := Int.fmod_lt_of_pos x (b := 1000003) (by omega)
    exact mulOk_r (by omega) (by omega)
  simp [startE, q_mul _ _ _ m1, q_mul _ _ _ m2, q_mul _ _ _ (m3 _), q_mul _ _ _ m4, q_div _ _ _ (d1 _), q_div _ _ _ (d2 _), q_mod _ _ _ z1, q_mod _ _ _ z2, q_mod _ _ _ z3, q_mul _ _ _ (m5 _), mixV, mixB, mixA]
theorem pow18 (S : Sto) : powD (.im (.int 10)) (.im (.int 18)) S = .ok (vi (10 ^ 18)) S := by
  have h : CPow 10 18 := by unfold CPow; omega
  exact if_pos h
theorem seq_nx {f g : EvS} {env env1 : Env} {S S1 : Sto} (h : f env S = .ok (.nx env1) S1) : sSeq f g env S = g env1 S1 := by rw [q_seq, h]; rfl
section
variable {l : List Obj} {e : List Nat} {h : Nat} {ns : List Int}
/-- what the later part of a draw does -/
theorem draw_tail (f : EvS) (hf : f = sSeq (sIf (asB (ev2 gtD (ev2 dixD (evVar 0) (evC (.str "left"))) (evC (.int 0)))) (sDput (evVar 0) (evC (.str "left")) (ev2 subD (ev2 dixD (evVar 0) (evC (.str "left"))) (evC (.int 1)))) (sNext)) (sSeq (sIf (asB (ev2 (eqD false) (ev2 dixD (evVar 0) (evC (.str "great"))) (evC (.int 0)))) (sRet (ev2 modD (evCall intD (evCons (evFn F.f_law_mixed (evCons (ev2 dixD (evVar 0) (evC (.str "seed"))) (evCons (ev2 dixD (evVar 0) (evC (.str "turn"))) evNil))) evNil)) (evVar 1))) (sNext)) (sSeq (sAsg (ev2 modD (evCall intD (evCons (ev2 dixD (evVar 0) (evC (.str "great"))) evNil)) (evC (.int 1009))) (gVar 3)) (sSeq (sDput (evVar 0) (evC (.str "great")) (ev2 fdivD (ev2 dixD (evVar 0) (evC (.str "great"))) (evC (.int 1009)))) (sSeq (sIf (evOr (asB (ev2 (eqD false) (ev2 dixD (evVar 0) (evC (.str "great"))) (evC (.int 0)))) (asB (ev2 (eqD false) (ev2 dixD (evVar 0) (evC (.str "left"))) (evC (.int 0))))) (sSeq (sDput (evVar 0) (evC (.str "great")) (evC (.int 0))) (sDput (evVar 0) (evC (.str "left")) (evC (.int 0)))) (sNext)) (sRet (ev2 modD (evCall intD (evCons (evVar 3) evNil)) (evVar 1))))))))
    (hh : h < l.length) (c : TSt) (k : Nat) (hk : 0 < k) (x : Option Val) :
    ∃ (v : Nat) (c' : TSt), v < k ∧ f [some (.ref h), some (vi k), x, none] ⟨l.set h (tpO ns c), e⟩ = .ok (.rt (vi v)) ⟨l.set h (tpO ns c'), e⟩ := by
  have hk0 : (k : Int) ≠ 0 := by omega
  have md : ∀ y : Int, ∃ v : Nat, v < k ∧ y.fmod (k : Int) = (v : Int) := fun y => by
    have h1 := Int.fmod_nonneg_of_pos y (b := k) (by omega)
    have h2 := Int.fmod_lt_of_pos y (b := k) (by omega)
    exact ⟨(y.fmod k).toNat, by omega, by omega⟩
  have d2 : ∀ x, DivOk x 1009 := fun x => divOk_of (b := 20) (by omega) (by decide) (by omega)
  have z1 : (1009 : Int) ≠ 0 := by omega
  obtain ⟨c1, hc1⟩ : ∃ c1 : TSt, (sIf (asB (ev2 gtD (ev2 dixD (evVar 0) (evC (.str "left"))) (evC (.int 0)))) (sDput (evVar 0) (evC (.str "left")) (ev2 subD (ev2 dixD (evVar 0) (evC (.str "left"))) (evC (.int 1)))) (sNext)) [some (.ref h), some (vi k), x, none] ⟨l.set h (tpO ns c), e⟩ = .ok (.nx [some (.ref h), some (vi k), x, none]) ⟨l.set h (tpO ns c1), e⟩ := by
    by_cases hl : 0 < c.l
    · exact ⟨{ c with l := c.l - 1 }, by simp [dix_left hh, gtD, hl, set_left hh]⟩
    · exact ⟨c, by simp [dix_left hh, gtD, hl]⟩
  rw [hf, seq_nx hc1]
  by_cases hg : c1.g = 0
  · obtain ⟨v, hv, ev⟩ := md (mixV c1.s c1.t)
    exact ⟨v, c1, hv, by simp [dix_great hh, hg, dix_seed hh, dix_turn hh, mixed_ok, q_mod _ _ _ hk0, ev]⟩
  · obtain ⟨v, hv, ev⟩ := md (c1.g.fmod 1009)
    by_cases h1 : c1.g.fdiv 1009 = 0
    · exact ⟨v, { c1 with g := 0, l := 0 }, hv, by simp [dix_great hh, hg, dix_left hh, set_great hh, set_left hh, q_mod _ _ _ hk0, q_mod _ _ _ z1, q_div _ _ _ (d2 _), ev, h1]⟩
    · by_cases h2 : c1.l = 0
      · exact ⟨v, { c1 with g := 0, l := 0 }, hv, by simp [dix_great hh, hg, dix_left hh, set_great hh, set_left hh, q_mod _ _ _ hk0, q_mod _ _ _ z1, q_div _ _ _ (d2 _), ev, h1, h2]⟩
      · exact ⟨v, { c1 with g := c1.g.fdiv 1009 }, hv, by simp [dix_great hh, hg, dix_left hh, set_great hh, set_left hh, q_mod _ _ _ hk0, q_mod _ _ _ z1, q_div _ _ _ (d2 _), ev, h1, h2]⟩
theorem draw_set (hh : h < l.length) (c : TSt) (k : Nat) (hk : 0 < k) : ∃ (v : Nat) (c' : TSt), v < k ∧ F.f_law_draw [.ref h, vi k] ⟨l.set h (tpO ns c), e⟩ = .ok (vi v) ⟨l.set h (tpO ns c'), e⟩ := by
  have key : ∃ (v : Nat) (c' : TSt), v < k ∧ F.b_law_draw [some (.ref h), some (vi k), none, none] ⟨l.set h (tpO ns c), []⟩ = .ok (.rt (vi v)) ⟨l.set h (tpO ns c'), []⟩ := by
    unfold F.b_law_draw
    have h1 : sDput (evVar 0) (evC (.str "turn")) (ev2 addD (ev2 dixD (evVar 0) (evC (.str "turn"))) (evC (.int 1))) [some (.ref h), some (vi k), none, none] ⟨l.set h (tpO ns c), []⟩ = .ok (.nx [some (.ref h), some (vi k), none, none]) ⟨l.set h (tpO ns { c with t := c.t + 1 }), []⟩ := by
      simp [dix_turn hh, set_turn hh]
    rw [seq_nx h1]
    generalize ({ c with t := c.t + 1 } : TSt) = c
    by_cases hc : c.l = 0 ∧ c.a < ns.length
    · obtain ⟨hc1, hc2⟩ := hc
      have hx : (ns.map PyData.int)[c.a]? = some (.int ns[c.a]) := by rw [List.getElem?_map, List.getElem?_eq_getElem hc2]; rfl
      obtain ⟨c1, x, hc1⟩ : ∃ (c1 : TSt) (x : Option Val), (sIf (evAnd (asB (ev2 (eqD false) (ev2 dixD (evVar 0) (evC (.str "left"))) (evC (.int 0)))) (asB (ev2 ltD (ev2 dixD (evVar 0) (evC (.str "at"))) (evCall lenD (evCons (ev2 dixD (evVar 0) (evC (.str "cells"))) evNil))))) (sSeq (sAsg (ev2 idxD (ev2 dixD (evVar 0) (evC (.str "cells"))) (ev2 dixD (evVar 0) (evC (.str "at")))) (gVar 2)) (sSeq (sDput (evVar 0) (evC (.str "at")) (ev2 addD (ev2 dixD (evVar 0) (evC (.str "at"))) (evC (.int 1)))) (sSeq (sDput (evVar 0) (evC (.str "seed")) (evFn F.f_law_mixed (evCons (ev2 addD (ev2 dixD (evVar 0) (evC (.str "seed"))) (evVar 2)) (evCons (ev2 dixD (evVar 0) (evC (.str "at"))) evNil)))) (sSeq (sDput (evVar 0) (evC (.str "left")) (evC (.int 4))) (sIf (asB (ev2 geD (evVar 2) (ev2 powD (evC (.int 10)) (evC (.int 18))))) (sSeq (sDput (evVar 0) (evC (.str "great")) (evVar 2)) (sDput (evVar 0) (evC (.str "left")) (evC (.int 60)))) (sNext)))))) (sNext)) [some (.ref h), some (vi k), none, none] ⟨l.set h (tpO ns c), []⟩ = .ok (.nx [some (.ref h), some (vi k), x, none]) ⟨l.set h (tpO ns c1), []⟩ := by
        by_cases hb : ns[c.a] ≥ 10 ^ 18
        · refine ⟨{ c with a := c.a + 1, s := mixV (c.s + ns[c.a]) (c.a + 1), g := ns[c.a], l := 60 }, some (vi ns[c.a]), ?_⟩
          have hb' : (10 : Int) ^ 18 ≤ ns[c.a] := hb
          simp [dix_left hh, hc1, dix_at hh, dix_cells hh, ltD, hc2, set_a1 hh, dix_seed hh, mixed_ok, set_seed hh, set_left hh, set_great hh, geD, pow18]
          intro z
          omega
        · refine ⟨{ c with a := c.a + 1, s := mixV (c.s + ns[c.a]) (c.a + 1), l := 4 }, some (vi ns[c.a]), ?_⟩
          simp [dix_left hh, hc1, dix_at hh, dix_cells hh, ltD, hc2, set_a1 hh, dix_seed hh, mixed_ok, set_seed hh, set_left hh, set_great hh, geD, pow18]
          omega
      rw [seq_nx hc1]
      exact draw_tail _ rfl hh c1 k hk x
    · have hn : (sIf (evAnd (asB (ev2 (eqD false) (ev2 dixD (evVar 0) (evC (.str "left"))) (evC (.int 0)))) (asB (ev2 ltD (ev2 dixD (evVar 0) (evC (.str "at"))) (evCall lenD (evCons (ev2 dixD (evVar 0) (evC (.str "cells"))) evNil))))) (sSeq (sAsg (ev2 idxD (ev2 dixD (evVar 0) (evC (.str "cells"))) (ev2 dixD (evVar 0) (evC (.str "at")))) (gVar 2)) (sSeq (sDput (evVar 0) (evC (.str "at")) (ev2 addD (ev2 dixD (evVar 0) (evC (.str "at"))) (evC (.int 1)))) (sSeq (sDput (evVar 0) (evC (.str "seed")) (evFn F.f_law_mixed (evCons (ev2 addD (ev2 dixD (evVar 0) (evC (.str "seed"))) (evVar 2)) (evCons (ev2 dixD (evVar 0) (evC (.str "at"))) evNil)))) (sSeq (sDput (evVar 0) (evC (.str "left")) (evC (.int 4))) (sIf (asB (ev2 geD (evVar 2) (ev2 powD (evC (.int 10)) (evC (.int 18))))) (sSeq (sDput (evVar 0) (evC (.str "great")) (evVar 2)) (sDput (evVar 0) (evC (.str "left")) (evC (.int 60)))) (sNext)))))) (sNext)) [some (.ref h), some (vi k), none, none] ⟨l.set h (tpO ns c), []⟩ = .ok (.nx [some (.ref h), some (vi k), none, none]) ⟨l.set h (tpO ns c), []⟩ := by
        by_cases hl : c.l = 0
        · have : ¬ c.a < ns.length := fun z => hc ⟨hl, z⟩
          simp [dix_left hh, hl, dix_at hh, dix_cells hh, ltD, this]
        · simp [dix_left hh, hl]
      rw [seq_nx hn]
      exact draw_tail _ rfl hh c k hk none
  obtain ⟨v, c', hv, hr⟩ := key
  refine ⟨v, c', hv, ?_⟩
  have := fn_chg (np := 2) (n := 4) (body := F.b_law_draw) (ds := [.ref h, vi k]) (S := ⟨l.set h (tpO ns c), e⟩) rfl hr rfl
  rw [F.f_law_draw, this]
  simp only [List.length_set]
  rw [List.take_of_length_le (by simp)]
end
/-- the tape lies at h -/
def Tp (ns : List Int) (h : Nat) (S : Sto) : Prop := ∃ c, S.objs[h]? = some (tpO ns c)
/-- only the tape went on -/
structure Stp (ns : List Int) (h : Nat) (S S' : Sto) : Prop where
  len : S'.objs.length = S.objs.length
  esc : S'.esc = S.esc
  tp : Tp ns h S'
  keep : ∀ n, n ≠ h → S'.objs[n]? = S.objs[n]?
theorem Stp.trans {ns : List Int} {h : Nat} {S S1 S2 : Sto} (a : Stp ns h S S1) (b : Stp ns h S1 S2) : Stp ns h S S2 := ⟨b.len.trans a.len, b.esc.trans a.esc, b.tp, fun n hn => (b.keep n hn).trans (a.keep n hn)⟩
theorem Stp.refl {ns : List Int} {h : Nat} {S : Sto} (t : Tp ns h S) : Stp ns h S S := ⟨rfl, rfl, t, fun _ _ => rfl⟩
theorem draw_ok {ns : List Int} {h : Nat} {S : Sto} (t : Tp ns h S) (k : Nat) (hk : 0 < k) : ∃ (v : Nat) (S' : Sto), v < k ∧ F.f_law_draw [.ref h, vi k] S = .ok (vi v) S' ∧ Stp ns h S S' := by
  obtain ⟨c, hc⟩ := t
  have hh : h < S.objs.length := (List.getElem?_eq_some_iff.mp hc).1
  obtain ⟨v, c', hv, hr⟩ := draw_set (e := S.esc) (ns := ns) hh c k hk
  have e1 : S.objs.set h (tpO ns c) = S.objs := by
    have := (List.getElem?_eq_some_iff.mp hc).2
    rw [← this, List.set_getElem_self]
  rw [e1] at hr
  refine ⟨v, _, hv, hr, by simp, rfl, ⟨c', by simp [hh]⟩, fun n hn => ?_⟩
  show (S.objs.set h _)[n]? = _
  rw [List.getElem?_set_ne (Ne.symm hn)]
end
end MP
set_option Elab.async false
set_option linter.all false
set_option maxRecDepth 100000
namespace MP
open PySem PySem.Spec L2
noncomputable section
open Classical
/-! Q4: the scene -/
theorem idx_fr (qs : List Rat) (v : Nat) (h : v < qs.length) (S : Sto) : idxD (.im (.list (qs.map frD))) (vi v) S = .ok (fr qs[v]) S := by
  rw [q_idxL, List.getElem?_map, List.getElem?_eq_getElem h]; rfl
/-- the tape went on, more objects may have been made -/
structure Stq (ns : List Int) (h : Nat) (S S' : Sto) : Prop where
  len : S.objs.length ≤ S'.objs.length
  esc : S'.esc = S.esc
  tp : Tp ns h S'
  keep : ∀ n, n < S.objs.length → n ≠ h → S'.objs[n]? = S.objs[n]?
theorem Stp.q {ns : List Int} {h : Nat} {S S1 : Sto} (a : Stp ns h S S1) : Stq ns h S S1 := ⟨Nat.le_of_eq a.len.symm, a.esc, a.tp, fun n _ hn => a.keep n hn⟩
theorem Stq.trans {ns : List Int} {h : Nat} {S S1 S2 : Sto} (a : Stq ns h S S1) (b : Stq ns h S1 S2) : Stq ns h S S2 := ⟨Nat.le_trans a.len b.len, b.esc.trans a.esc, b.tp, fun n hl hn => (b.keep n (Nat.lt_of_lt_of_le hl a.len) hn).trans (a.keep n hl hn)⟩
theorem fn_tape {ns : List Int} {h np n : Nat} {body : EvS} {ds : List Val} {S S' : Sto} {d : D} (hl : ds.length = np) (hh : h < S.objs.length) (hr : body (startE n ds) ⟨S.objs, []⟩ = .ok (.rt (.im d)) S') (st : Stq ns h ⟨S.objs, []⟩ S') : ∃ S2, fnD leave np n body ds S = .ok (.im d) S2 ∧ Stp ns h S S2 := by
  refine ⟨_, fn_chg hl hr st.esc, ?_, rfl, ?_, ?_⟩
  · show (S'.objs.take S.objs.length).length = _
    rw [List.length_take]
    exact Nat.min_eq_left st.len
  · obtain ⟨c, hc⟩ := st.tp
    refine ⟨c, ?_⟩
    show (S'.objs.take S.objs.length)[h]? = _
    rw [List.getElem?_take_of_lt hh]
    exact hc
  · intro m hm
    show (S'.objs.take S.objs.length)[m]? = _
    by_cases hl : m < S.objs.length
    · rw [List.getElem?_take_of_lt hl]
      exact st.keep m hl hm
    · rw [List.getElem?_eq_none (by rw [List.length_take]; omega), List.getElem?_eq_none (by omega)]
theorem Tp.lt {ns : List Int} {h : Nat} {S : Sto} (t : Tp ns h S) : h < S.objs.length := (List.getElem?_eq_some_iff.mp t.choose_spec).1
theorem drawn_ok {ns : List Int} {h : Nat} {S : Sto} (t : Tp ns h S) (s : Nat) (ds : List Nat) (hs : s < 8) (h0 : 0 < ds.length) (hd : ∀ d ∈ ds, 0 < d ∧ d < 8) :
    ∃ (q : Rat) (S' : Sto), F.f_law_drawn [.ref h, vi s, .im (.list (ds.map fun (i : Nat) => PyData.int i))] S = .ok (fr q) S' ∧ Stp ns h S S' ∧ Bd 3 q := by
  have t0 : Tp ns h ⟨S.objs, []⟩ := t
  obtain ⟨v, S1, hv, e1, st1⟩ := draw_ok t0 (2 * s + 1) (by omega)
  obtain ⟨w, S2, hw, e2, st2⟩ := draw_ok st1.tp ds.length h0
  have hdw := hd ds[w] (List.getElem_mem hw)
  have hx : (ds.map fun (i : Nat) => PyData.int i)[w]? = some (.int ds[w]) := by rw [List.getElem?_map, List.getElem?_eq_getElem hw]; rfl
  have hb : (((v : Int) - s)).natAbs < 2 ^ 3 := by omega
  have hc : ((ds[w] : Nat) : Int).natAbs < 2 ^ 3 := by rw [Int.natAbs_natCast]; exact hdw.2
  have hne : ((ds[w] : Nat) : Int) ≠ 0 := by omega
  have lo := law_fr_ok (a := (v : Int) - s) hne hc (by omega) S2
  have m1 : IntMulOk 2 (s : Int) := mulOk_r (by omega) (by omega)
  have e1' : F.f_law_draw [.ref h, .im (.int (2 * (s : Int) + 1))] ⟨S.objs, []⟩ = .ok (vi v) S1 := e1
  obtain ⟨S3, r3, st3⟩ := fn_tape (np := 3) (n := 3) (body := F.b_law_drawn) (ds := [.ref h, vi s, .im (.list (ds.map fun (i : Nat) => PyData.int i))]) (S := S) (d := frD (((v : Int) - s : Int) / ((ds[w] : Nat) : Int))) rfl t.lt (S' := S2) (by
    unfold F.b_law_drawn
    simp [startE, q_mul _ _ _ m1, e1', e2, hx, hw, lo]
    ) (st1.trans st2).q
  exact ⟨_, S3, r3, st3, bd_div hne hb hc⟩
def wides : List Rat := [0, { num := 1, den := 2 }, 1, { num := 2, den := 3 }, 5, { num := 1, den := 7 }]
def offs : List Rat := [0, 1, -1, { num := 1, den := 2 }, { num := -2, den := 3 }, { num := 3, den := 2 }]
theorem wides_bd : ∀ q ∈ wides, Bd 3 q := by
  intro q hq
  simp only [wides, List.mem_cons, List.not_mem_nil, or_false] at hq
  rcases hq with rfl | rfl | rfl | rfl | rfl | rfl <;> exact ⟨by decide, by decide⟩
theorem offs_bd : ∀ q ∈ offs, Bd 2 q := by
  intro q hq
  simp only [offs, List.mem_cons, List.not_mem_nil, or_false] at hq
  rcases hq with rfl | rfl | rfl | rfl | rfl | rfl <;> exact ⟨by decide, by decide⟩
theorem wide_step {ns : List Int} {h : Nat} {S : Sto} (t : Tp ns h S) {x1 x2 x3 x4 x5 x6 x7 x8 x9 : Option Val} (f : EvS) (hf : f = (sAsg (ev2 idxD (evLst false (evCons (evTup (evCons (evC (.int 0)) (evCons (evC (.int 1)) evNil))) (evCons (evTup (evCons (evC (.int 1)) (evCons (evC (.int 2)) evNil))) (evCons (evTup (evCons (evC (.int 1)) (evCons (evC (.int 1)) evNil))) (evCons (evTup (evCons (evC (.int 2)) (evCons (evC (.int 3)) evNil))) (evCons (evTup (evCons (evC (.int 5)) (evCons (evC (.int 1)) evNil))) (evCons (evTup (evCons (evC (.int 1)) (evCons (evC (.int 7)) evNil))) evNil))))))) (evFn F.f_law_draw (evCons (evVar 0) (evCons (evC (.int 6)) evNil)))) (gVar 1))) :
    ∃ (q : Rat) (S' : Sto), f [some (.ref h), x1, x2, x3, x4, x5, x6, x7, x8, x9] S = .ok (.nx [some (.ref h), some (fr q), x2, x3, x4, x5, x6, x7, x8, x9]) S' ∧ Stp ns h S S' ∧ Bd 3 q := by
  obtain ⟨v, S1, hv, e1, st1⟩ := draw_ok t 6 (by omega)
  have e1' : F.f_law_draw [.ref h, .im (.int 6)] S = .ok (vi v) S1 := e1
  refine ⟨wides[v]'hv, S1, ?_, st1, wides_bd _ (List.getElem_mem _)⟩
  have ix := idx_fr wides v hv S1
  have hw : wides.map frD = [.tuple [.int 0, .int 1], .tuple [.int 1, .int 2], .tuple [.int 1, .int 1], .tuple [.int 2, .int 3], .tuple [.int 5, .int 1], .tuple [.int 1, .int 7]] := rfl
  rw [hw] at ix
  subst hf
  simp only [q_asg, q_2, q_lst, q_cons, q_nil, q_tup, q_c, R.bind_ok, q_allIm0, q_allIm1, Option.map_some, List.length_cons, List.length_nil, q_line2, q_line6, if_true, newL, Bool.false_eq_true, if_false, q_fn, q_var, List.getElem?_cons_zero, e1', q_noX_ok, Nat.reduceAdd, q_line0, ix, q_gvar, List.set_cons_succ, List.set_cons_zero]
/-- a drawn fraction with bits -/
def bits2 : List Nat := [1, 2]
def bits3 : List Nat := [1, 3]
section
variable {ns : List Int} {h : Nat} {S : Sto}
theorem drawn12 (t : Tp ns h S) (s : Nat) (hs : s < 8) : ∃ (q : Rat) (S' : Sto), F.f_law_drawn [.ref h, .im (.int s), .im (.list [.int 1, .int 2])] S = .ok (fr q) S' ∧ Stp ns h S S' ∧ Bd 3 q :=
  drawn_ok t s [1, 2] hs (by decide) (by decide)
theorem drawn13 (t : Tp ns h S) (s : Nat) (hs : s < 8) : ∃ (q : Rat) (S' : Sto), F.f_law_drawn [.ref h, .im (.int s), .im (.list [.int 1, .int 3])] S = .ok (fr q) S' ∧ Stp ns h S S' ∧ Bd 3 q :=
  drawn_ok t s [1, 3] hs (by decide) (by decide)
theorem drawI (t : Tp ns h S) (k : Nat) (hk : 0 < k) : ∃ (v : Nat) (S' : Sto), v < k ∧ F.f_law_draw [.ref h, .im (.int k)] S = .ok (vi v) S' ∧ Stp ns h S S' := draw_ok t k hk
variable {x1 x2 x3 x4 x5 x6 x7 x8 x9 : Option Val}
theorem sc_unp (t : Tp ns h S) (f : EvS) (hf : f = (sUnp 4 (evCons (evFn F.f_law_drawn (evCons (evVar 0) (evCons (evC (.int 5)) (evCons (evLst false (evCons (evC (.int 1)) (evCons (evC (.int 2)) evNil))) evNil)))) (evCons (evTup (evCons (evC (.int 0)) (evCons (evC (.int 1)) evNil))) (evCons (evTup (evCons (evC (.int 0)) (evCons (evC (.int 1)) evNil))) (evCons (evLst true evNil) evNil)))) (gsCons (gVar 2) (gsCons (gVar 3) (gsCons (gVar 4) (gsCons (gVar 5) gsNil)))))) :
    ∃ (q : Rat) (S' : Sto), f [some (.ref h), x1, x2, x3, x4, x5, x6, x7, x8, x9] S = .ok (.nx [some (.ref h), x1, some (fr q), some (fr 0), some (fr 0), some (.ref S.objs.length), x6, x7, x8, x9]) S' ∧ Stq ns h S S' ∧ S'.objs.length = S.objs.length + 1 ∧ S'.objs[S.objs.length]? = some (.lst []) ∧ Bd 3 q := by
  obtain ⟨q, S1, e1, st1, hb⟩ := drawn12 t 5 (by omega)
  have e1' : F.f_law_drawn [.ref h, .im (.int 5), .im (.list [.int 1, .int 2])] S = .ok (fr q) S1 := e1
  have l1 := st1.len
  have tl := st1.tp.lt
  refine ⟨q, ⟨S1.objs ++ [.lst []], S1.esc⟩, ?_, ⟨by simp [l1], st1.esc, ?_, ?_⟩, by simp [l1], ?_, hb⟩
  · subst hf
    have z : (fr 0) = .im (.tuple [.int 0, .int 1]) := rfl
    simp [e1', newL, q_line4, l1, z]
  · obtain ⟨c, hc⟩ := st1.tp
    exact ⟨c, by show (S1.objs ++ [Obj.lst []])[h]? = _; rw [List.getElem?_append_left tl]; exact hc⟩
  · intro n hn hne
    show (S1.objs ++ [Obj.lst []])[n]? = _
    rw [List.getElem?_append_left (by omega)]
    exact st1.keep n hne
  · show (S1.objs ++ [Obj.lst []])[S.objs.length]? = _
    rw [← l1]
    simp
theorem sc_slope (t : Tp ns h S) (f : EvS) (hf : f = (sIf (asB (ev2 (eqD false) (evFn F.f_law_draw (evCons (evVar 0) (evCons (evC (.int 5)) evNil))) (evC (.int 0)))) (sAsg (evFn F.f_law_drawn (evCons (evVar 0) (evCons (evC (.int 3)) (evCons (evLst false (evCons (evC (.int 1)) (evCons (evC (.int 2)) evNil))) evNil)))) (gVar 3)) (sNext))) (p : Rat) (hp : Bd 3 p) :
    ∃ (q : Rat) (S' : Sto), f [some (.ref h), x1, x2, some (fr p), x4, x5, x6, x7, x8, x9] S = .ok (.nx [some (.ref h), x1, x2, some (fr q), x4, x5, x6, x7, x8, x9]) S' ∧ Stp ns h S S' ∧ Bd 3 q := by
  subst hf
  obtain ⟨v, S1, hv, e1, st1⟩ := drawI t 5 (by omega)
  have e1' : F.f_law_draw [.ref h, .im (.int 5)] S = .ok (vi v) S1 := e1
  by_cases h0 : v = 0
  · subst h0
    obtain ⟨q, S2, e2, st2, hb⟩ := drawn12 st1.tp 3 (by omega)
    have e2' : F.f_law_drawn [.ref h, .im (.int 3), .im (.list [.int 1, .int 2])] S1 = .ok (fr q) S2 := e2
    exact ⟨q, S2, by simp [e1', e2', newL], st1.trans st2, hb⟩
  · exact ⟨p, S1, by simp [e1', h0], st1, hp⟩
theorem sc_off (t : Tp ns h S) (f : EvS) (hf : f = (sIf (asB (ev2 gtD (evVar 6) (evC (.int 0)))) (sAsg (evFn F.f_law_plus (evCons (evVar 4) (evCons (evFn F.f_law_of_both (evCons (evVar 1) (evCons (ev2 idxD (evLst false (evCons (evTup (evCons (evC (.int 0)) (evCons (evC (.int 1)) evNil))) (evCons (evTup (evCons (evC (.int 1)) (evCons (evC (.int 1)) evNil))) (evCons (evTup (evCons (ev1 negD (evC (.int 1))) (evCons (evC (.int 1)) evNil))) (evCons (evTup (evCons (evC (.int 1)) (evCons (evC (.int 2)) evNil))) (evCons (evTup (evCons (ev1 negD (evC (.int 2))) (evCons (evC (.int 3)) evNil))) (evCons (evTup (evCons (evC (.int 3)) (evCons (evC (.int 2)) evNil))) evNil))))))) (evFn F.f_law_draw (evCons (evVar 0) (evCons (evC (.int 6)) evNil)))) evNil))) evNil))) (gVar 8)) (sNext))) (w p y : Rat) (k : Nat) (hk : k ≤ 200) (hw : Bd 3 w) (hp : Bd k p) (hy : Bd (k + 6) y) (mode : Nat) :
    ∃ (q : Rat) (S' : Sto), f [some (.ref h), some (fr w), x2, x3, some (fr p), x5, some (vi mode), x7, some (fr y), x9] S = .ok (.nx [some (.ref h), some (fr w), x2, x3, some (fr p), x5, some (vi mode), x7, some (fr q), x9]) S' ∧ Stp ns h S S' ∧ Bd (k + 6) q := by
  subst hf
  by_cases h0 : 0 < mode
  · obtain ⟨v, S1, hv, e1, st1⟩ := draw_ok t 6 (by omega)
    have e1' : F.f_law_draw [.ref h, .im (.int 6)] S = .ok (vi v) S1 := e1
    have ix := idx_fr offs v hv S1
    have hw2 : offs.map frD = [.tuple [.int 0, .int 1], .tuple [.int 1, .int 1], .tuple [.int (-1), .int 1], .tuple [.int 1, .int 2], .tuple [.int (-2), .int 3], .tuple [.int 3, .int 2]] := rfl
    rw [hw2] at ix
    have ho := offs_bd _ (List.getElem_mem (l := offs) hv)
    have pr := law_of_both_ok hw ho (by omega) S1
    have pl := law_plus_ok hp (hw.mul ho) (by omega) S1
    have hm : (0 : Int) < (mode : Int) := by omega
    refine ⟨_, S1, ?_, st1, (hp.add (hw.mul ho)).mono (by omega)⟩
    simp only [q_asg, q_sif, q_asB, gtD, q_cmp, q_next, q_2, q_1, q_neg, q_lst, q_cons, q_nil, q_tup, q_c, R.bind_ok, q_allIm0, q_allIm1, Option.map_some, List.length_cons, List.length_nil, q_line2, q_line6, if_true, newL, Bool.false_eq_true, if_false, q_fn, q_var, List.getElem?_cons_zero, List.getElem?_cons_succ, e1', q_noX_ok, Nat.reduceAdd, q_line0, ix, q_gvar, List.set_cons_succ, List.set_cons_zero, hm, decide_true, pr, pl]
  · have hm : ¬ (0 : Int) < (mode : Int) := by omega
    refine ⟨y, S, ?_, .refl t, hy⟩
    simp [gtD, hm]
    omega
theorem sc_far (t : Tp ns h S) (f : EvS) (hf : f = (sIf (evAnd (asB (ev2 (eqD false) (evVar 6) (evC (.int 3)))) (asB (ev2 (eqD false) (evFn F.f_law_draw (evCons (evVar 0) (evCons (evC (.int 4)) evNil))) (evC (.int 0))))) (sAsg (evFn F.f_law_drawn (evCons (evVar 0) (evCons (evC (.int 6)) (evCons (evLst false (evCons (evC (.int 1)) (evCons (evC (.int 3)) evNil))) evNil)))) (gVar 8)) (sNext))) (y : Rat) (k : Nat) (hy : Bd (k + 6) y) (mode : Nat) :
    ∃ (q : Rat) (S' : Sto), f [some (.ref h), x1, x2, x3, x4, x5, some (vi mode), x7, some (fr y), x9] S = .ok (.nx [some (.ref h), x1, x2, x3, x4, x5, some (vi mode), x7, some (fr q), x9]) S' ∧ Stp ns h S S' ∧ Bd (k + 6) q := by
  subst hf
  by_cases hm : mode = 3
  · subst hm
    obtain ⟨v, S1, hv, e1, st1⟩ := drawI t 4 (by omega)
    have e1' : F.f_law_draw [.ref h, .im (.int 4)] S = .ok (vi v) S1 := e1
    by_cases h0 : v = 0
    · subst h0
      obtain ⟨q, S2, e2, st2, hb⟩ := drawn13 st1.tp 6 (by omega)
      have e2' : F.f_law_drawn [.ref h, .im (.int 6), .im (.list [.int 1, .int 3])] S1 = .ok (fr q) S2 := e2
      exact ⟨q, S2, by simp [e1', e2', newL], st1.trans st2, hb.mono (by omega)⟩
    · exact ⟨y, S1, by simp [e1', h0], st1, hy⟩
  · have : ¬ (mode : Int) = 3 := by omega
    exact ⟨y, S, by simp [this], .refl t, hy⟩
theorem sc_gap (t : Tp ns h S) (f : EvS) (hf : f = (sAsg (evFn F.f_law_fr (evCons (ev2 addD (evC (.int 1)) (evFn F.f_law_draw (evCons (evVar 0) (evCons (evC (.int 4)) evNil)))) (evCons (ev2 addD (evC (.int 1)) (evFn F.f_law_draw (evCons (evVar 0) (evCons (evC (.int 3)) evNil)))) evNil))) (gVar 9))) :
    ∃ (q : Rat) (S' : Sto), f [some (.ref h), x1, x2, x3, x4, x5, x6, x7, x8, x9] S = .ok (.nx [some (.ref h), x1, x2, x3, x4, x5, x6, x7, x8, some (fr q)]) S' ∧ Stp ns h S S' ∧ Bd 3 q ∧ 0 < q := by
  subst hf
  obtain ⟨v, S1, hv, e1, st1⟩ := drawI t 4 (by omega)
  obtain ⟨w, S2, hw, e2, st2⟩ := drawI st1.tp 3 (by omega)
  have e1' : F.f_law_draw [.ref h, .im (.int 4)] S = .ok (vi v) S1 := e1
  have e2' : F.f_law_draw [.ref h, .im (.int 3)] S1 = .ok (vi w) S2 := e2
  have hb : (1 + (v : Int)).natAbs < 2 ^ 3 := by omega
  have hc : (1 + (w : Int)).natAbs < 2 ^ 3 := by omega
  have hne : (1 + (w : Int)) ≠ 0 := by omega
  have lo := law_fr_ok (a := 1 + (v : Int)) hne hc (by omega) S2
  refine ⟨_, S2, ?_, st1.trans st2, bd_div hne hb hc, ?_⟩
  · simp only [q_asg, q_2, q_c, q_fn, q_cons, q_nil, q_var, R.bind_ok, List.getElem?_cons_zero, e1', e2', q_noX_ok, q_add, lo, q_gvar, List.set_cons_succ, List.set_cons_zero]
  · have h1 : (0 : Rat) < ((1 + (v : Int) : Int) : Rat) := by exact_mod_cast (by omega : (0 : Int) < 1 + v)
    have h2 : (0 : Rat) < ((1 + (w : Int) : Int) : Rat) := by exact_mod_cast (by omega : (0 : Int) < 1 + w)
    rw [Rat.lt_div_iff h2, Rat.zero_mul]
    exact h1
end
end
end MP
set_option Elab.async false
set_option linter.all false
set_option maxRecDepth 100000
namespace MP
open PySem PySem.Spec L2
noncomputable section
open Classical
/-! Q5: the scene's points -/
def ptD (p : Rat × Rat) : D := .tuple [frD p.1, frD p.2]
def ptsD (ps : List (Rat × Rat)) : D := .tuple (ps.map ptD)
/-- points that rise, with few bits -/
structure PtsOk (ps : List (Rat × Rat)) : Prop where
  rise : ps.Pairwise fun p q => p.1 < q.1
  bits : ∀ p ∈ ps, Bd 140 p.1 ∧ Bd 140 p.2
  some : 0 < ps.length
  few : ps.length ≤ 14
/-- the state of the scene's loop -/
structure ScI (ns : List Int) (h n0 : Nat) (S0 : Sto) (w : Rat) (mode : Nat) (j : Nat) (env : Env) (S : Sto) : Prop where
  q : Stq ns h S0 S
  len : S.objs.length = n0 + 1
  ex : ∃ (x sl li : Rat) (ps : List (Rat × Rat)), env = [some (.ref h), some (fr w), some (fr x), some (fr sl), some (fr li), some (.ref n0), some (vi mode), none, none, none] ∧ S.objs[n0]? = some (.lst (ps.map fun p => .im (ptD p))) ∧ ps.length = j ∧ (ps.Pairwise fun p q => p.1 < q.1) ∧ (∀ p ∈ ps, p.1 < x ∧ Bd 140 p.1 ∧ Bd 140 p.2) ∧ Bd (3 + 8 * j) x ∧ Bd 3 sl ∧ Bd (3 + 8 * j) li
def bSc : EvS := (sKill [7, 8, 9] (sSeq (sIf (asB (ev2 (eqD false) (evFn F.f_law_draw (evCons (evVar 0) (evCons (evC (.int 5)) evNil))) (evC (.int 0)))) (sAsg (evFn F.f_law_drawn (evCons (evVar 0) (evCons (evC (.int 3)) (evCons (evLst false (evCons (evC (.int 1)) (evCons (evC (.int 2)) evNil))) evNil)))) (gVar 3)) (sNext)) (sSeq (sAsg (evVar 4) (gVar 8)) (sSeq (sIf (asB (ev2 gtD (evVar 6) (evC (.int 0)))) (sAsg (evFn F.f_law_plus (evCons (evVar 4) (evCons (evFn F.f_law_of_both (evCons (evVar 1) (evCons (ev2 idxD (evLst false (evCons (evTup (evCons (evC (.int 0)) (evCons (evC (.int 1)) evNil))) (evCons (evTup (evCons (evC (.int 1)) (evCons (evC (.int 1)) evNil))) (evCons (evTup (evCons (ev1 negD (evC (.int 1))) (evCons (evC (.int 1)) evNil))) (evCons (evTup (evCons (evC (.int 1)) (evCons (evC (.int 2)) evNil))) (evCons (evTup (evCons (ev1 negD (evC (.int 2))) (evCons (evC (.int 3)) evNil))) (evCons (evTup (evCons (evC (.int 3)) (evCons (evC (.int 2)) evNil))) evNil))))))) (evFn F.f_law_draw (evCons (evVar 0) (evCons (evC (.int 6)) evNil)))) evNil))) evNil))) (gVar 8)) (sNext)) (sSeq (sIf (evAnd (asB (ev2 (eqD false) (evVar 6) (evC (.int 3)))) (asB (ev2 (eqD false) (evFn F.f_law_draw (evCons (evVar 0) (evCons (evC (.int 4)) evNil))) (evC (.int 0))))) (sAsg (evFn F.f_law_drawn (evCons (evVar 0) (evCons (evC (.int 6)) (evCons (evLst false (evCons (evC (.int 1)) (evCons (evC (.int 3)) evNil))) evNil)))) (gVar 8)) (sNext)) (sSeq (sExpr (evM appD (evVar 5) (evCons (evTup (evCons (evVar 2) (evCons (evVar 8) evNil))) evNil))) (sSeq (sAsg (evFn F.f_law_fr (evCons (ev2 addD (evC (.int 1)) (evFn F.f_law_draw (evCons (evVar 0) (evCons (evC (.int 4)) evNil)))) (evCons (ev2 addD (evC (.int 1)) (evFn F.f_law_draw (evCons (evVar 0) (evCons (evC (.int 3)) evNil)))) evNil))) (gVar 9)) (sPar 2 4 (evCons (evFn F.f_law_plus (evCons (evVar 2) (evCons (evVar 9) evNil))) (evCons (evFn F.f_law_plus (evCons (evVar 4) (evCons (evFn F.f_law_of_both (evCons (evVar 3) (evCons (evVar 9) evNil))) evNil))) evNil))))))))))
theorem sc_body (g : EvG) (f : EvS) (hg : g = gVar 7) (hf : f = bSc)
    {ns : List Int} {h n0 : Nat} {S0 : Sto} (hn : n0 = S0.objs.length) (t0 : h < n0) {w : Rat} {mode j : Nat} (hj : j < 14) (hw : Bd 3 w) {env : Env} {S : Sto} (I : ScI ns h n0 S0 w mode j env S) (k : Val) : ∃ e S', (g k env S).bind f = .ok (.nx e) S' ∧ ScI ns h n0 S0 w mode (j + 1) e S' := by
  obtain ⟨Iq, Il, x, sl, li, ps, rfl, hp, hpl, hr, hb, bx, bs, bl⟩ := I
  obtain ⟨sl2, S1, e1, st1, bs2⟩ := sc_slope (x1 := some (fr w)) (x2 := some (fr x)) (x4 := some (fr li)) (x5 := some (.ref n0)) (x6 := some (vi mode)) (x7 := some k) (x8 := none) (x9 := none) Iq.tp _ rfl sl bs
  obtain ⟨y, S2, e2, st2, by2⟩ := sc_off (x2 := some (fr x)) (x3 := some (fr sl2)) (x5 := some (.ref n0)) (x7 := some k) (x9 := none) st1.tp _ rfl w li li (3 + 8 * j) (by omega) hw bl (bl.mono (by omega)) mode
  obtain ⟨z, S3, e3, st3, bz⟩ := sc_far (x1 := some (fr w)) (x2 := some (fr x)) (x3 := some (fr sl2)) (x4 := some (fr li)) (x5 := some (.ref n0)) (x7 := some k) (x9 := none) st2.tp _ rfl y (3 + 8 * j) by2 mode
  have st := (st1.trans st2).trans st3
  have hne : n0 ≠ h := by omega
  have hp3 : S3.objs[n0]? = some (.lst (ps.map fun p => .im (ptD p))) := by rw [st.keep n0 hne]; exact hp
  have l3 : S3.objs.length = n0 + 1 := by rw [st.len, Il]
  have hlen : (ps.map fun p => Val.im (ptD p)).length < sizeLine := by
    rw [List.length_map, sizeLine_eq]; omega
  let S4 : Sto := ⟨S3.objs.set n0 (.lst ((ps ++ [(x, z)]).map fun p => .im (ptD p))), S3.esc⟩
  have e4 : sExpr (evM appD (evVar 5) (evCons (evTup (evCons (evVar 2) (evCons (evVar 8) evNil))) evNil)) [some (.ref h), some (fr w), some (fr x), some (fr sl2), some (fr li), some (.ref n0), some (vi mode), some k, some (fr z), none] S3 = .ok (.nx [some (.ref h), some (fr w), some (fr x), some (fr sl2), some (fr li), some (.ref n0), some (vi mode), some k, some (fr z), none]) S4 := by
    simp only [q_expr, q_M, q_var, R.bind_ok, List.getElem?_cons_zero, List.getElem?_cons_succ, isLst, hp3, if_true, q_cons, q_nil, q_tup, q_allIm0, q_allIm1, Option.map_some, List.length_cons, List.length_nil, q_line2, Nat.reduceAdd, appD, hlen, putO, Val.isRef, Bool.false_eq_true, if_false]
    simp only [S4, List.map_append, List.map_cons, List.map_nil, ptD]
  have t4 : Tp ns h S4 := by
    obtain ⟨c, hc⟩ := st.tp
    exact ⟨c, by show (S3.objs.set n0 _)[h]? = _; rw [List.getElem?_set_ne hne]; exact hc⟩
  obtain ⟨gap, S5, e5, st5, bg, gp⟩ := sc_gap (x1 := some (fr w)) (x2 := some (fr x)) (x3 := some (fr sl2)) (x4 := some (fr li)) (x5 := some (.ref n0)) (x6 := some (vi mode)) (x7 := some k) (x8 := some (fr z)) (x9 := none) t4 _ rfl
  have p1 := law_plus_ok bx bg (by omega) S5
  have p2 := law_of_both_ok bs2 bg (by omega) S5
  have p3 := law_plus_ok bl (bs2.mul bg) (by omega) S5
  refine ⟨[some (.ref h), some (fr w), some (fr (x + gap)), some (fr sl2), some (fr (li + sl2 * gap)), some (.ref n0), some (vi mode), none, none, none], S5, ?_, ?_, ?_, x + gap, sl2, li + sl2 * gap, ps ++ [(x, z)], rfl, ?_, ?_, ?_, ?_, ?_, bs2, ?_⟩
  · subst hg hf
    unfold bSc
    simp only [q_gvar, R.bind_ok, List.set_cons_zero, List.set_cons_succ, q_kill]
    rw [seq_nx e1]
    simp only [q_seq (f := sAsg (evVar 4) (gVar 8)), q_asg, q_var, List.getElem?_cons_zero, List.getElem?_cons_succ, R.bind_ok, q_gvar, List.set_cons_zero, List.set_cons_succ]
    rw [seq_nx e2, seq_nx e3, seq_nx e4, seq_nx e5]
    simp only [q_par, q_cons, q_nil, q_fn, q_var, List.getElem?_cons_zero, List.getElem?_cons_succ, R.bind_ok, p1, p2, p3, q_noX_ok, List.set_cons_zero, List.set_cons_succ, q_killE0, q_killE1]
  · refine ⟨by rw [st5.len]; simp [S4, l3]; omega, ?_, st5.tp, fun n hn' hx => ?_⟩
    · rw [st5.esc]; exact st.esc.trans Iq.esc
    · rw [st5.keep n hx, ← Iq.keep n hn' hx, ← st.keep n hx]
      show (S3.objs.set n0 _)[n]? = _
      rw [List.getElem?_set_ne (by omega)]
  · rw [st5.len]; simp [S4, l3]
  · rw [st5.keep n0 hne]
    simp [S4, l3]
  · simp [hpl]
  · rw [List.pairwise_append]
    exact ⟨hr, by simp, fun p hp' q hq => by simp at hq; subst hq; exact (hb p hp').1⟩
  · intro p hp'
    rcases List.mem_append.mp hp' with hp' | hp'
    · obtain ⟨a, b, c⟩ := hb p hp'
      exact ⟨by grind, b, c⟩
    · simp at hp'
      subst hp'
      exact ⟨by grind, bx.mono (by omega), bz.mono (by omega)⟩
  · exact (bx.add bg).mono (by omega)
  · exact (bl.add (bs2.mul bg)).mono (by omega)
theorem scene_ok {ns : List Int} {h : Nat} {S : Sto} (t : Tp ns h S) : ∃ (ps : List (Rat × Rat)) (w : Rat) (S' : Sto), F.f_law_scene [.ref h] S = .ok (.im (.tuple [ptsD ps, frD w])) S' ∧ Stp ns h S S' ∧ PtsOk ps ∧ Bd 3 w := by
  have t0 : Tp ns h ⟨S.objs, []⟩ := t
  obtain ⟨w, S1, e1, st1, bw⟩ := wide_step (x1 := none) (x2 := none) (x3 := none) (x4 := none) (x5 := none) (x6 := none) (x7 := none) (x8 := none) (x9 := none) t0 _ rfl
  obtain ⟨x, S2, e2, st2, l2, o2, bx⟩ := sc_unp (x1 := some (fr w)) (x6 := none) (x7 := none) (x8 := none) (x9 := none) st1.tp _ rfl
  obtain ⟨mode, S3, hm, e3, st3⟩ := drawI st2.tp 4 (by omega)
  obtain ⟨k, S4, hk, e4, st4⟩ := drawI st3.tp 14 (by omega)
  have e3' : F.f_law_draw [.ref h, .im (.int 4)] S2 = .ok (vi mode) S3 := e3
  have e4' : F.f_law_draw [.ref h, .im (.int 14)] S3 = .ok (vi k) S4 := e4
  obtain ⟨L, hL, hlen, _⟩ := rng_ex (1 + (k : Int)) (by unfold SmallI; omega)
  have l1 : S1.objs.length = S.objs.length := st1.len
  rw [l1] at o2 l2 e2
  have hne : S.objs.length ≠ h := by have := t.lt; omega
  have st34 := st3.trans st4
  have I0 : ScI ns h S.objs.length ⟨S.objs, []⟩ w mode 0 [some (.ref h), some (fr w), some (fr x), some (fr 0), some (fr 0), some (.ref S.objs.length), some (vi mode), none, none, none] S4 := by
    refine ⟨(st1.q.trans st2).trans st34.q, by rw [st34.len, l2], x, 0, 0, [], rfl, ?_, rfl, .nil, by simp, bx.mono (by omega), ⟨by decide, by decide⟩, ⟨by decide, by decide⟩⟩
    rw [st34.keep _ hne, o2]
    rfl
  obtain ⟨e5, S5, h5, I5⟩ := for_ok (gd := fun _ => True) (g := gVar 7) (f := bSc) (fun _ => trivial) (ScI ns h S.objs.length ⟨S.objs, []⟩ w mode) L _ S4 I0 (by
    intro j y env S' hy I
    have hj := (List.getElem?_eq_some_iff.mp hy).1
    exact sc_body (gVar 7) _ rfl rfl (S0 := ⟨S.objs, []⟩) (j := j) rfl t.lt (by omega) bw I y)
  unfold bSc at h5
  obtain ⟨Iq, Il, x', sl, li, ps, rfl, hp, hpl, hr, hb, _⟩ := I5
  have hlk : L.length = k + 1 := by omega
  obtain ⟨S6, r6, st6⟩ := fn_tape (np := 1) (n := 10) (body := F.b_law_scene) (ds := [.ref h]) (S := S) (d := .tuple [ptsD ps, frD w]) rfl t.lt (S' := S5) (by
    unfold F.b_law_scene
    show sSeq _ _ [some (.ref h), none, none, none, none, none, none, none, none, none] _ = _
    rw [seq_nx e1, seq_nx e2]
    have al : allIm (ps.map fun p => Val.im (ptD p)) = some (ps.map ptD) := by
      clear hp hpl hr hb
      induction ps with
      | nil => rfl
      | cons p r ih => simp [ih]
    simp only [q_seq, q_asg, q_fn, q_cons, q_nil, q_var, q_c, List.getElem?_cons_zero, List.getElem?_cons_succ, R.bind_ok, e3', e4', q_noX_ok, q_gvar, List.set_cons_zero, List.set_cons_succ, q_kill, q_for, q_irng, q_2, q_add, hL, h5, q_killE0, q_killE1, q_ret, q_tup, q_call]
    have tp : tupD [.ref S.objs.length] S5 = .ok (.im (.tuple (ps.map ptD))) S5 := by
      simp only [tupD, hp, al]
    simp only [tp, R.bind_ok, q_allIm0, q_allIm1, Option.map_some, List.length_cons, List.length_nil, Nat.reduceAdd, q_line2, if_true, ptsD]) Iq
  exact ⟨ps, w, S6, r6, st6, ⟨hr, fun p hp' => (hb p hp').2, by omega, by omega⟩, bw⟩
end
end MP
set_option Elab.async false
set_option linter.all false
set_option maxRecDepth 100000
namespace MP
open PySem PySem.Spec L2
noncomputable section
open Classical
/-! Q6: near stretches, in plain sets -/
abbrev Pt := Rat × Rat
def slo (e : Rat) (p q : Pt) : Rat := (q.2 - p.2 - e) / (q.1 - p.1)
def shi (e : Rat) (p q : Pt) : Rat := (q.2 - p.2 + e) / (q.1 - p.1)
/-- the bounds that a set of pairs of places gives -/
def Prs (e : Rat) (ps : List Pt) (R : Nat → Nat → Prop) (x : Rat × Rat) : Prop := ∃ i j p q, R i j ∧ i < j ∧ ps[i]? = some p ∧ ps[j]? = some q ∧ x = (slo e p q, shi e p q)
def Near (e : Rat) (ps : List Pt) : Prop := ∀ x y, Prs e ps (fun _ _ => True) x → Prs e ps (fun _ _ => True) y → x.1 ≤ y.2
/-- greatest low and least high -/
def MM (P : Rat × Rat → Prop) (lo hi : Option Rat) : Prop := (lo = none ∧ hi = none ∧ ∀ x, ¬ P x) ∨ ∃ a b, lo = some a ∧ hi = some b ∧ (∀ x, P x → x.1 ≤ a ∧ b ≤ x.2) ∧ (∃ x, P x ∧ x.1 = a) ∧ (∃ x, P x ∧ x.2 = b)
def mxO (lo : Option Rat) (x : Rat) : Rat := match lo with
  | none => x
  | some a => if a < x then x else a
def mnO (hi : Option Rat) (x : Rat) : Rat := match hi with
  | none => x
  | some a => if x < a then x else a
theorem MM.nil {P : Rat × Rat → Prop} (h : ∀ x, ¬ P x) : MM P none none := .inl ⟨rfl, rfl, h⟩
theorem MM.congr {P P' : Rat × Rat → Prop} {lo hi : Option Rat} (h : MM P lo hi) (e : ∀ x, P' x ↔ P x) : MM P' lo hi := by
  have : P' = P := funext fun x => propext (e x)
  rw [this]; exact h
theorem MM.add {P : Rat × Rat → Prop} {lo hi : Option Rat} (h : MM P lo hi) (z : Rat × Rat) : MM (fun x => P x ∨ x = z) (some (mxO lo z.1)) (some (mnO hi z.2)) := by
  rcases h with ⟨rfl, rfl, h⟩ | ⟨a, b, rfl, rfl, h, ⟨u, hu, eu⟩, ⟨v, hv, ev⟩⟩
  · refine .inr ⟨_, _, rfl, rfl, ?_, ⟨z, .inr rfl, rfl⟩, ⟨z, .inr rfl, rfl⟩⟩
    rintro x (hx | rfl)
    · exact (h x hx).elim
    · exact ⟨Rat.le_refl, Rat.le_refl⟩
  · refine .inr ⟨_, _, rfl, rfl, ?_, ?_, ?_⟩
    · rintro x (hx | rfl)
      · obtain ⟨h1, h2⟩ := h x hx
        simp only [mxO, mnO]
        constructor <;> split <;> grind
      · simp only [mxO, mnO]
        constructor <;> split <;> grind
    · simp only [mxO]
      split
      · exact ⟨z, .inr rfl, rfl⟩
      · exact ⟨u, .inl hu, eu⟩
    · simp only [mnO]
      split
      · exact ⟨z, .inr rfl, rfl⟩
      · exact ⟨v, .inl hv, ev⟩
theorem MM.dec {P : Rat × Rat → Prop} {a b : Rat} (h : MM P (some a) (some b)) : (¬ b < a) ↔ ∀ x y, P x → P y → x.1 ≤ y.2 := by
  rcases h with ⟨h, _⟩ | ⟨a', b', h1, h2, h, ⟨u, hu, eu⟩, ⟨v, hv, ev⟩⟩
  · cases h
  · cases h1; cases h2
    constructor
    · intro hn x y hx hy
      have := h x hx
      have := h y hy
      grind
    · intro hxy
      have := hxy u v hu hv
      grind
theorem MM.dec0 {P : Rat × Rat → Prop} {hi : Option Rat} (h : MM P none hi) : ∀ x y, P x → P y → x.1 ≤ y.2 := by
  rcases h with ⟨_, _, h⟩ | ⟨a', b', h1, _⟩
  · exact fun x y hx _ => (h x hx).elim
  · cases h1
theorem MM.both {P : Rat × Rat → Prop} {lo hi : Option Rat} (h : MM P lo hi) : (lo = none ↔ hi = none) := by
  rcases h with ⟨rfl, rfl, h⟩ | ⟨a', b', rfl, rfl, _⟩ <;> simp
/-- low and high come out of the set -/
theorem MM.lo_mem {P : Rat × Rat → Prop} {a : Rat} {hi : Option Rat} (h : MM P (some a) hi) : ∃ x, P x ∧ x.1 = a := by
  rcases h with ⟨h, _⟩ | ⟨a', b', h1, h2, h, u, v⟩
  · cases h
  · cases h1; exact u
theorem MM.hi_mem {P : Rat × Rat → Prop} {a : Rat} {lo : Option Rat} (h : MM P lo (some a)) : ∃ x, P x ∧ x.2 = a := by
  rcases h with ⟨_, h, _⟩ | ⟨a', b', h1, h2, h, u, v⟩
  · cases h
  · cases h2; exact v
theorem Near.sub {e : Rat} {ps : List Pt} (h : Near e ps) (a b : Nat) : Near e ((ps.drop a).take b) := by
  have up : ∀ x, Prs e ((ps.drop a).take b) (fun _ _ => True) x → Prs e ps (fun _ _ => True) x := by
    rintro x ⟨i, j, p, q, _, hij, hp, hq, rfl⟩
    rw [List.getElem?_take] at hp hq
    split at hp
    · split at hq
      · rw [List.getElem?_drop] at hp hq
        exact ⟨a + i, a + j, p, q, trivial, by omega, hp, hq, rfl⟩
      · cases hq
    · cases hp
  exact fun x y hx hy => h x y (up x hx) (up y hy)
/-- the stretch of m points from k -/
def seg (ps : List Pt) (k m : Nat) : List Pt := (ps.drop k).take m
theorem seg_sub (ps : List Pt) (k m a b : Nat) (h : a + b ≤ m) : seg ps (k + a) b = ((seg ps k m).drop a).take b := by
  unfold seg
  rw [List.drop_take, List.take_take, List.drop_drop, Nat.min_eq_left (by omega)]
theorem near_seg {e : Rat} {ps : List Pt} {k m a b : Nat} (h : Near e (seg ps k m)) (l : a + b ≤ m) : Near e (seg ps (k + a) b) := by
  rw [seg_sub ps k m a b l]; exact h.sub a b
theorem near_one (e : Rat) (ps : List Pt) (k : Nat) : Near e (seg ps k 1) := by
  rintro x y ⟨i, j, p, q, _, hij, hp, hq, rfl⟩ _
  unfold seg at hq
  rw [List.getElem?_take, if_neg (by omega)] at hq
  cases hq
/-- the greatest near stretch from k has m points -/
def IsE (e : Rat) (ps : List Pt) (k m : Nat) : Prop := 1 ≤ m ∧ k + m ≤ ps.length ∧ Near e (seg ps k m) ∧ (k + m = ps.length ∨ ¬ Near e (seg ps k (m + 1)))
theorem IsE.uniq {e : Rat} {ps : List Pt} {k m m' : Nat} (h : IsE e ps k m) (h' : IsE e ps k m') : m = m' := by
  obtain ⟨h1, h2, h3, h4⟩ := h
  obtain ⟨g1, g2, g3, g4⟩ := h'
  rcases Nat.lt_trichotomy m m' with l | l | l
  · rcases h4 with h4 | h4
    · omega
    · exact (h4 (near_seg (a := 0) g3 (by omega))).elim
  · exact l
  · rcases g4 with g4 | g4
    · omega
    · exact (g4 (near_seg (a := 0) h3 (by omega))).elim
theorem exE (e : Rat) (ps : List Pt) (k : Nat) (hk : k < ps.length) : ∃ m, IsE e ps k m := by
  have key : ∀ d m, 1 ≤ m → k + m + d = ps.length → Near e (seg ps k m) → ∃ m, IsE e ps k m := by
    intro d
    induction d with
    | zero => exact fun m h1 h2 h3 => ⟨m, h1, by omega, h3, .inl (by omega)⟩
    | succ d ih =>
      intro m h1 h2 h3
      by_cases h : Near e (seg ps k (m + 1))
      · exact ih (m + 1) (by omega) (by omega) h
      · exact ⟨m, h1, by omega, h3, .inr h⟩
  exact key (ps.length - k - 1) 1 (by omega) (by omega) (near_one e ps k)
def Eo (e : Rat) (ps : List Pt) (k : Nat) : Nat := if h : k < ps.length then Classical.choose (exE e ps k h) else 1
theorem isE {e : Rat} {ps : List Pt} {k : Nat} (h : k < ps.length) : IsE e ps k (Eo e ps k) := by
  unfold Eo
  rw [dif_pos h]
  exact Classical.choose_spec (exE e ps k h)
theorem Eo_next {e : Rat} {ps : List Pt} {k : Nat} (h : k + 1 < ps.length) : Eo e ps k ≤ Eo e ps (k + 1) + 1 := by
  obtain ⟨h1, h2, h3, h4⟩ := isE (e := e) (k := k) (ps := ps) (by omega)
  obtain ⟨g1, g2, g3, g4⟩ := isE (e := e) h
  rcases Nat.lt_or_ge (Eo e ps (k + 1) + 1) (Eo e ps k) with l | l
  · rcases g4 with g4 | g4
    · omega
    · exact (g4 (near_seg (a := 1) (b := Eo e ps (k + 1) + 1) h3 (by omega))).elim
  · exact l
/-- the greedy cuts from a place on -/
inductive IsG (e : Rat) (ps : List Pt) : Nat → List Nat → Prop
  | nil : IsG e ps ps.length []
  | cons {k : Nat} {l : List Nat} : k < ps.length → IsG e ps (k + Eo e ps k) l → IsG e ps k (k :: l)
theorem exG (e : Rat) (ps : List Pt) : ∀ d k, k + d = ps.length → ∃ l, IsG e ps k l := by
  intro d
  induction d using Nat.strongRecOn with
  | _ d ih =>
    intro k hk
    by_cases h : k < ps.length
    · obtain ⟨h1, h2, h3, h4⟩ := isE (e := e) h
      obtain ⟨l, hl⟩ := ih (d - Eo e ps k) (by omega) (k + Eo e ps k) (by omega)
      exact ⟨_, .cons h hl⟩
    · have : k = ps.length := by omega
      subst this
      exact ⟨_, .nil⟩
theorem IsG.inv {e : Rat} {ps : List Pt} {k : Nat} {l : List Nat} (g : IsG e ps k l) (h : k < ps.length) : ∃ r, l = k :: r ∧ IsG e ps (k + Eo e ps k) r := by
  cases g with
  | nil => omega
  | cons _ g => exact ⟨_, rfl, g⟩
theorem IsG.last {e : Rat} {ps : List Pt} {l : List Nat} (g : IsG e ps ps.length l) : l = [] := by
  cases g with
  | nil => rfl
  | cons h _ => omega
/-- fewest stretches: what the counting says -/
structure IsC (e : Rat) (ps : List Pt) (C : Nat → Int) (k0 : Nat) : Prop where
  last : C ps.length = 0
  low : ∀ k, k0 ≤ k → k < ps.length → ∀ m, 1 ≤ m → m ≤ Eo e ps k → C k ≤ 1 + C (k + m)
  at' : ∀ k, k0 ≤ k → k < ps.length → ∃ m, 1 ≤ m ∧ m ≤ Eo e ps k ∧ C k = 1 + C (k + m)
theorem IsC.mono {e : Rat} {ps : List Pt} {C : Nat → Int} {k0 : Nat} (c : IsC e ps C k0) (k : Nat) (h0 : k0 ≤ k) (h : k < ps.length) : C (k + 1) ≤ C k := by
  obtain ⟨m, m1, m2, hm⟩ := c.at' k h0 h
  by_cases hk : k + 1 < ps.length
  · have hn := Eo_next (e := e) hk
    by_cases h1 : m = 1
    · subst h1; omega
    · have := c.low (k + 1) (by omega) hk (m - 1) (by omega) (by omega)
      rw [show k + 1 + (m - 1) = k + m by omega] at this
      omega
  · have e1 : k + 1 = ps.length := by omega
    obtain ⟨h1, h2, h3, h4⟩ := isE (e := e) h
    have : m = 1 := by omega
    subst this
    omega
theorem IsC.monos {e : Rat} {ps : List Pt} {C : Nat → Int} {k0 : Nat} (c : IsC e ps C k0) : ∀ d k, k0 ≤ k → k + d ≤ ps.length → C (k + d) ≤ C k
  | 0, k, _, _ => Int.le_refl _
  | d + 1, k, h0, h => by
    have h1 := c.monos d k h0 (by omega)
    have h2 := c.mono (k + d) (by omega) (by omega)
    rw [show k + (d + 1) = k + d + 1 by omega]
    omega
theorem IsC.greedy {e : Rat} {ps : List Pt} {C : Nat → Int} {k0 : Nat} (c : IsC e ps C k0) {k : Nat} {l : List Nat} (g : IsG e ps k l) : k0 ≤ k → C k = l.length := by
  induction g with
  | nil => intro _; rw [c.last]; rfl
  | @cons k l h g ih =>
    intro h0
    obtain ⟨h1, h2, h3, h4⟩ := isE (e := e) h
    have i1 := ih (by omega)
    have l1 := c.low k h0 h _ h1 (Nat.le_refl _)
    obtain ⟨m, m1, m2, hm⟩ := c.at' k h0 h
    have m3 := c.monos (Eo e ps k - m) (k + m) (by omega) (by omega)
    rw [show k + m + (Eo e ps k - m) = k + Eo e ps k by omega] at m3
    rw [List.length_cons]
    omega
end
end MP
set_option Elab.async false
set_option linter.all false
set_option maxRecDepth 100000
namespace MP
open PySem PySem.Spec L2
noncomputable section
open Classical
/-! Q7: the law's own test of nearness -/
def ofO : Option Rat → D
  | none => .none
  | some q => frD q
structure PB (ps : List Pt) : Prop where
  rise : ps.Pairwise fun p q => p.1 < q.1
  bits : ∀ p ∈ ps, Bd 140 p.1 ∧ Bd 140 p.2
  few : ps.length ≤ 14
theorem PtsOk.pb {ps : List Pt} (h : PtsOk ps) : PB ps := ⟨h.rise, h.bits, h.few⟩
theorem PB.seg {ps : List Pt} (h : PB ps) (k m : Nat) : PB (seg ps k m) := by
  have sl : List.Sublist ((ps.drop k).take m) ps := (List.take_sublist _ _).trans (List.drop_sublist _ _)
  exact ⟨h.rise.sublist sl, fun p hp => h.bits p (sl.subset hp), Nat.le_trans sl.length_le h.few⟩
theorem PB.lt {ps : List Pt} (h : PB ps) {i j : Nat} {p q : Pt} (hij : i < j) (hp : ps[i]? = some p) (hq : ps[j]? = some q) : p.1 < q.1 := by
  obtain ⟨h1, rfl⟩ := List.getElem?_eq_some_iff.mp hp
  obtain ⟨h2, rfl⟩ := List.getElem?_eq_some_iff.mp hq
  exact (List.pairwise_iff_getElem.mp h.rise) i j h1 h2 hij
theorem PB.dx {ps : List Pt} (h : PB ps) {i j : Nat} {p q : Pt} (hij : i < j) (hp : ps[i]? = some p) (hq : ps[j]? = some q) : q.1 - p.1 ≠ 0 := by
  have := h.lt hij hp hq
  grind
theorem bd_pair {p q : Pt} {e : Rat} (h1 : Bd 140 p.1 ∧ Bd 140 p.2) (h2 : Bd 140 q.1 ∧ Bd 140 q.2) (he : Bd 7 e) (hx : q.1 - p.1 ≠ 0) : Bd 600 (slo e p q) ∧ Bd 600 (shi e p q) := by
  have a := h2.1.sub h1.1
  have b := h2.2.sub h1.2
  exact ⟨((b.sub he).div a hx).mono (by omega), ((b.add he).div a hx).mono (by omega)⟩
theorem prs_bd {ps : List Pt} (h : PB ps) {e : Rat} (he : Bd 7 e) {R : Nat → Nat → Prop} {x : Rat × Rat} (hx : Prs e ps R x) : Bd 600 x.1 ∧ Bd 600 x.2 := by
  obtain ⟨i, j, p, q, _, hij, hp, hq, rfl⟩ := hx
  exact bd_pair (h.bits p (List.mem_of_getElem? hp)) (h.bits q (List.mem_of_getElem? hq)) he (h.dx hij hp hq)
theorem mm_bd {ps : List Pt} (h : PB ps) {e : Rat} (he : Bd 7 e) {R : Nat → Nat → Prop} {lo hi : Option Rat} (m : MM (Prs e ps R) lo hi) : (∀ a, lo = some a → Bd 600 a) ∧ (∀ a, hi = some a → Bd 600 a) := by
  constructor
  · rintro a rfl
    obtain ⟨x, hx, rfl⟩ := m.lo_mem
    exact (prs_bd h he hx).1
  · rintro a rfl
    obtain ⟨x, hx, rfl⟩ := m.hi_mem
    exact (prs_bd h he hx).2
theorem prs_add {ps : List Pt} {e : Rat} {R : Nat → Nat → Prop} {i j : Nat} {p q : Pt} (hij : i < j) (hp : ps[i]? = some p) (hq : ps[j]? = some q) (x : Rat × Rat) :
    Prs e ps (fun a b => R a b ∨ (a = i ∧ b = j)) x ↔ Prs e ps R x ∨ x = (slo e p q, shi e p q) := by
  constructor
  · rintro ⟨a, b, p', q', hr | ⟨rfl, rfl⟩, h1, h2, h3, rfl⟩
    · exact .inl ⟨a, b, p', q', hr, h1, h2, h3, rfl⟩
    · rw [hp] at h2; rw [hq] at h3
      cases h2; cases h3
      exact .inr rfl
  · rintro (⟨a, b, p', q', hr, h1, h2, h3, rfl⟩ | rfl)
    · exact ⟨a, b, p', q', .inl hr, h1, h2, h3, rfl⟩
    · exact ⟨i, j, p, q, .inr ⟨rfl, rfl⟩, hij, hp, hq, rfl⟩
theorem prs_congr {ps : List Pt} {e : Rat} {R R' : Nat → Nat → Prop} (h : ∀ a b, a < b → b < ps.length → (R a b ↔ R' a b)) (x : Rat × Rat) : Prs e ps R x ↔ Prs e ps R' x := by
  constructor
  · rintro ⟨a, b, p', q', hr, h1, h2, h3, rfl⟩
    exact ⟨a, b, p', q', (h a b h1 (List.getElem?_eq_some_iff.mp h3).1).mp hr, h1, h2, h3, rfl⟩
  · rintro ⟨a, b, p', q', hr, h1, h2, h3, rfl⟩
    exact ⟨a, b, p', q', (h a b h1 (List.getElem?_eq_some_iff.mp h3).1).mpr hr, h1, h2, h3, rfl⟩
theorem pts_at {ps : List Pt} {i : Nat} {p : Pt} (hp : ps[i]? = some p) (S : Sto) : idxD (.im (ptsD ps)) (vi i) S = .ok (.im (ptD p)) S := by
  show idxD (.im (.tuple (ps.map ptD))) (vi i) S = _
  rw [q_idxT, List.getElem?_map, hp]; rfl
theorem pt_0 (p : Pt) (S : Sto) : idxD (.im (ptD p)) (.im (.int 0)) S = .ok (fr p.1) S := rfl
theorem pt_1 (p : Pt) (S : Sto) : idxD (.im (ptD p)) (.im (.int 1)) S = .ok (fr p.2) S := rfl
/-- how a bound is brought up -/
theorem up_lo {lo : Option Rat} {x : Rat} (hl : ∀ a, lo = some a → Bd 600 a) (hx : Bd 600 x) {env : Env} (h2 : env[2]? = some (some (.im (ofO lo)))) (h9 : env[9]? = some (some (fr x))) (S : Sto) :
    evIf (evOr (asB (ev2 (isD false) (evVar 2) (evC .none))) (evTru (evFn F.f_law_less (evCons (evVar 2) (evCons (evVar 9) evNil))))) (evVar 9) (evVar 2) env S = .ok (fr (mxO lo x)) S := by
  cases lo with
  | none => simp [h2, h9, ofO, mxO]
  | some a =>
    have hle := law_less_ok (hl a rfl) hx (by omega) S
    simp only [q_if, q_or, q_asB, q_2, q_var, h2, h9, R.bind_ok, q_c, q_is, ofO, Bool.false_eq_true, if_false, q_tru, q_fn, q_cons, q_nil, hle, q_noX_ok, q_truB, mxO, decide_eq_true_eq]
    split <;> rfl
theorem up_hi {hi : Option Rat} {x : Rat} (hl : ∀ a, hi = some a → Bd 600 a) (hx : Bd 600 x) {env : Env} (h2 : env[3]? = some (some (.im (ofO hi)))) (h9 : env[10]? = some (some (fr x))) (S : Sto) :
    evIf (evOr (asB (ev2 (isD false) (evVar 3) (evC .none))) (evTru (evFn F.f_law_less (evCons (evVar 10) (evCons (evVar 3) evNil))))) (evVar 10) (evVar 3) env S = .ok (fr (mnO hi x)) S := by
  cases hi with
  | none => simp [h2, h9, ofO, mnO]
  | some a =>
    have hle := law_less_ok hx (hl a rfl) (by omega) S
    simp only [q_if, q_or, q_asB, q_2, q_var, h2, h9, R.bind_ok, q_c, q_is, ofO, Bool.false_eq_true, if_false, q_tru, q_fn, q_cons, q_nil, hle, q_noX_ok, q_truB, mnO, decide_eq_true_eq]
    split <;> rfl
def bIn : EvS := (sKill [6, 7, 8, 9, 10] (sSeq (sAsg (evFn F.f_law_minus (evCons (ev2 idxD (ev2 idxD (evVar 0) (evVar 6)) (evC (.int 0))) (evCons (ev2 idxD (ev2 idxD (evVar 0) (evVar 5)) (evC (.int 0))) evNil))) (gVar 7)) (sSeq (sAsg (evFn F.f_law_minus (evCons (ev2 idxD (ev2 idxD (evVar 0) (evVar 6)) (evC (.int 1))) (evCons (ev2 idxD (ev2 idxD (evVar 0) (evVar 5)) (evC (.int 1))) evNil))) (gVar 8)) (sSeq (sPar 9 10 (evCons (evFn F.f_law_over (evCons (evFn F.f_law_minus (evCons (evVar 8) (evCons (evVar 4) evNil))) (evCons (evVar 7) evNil))) (evCons (evFn F.f_law_over (evCons (evFn F.f_law_plus (evCons (evVar 8) (evCons (evVar 4) evNil))) (evCons (evVar 7) evNil))) evNil))) (sSeq (sAsg (evIf (evOr (asB (ev2 (isD false) (evVar 2) (evC .none))) (evTru (evFn F.f_law_less (evCons (evVar 2) (evCons (evVar 9) evNil))))) (evVar 9) (evVar 2)) (gVar 2)) (sAsg (evIf (evOr (asB (ev2 (isD false) (evVar 3) (evC .none))) (evTru (evFn F.f_law_less (evCons (evVar 10) (evCons (evVar 3) evNil))))) (evVar 10) (evVar 3)) (gVar 3)))))))
theorem near_in {ps : List Pt} (h : PB ps) {e : Rat} (he : Bd 7 e) {i j : Nat} {p q : Pt} (hij : i < j) (hp : ps[i]? = some p) (hq : ps[j]? = some q) {lo hi : Option Rat} (hl : ∀ a, lo = some a → Bd 600 a) (hh : ∀ a, hi = some a → Bd 600 a) (w : Val) (S : Sto) :
    (gVar 6 (vi j) [some (.im (ptsD ps)), some w, some (.im (ofO lo)), some (.im (ofO hi)), some (fr e), some (vi i), none, none, none, none, none] S).bind bIn = .ok (.nx [some (.im (ptsD ps)), some w, some (fr (mxO lo (slo e p q))), some (fr (mnO hi (shi e p q))), some (fr e), some (vi i), none, none, none, none, none]) S := by
  have bp := h.bits p (List.mem_of_getElem? hp)
  have bq := h.bits q (List.mem_of_getElem? hq)
  have dx := h.dx hij hp hq
  have b := bd_pair bp bq he dx
  have m1 := law_minus_ok bq.1 bp.1 (by omega) S
  have m2 := law_minus_ok bq.2 bp.2 (by omega) S
  have b1 := bq.1.sub bp.1
  have b2 := bq.2.sub bp.2
  have m3 := law_minus_ok b2 he (by omega) S
  have m4 := law_plus_ok b2 he (by omega) S
  have m5 := law_over_ok (b2.sub he) b1 dx (by omega) S
  have m6 := law_over_ok (b2.add he) b1 dx (by omega) S
  have u1 := up_lo (env := [some (.im (ptsD ps)), some w, some (.im (ofO lo)), some (.im (ofO hi)), some (fr e), some (vi i), some (vi j), some (fr (q.1 - p.1)), some (fr (q.2 - p.2)), some (fr ((q.2 - p.2 - e) / (q.1 - p.1))), some (fr ((q.2 - p.2 + e) / (q.1 - p.1)))]) hl b.1 rfl rfl S
  have u2 := up_hi (env := [some (.im (ptsD ps)), some w, some (fr (mxO lo (slo e p q))), some (.im (ofO hi)), some (fr e), some (vi i), some (vi j), some (fr (q.1 - p.1)), some (fr (q.2 - p.2)), some (fr ((q.2 - p.2 - e) / (q.1 - p.1))), some (fr ((q.2 - p.2 + e) / (q.1 - p.1)))]) hh b.2 rfl rfl S
  unfold bIn
  simp only [q_gvar, R.bind_ok, List.set_cons_zero, List.set_cons_succ, q_kill, q_seq, q_asg, q_fn, q_cons, q_nil, q_2, q_var, List.getElem?_cons_zero, List.getElem?_cons_succ, pts_at hp, pts_at hq, q_c, pt_0, pt_1, m1, m2, q_noX_ok, q_par, m3, m4, m5, m6, u1, u2, q_killE0, q_killE1]
/-- the pairs seen when row i stands at column j -/
def RowC (i j : Nat) (a b : Nat) : Prop := a < i ∨ (a = i ∧ b < j)
def NrI (ps : List Pt) (w : Val) (e : Rat) (R : Nat → Nat → Prop) (x5 : Option Val) (env : Env) (S' : Sto) (S : Sto) : Prop := S = S' ∧ ∃ lo hi, MM (Prs e ps R) lo hi ∧ env = [some (.im (ptsD ps)), some w, some (.im (ofO lo)), some (.im (ofO hi)), some (fr e), x5, none, none, none, none, none]
theorem near_row {ps : List Pt} (h : PB ps) {e : Rat} (he : Bd 7 e) {i : Nat} (hi0 : i < ps.length) (w : Val) (S' : Sto) {env : Env} {S : Sto} (I : NrI ps w e (fun a b => a < i) (some (vi i)) env S' S) :
    ∃ e' S2, forD (fun _ => True) (gVar 6) bIn (rngL ((i : Int) + 1) ((ps.length : Int) - ((i : Int) + 1)).toNat) env S = .ok (.nx e') S2 ∧ NrI ps w e (fun a b => a < i + 1) (some (vi i)) e' S' S2 := by
  have I0 : NrI ps w e (RowC i (i + 1 + 0)) (some (vi i)) env S' S := by
    obtain ⟨rfl, lo, hi, m, rfl⟩ := I
    refine ⟨rfl, lo, hi, m.congr (prs_congr fun a b h1 h2 => ?_), rfl⟩
    unfold RowC
    omega
  obtain ⟨e', S2, hr, I2⟩ := for_ok (gd := fun _ => True) (g := gVar 6) (f := bIn) (fun _ => trivial) (fun n env S => NrI ps w e (RowC i (i + 1 + n)) (some (vi i)) env S' S) (rngL ((i : Int) + 1) ((ps.length : Int) - ((i : Int) + 1)).toNat) env S I0 (by
    rintro n x env S hx ⟨rfl, lo, hi, m, rfl⟩
    obtain ⟨hn, rfl⟩ := rngL_get hx
    have hj : i + 1 + n < ps.length := by omega
    have hp := List.getElem?_eq_getElem hi0
    have hq := List.getElem?_eq_getElem hj
    have hb := mm_bd h he m
    have st := near_in h he (by omega : i < i + 1 + n) hp hq hb.1 hb.2 w S
    have ev : ((i : Int) + 1 + (n : Int)) = ((i + 1 + n : Nat) : Int) := by omega
    rw [ev, st]
    refine ⟨_, S, rfl, rfl, _, _, (m.add (slo e ps[i] ps[i + 1 + n], shi e ps[i] ps[i + 1 + n])).congr (fun x => ?_), rfl⟩
    rw [← prs_add (by omega : i < i + 1 + n) hp hq]
    refine prs_congr (fun a b h1 h2 => ?_) x
    unfold RowC
    omega)
  refine ⟨e', S2, hr, ?_⟩
  obtain ⟨rfl, lo, hi, m, rfl⟩ := I2
  refine ⟨rfl, lo, hi, m.congr (prs_congr fun a b h1 h2 => ?_), rfl⟩
  rw [rngL_length]
  unfold RowC
  omega
theorem pts_len (ps : List Pt) (S : Sto) : lenD [.im (ptsD ps)] S = .ok (vi ps.length) S := by
  show lenD [.im (.tuple (ps.map ptD))] S = _
  rw [q_lenT, List.length_map]
theorem is_near_ok {ps : List Pt} (h : PB ps) {w : Rat} (hw : Bd 3 w) (S : Sto) : F.f_law_is_near [.im (ptsD ps), fr w] S = .ok (vb (decide (Near (w + w) ps))) S := by
  refine fn_ret rfl fun S0 _ _ => ?_
  have he : Bd 7 (w + w) := hw.add hw
  have pl := law_plus_ok hw hw (by omega) S0
  have sm : SmallI (ps.length : Int) := by have := h.few; unfold SmallI; omega
  have I0 : NrI ps (fr w) (w + w) (fun a b => a < 0) none [some (.im (ptsD ps)), some (fr w), some (.im .none), some (.im .none), some (fr (w + w)), none, none, none, none, none, none] S0 S0 := by
    refine ⟨rfl, none, none, .nil ?_, rfl⟩
    rintro x ⟨i, j, p, q, h0, _⟩
    omega
  let bOut : EvS := sKill [5] (sKill [6, 7, 8, 9, 10] (sFor (iRng rng2 (evCons (ev2 addD (evVar 5) (evC (.int 1))) (evCons (evCall lenD (evCons (evVar 0) evNil)) evNil))) (gVar 6) bIn))
  obtain ⟨e', S2, hr, I2⟩ := for_ok (gd := fun _ => True) (g := gVar 5) (f := bOut) (fun _ => trivial) (fun n env S => NrI ps (fr w) (w + w) (fun a b => a < n) none env S0 S) (rngL 0 (ps.length : Int).toNat) _ S0 I0 (by
    rintro n x env S hx ⟨rfl, lo, hi, m, rfl⟩
    obtain ⟨hn, rfl⟩ := rngL_get hx
    have hn' : n < ps.length := by omega
    obtain ⟨e', S2, hr, rfl, lo', hi', m', rfl⟩ := near_row h he hn' (fr w) S (env := [some (.im (ptsD ps)), some (fr w), some (.im (ofO lo)), some (.im (ofO hi)), some (fr (w + w)), some (vi n), none, none, none, none, none]) (S := S) ⟨rfl, lo, hi, m, rfl⟩
    refine ⟨[some (.im (ptsD ps)), some (fr w), some (.im (ofO lo')), some (.im (ofO hi')), some (fr (w + w)), none, none, none, none, none, none], S2, ?_, rfl, lo', hi', m', rfl⟩
    have sm1 : SmallI ((n : Int) + 1) := by unfold SmallI at sm ⊢; omega
    simp only [bOut, Int.zero_add, q_gvar, R.bind_ok, List.set_cons_zero, List.set_cons_succ, q_kill, q_for, q_irng, q_cons, q_nil, q_2, q_var, List.getElem?_cons_zero, List.getElem?_cons_succ, q_c, q_add, q_call, pts_len, q_rng2 _ _ _ sm1 sm, hr, q_killE0, q_killE1])
  obtain ⟨rfl, lo, hi, m, rfl⟩ := I2
  rw [rngL_length] at m
  have mt : MM (Prs (w + w) ps (fun _ _ => True)) lo hi := m.congr (prs_congr fun a b h1 h2 => by simp only [Int.toNat_natCast, true_iff]; omega)
  unfold F.b_law_is_near
  show sSeq _ _ [some (.im (ptsD ps)), some (fr w), none, none, none, none, none, none, none, none, none] _ = _
  simp only [bOut, bIn] at hr
  simp only [q_seq, q_par3, q_cons, q_nil, q_c, q_fn, q_var, List.getElem?_cons_zero, List.getElem?_cons_succ, R.bind_ok, pl, q_noX_ok, List.set_cons_zero, List.set_cons_succ, q_kill, q_for, q_irng, q_call, pts_len, q_rng1 _ _ sm, hr, q_killE0, q_killE1, q_ret, q_orV, q_2, q_is]
  cases lo with
  | none =>
    have hn : Near (w + w) ps := mt.dec0
    simp [ofO, hn]
  | some a =>
    cases hi with
    | none => have := mt.both; simp at this
    | some b =>
      have hb := mm_bd h he mt
      have hle := law_less_ok (hb.2 b rfl) (hb.1 a rfl) (by omega) S2
      have hd := mt.dec
      have : decide (Near (w + w) ps) = !decide (b < a) := by
        rw [← decide_not]
        exact decide_eq_decide.mpr hd.symm
      simp [ofO, hle, this]
end
end MP
set_option Elab.async false
set_option linter.all false
set_option maxRecDepth 100000
namespace MP
open PySem PySem.Spec L2
noncomputable section
open Classical
/-! Q8: the greatest stretches, as the law reckons them -/
theorem app1 (base : List Obj) (xs : List Val) (e : List Nat) (d : D) (h : xs.length < sizeLine) : appD (.ref base.length) [.im d] ⟨base ++ [.lst xs], e⟩ = .ok (.im .none) ⟨base ++ [.lst (xs ++ [.im d])], e⟩ := by
  unfold appD
  simp [h, putO, Val.isRef]
theorem allIm_ims (ds : List D) : allIm (ds.map Val.im) = some ds := by
  induction ds with
  | nil => rfl
  | cons d r ih => simp [ih]
theorem fn_list {np n : Nat} {body : EvS} {ds : List Val} {S : Sto} {es : List D} (hl : ds.length = np) (hr : body (startE n ds) ⟨S.objs, []⟩ = .ok (.rt (.ref S.objs.length)) ⟨S.objs ++ [.lst (es.map Val.im)], []⟩) : fnD leave np n body ds S = .ok (.im (.list es)) S := by
  unfold fnD
  rw [if_pos hl, hr]
  simp [leave, Fl.out, allIm_ims]
theorem cut_seg {α : Type} (xs : List α) (k m : Nat) (h : k + m ≤ xs.length) : cut xs (some (k : Int)) (some ((k + m : Nat) : Int)) = (xs.drop k).take m := by
  unfold cut
  rw [HT.sIx_nat, HT.sIx_nat, Nat.min_eq_left (by omega), Nat.min_eq_left (by omega)]
  congr 1
  omega
theorem pts_slc (ps : List Pt) (k m : Nat) (h : k + m ≤ ps.length) (S : Sto) : slcD false (.im (ptsD ps)) (some (k : Int)) (some ((k + m : Nat) : Int)) S = .ok (.im (ptsD (seg ps k m))) S := by
  show slcD false (Val.im (.tuple (ps.map ptD))) _ _ S = _
  show R.ok (Val.im (.tuple (cut (ps.map ptD) (some (k : Int)) (some ((k + m : Nat) : Int))))) S = _
  rw [cut_seg _ _ _ (by rw [List.length_map]; exact h)]
  show _ = R.ok (Val.im (.tuple ((seg ps k m).map ptD))) S
  unfold seg
  rw [List.map_take, List.map_drop]
def bFar : EvS := (sKill [5] (sSeq (sIf (evOr (asB (ev2 geD (ev2 addD (evVar 4) (evVar 3)) (evCall lenD (evCons (evVar 0) evNil)))) (evNot (evTru (evFn F.f_law_is_near (evCons (evSlc false (evVar 0) (evSome (evVar 4)) (evSome (ev2 addD (ev2 addD (evVar 4) (evVar 3)) (evC (.int 1))))) (evCons (evVar 1) evNil)))))) (sBreak) (sNext)) (sAsg (ev2 addD (evVar 3) (evC (.int 1))) (gVar 3))))
def bEnd : EvS := (sKill [4] (sSeq (sAsg (evCall maxD (evCons (evC (.int 1)) (evCons (ev2 subD (evVar 3) (evC (.int 1))) evNil))) (gVar 3)) (sSeq (sKill [5] (sFor (iRng rng1 (evCons (evCall lenD (evCons (evVar 0) evNil)) evNil)) (gVar 5) bFar)) (sExpr (evM appD (evVar 2) (evCons (evVar 3) evNil))))))
section
variable {ps : List Pt} {w : Rat}
theorem far_step (h : PB ps) (hw : Bd 3 w) {k f : Nat} (h1 : 1 ≤ f) (h2 : k + f ≤ ps.length) (h3 : Near (w + w) (seg ps k f)) (x2 : Option Val) (x : Val) (S : Sto) :
    (IsE (w + w) ps k f ∧ (gVar 5 x [some (.im (ptsD ps)), some (fr w), x2, some (vi f), some (vi k), none] S).bind bFar = .ok (.bk [some (.im (ptsD ps)), some (fr w), x2, some (vi f), some (vi k), some x]) S) ∨
    (k + (f + 1) ≤ ps.length ∧ Near (w + w) (seg ps k (f + 1)) ∧ (gVar 5 x [some (.im (ptsD ps)), some (fr w), x2, some (vi f), some (vi k), none] S).bind bFar = .ok (.nx [some (.im (ptsD ps)), some (fr w), x2, some (vi (f + 1 : Nat)), some (vi k), none]) S) := by
  by_cases hl : k + f = ps.length
  · left
    have c : ((ps.length : Int) ≤ (k : Int) + (f : Int)) := by omega
    refine ⟨⟨h1, h2, h3, .inl hl⟩, ?_⟩
    unfold bFar
    simp [pts_len, geD, c]
  · have c : ¬ ((ps.length : Int) ≤ (k : Int) + (f : Int)) := by omega
    have sl := pts_slc ps k (f + 1) (by omega) S
    have nr := is_near_ok (h.seg k (f + 1)) hw S
    have ev : ((k : Int) + (f : Int) + 1) = ((k + (f + 1) : Nat) : Int) := by omega
    by_cases hn : Near (w + w) (seg ps k (f + 1))
    · right
      refine ⟨by omega, hn, ?_⟩
      unfold bFar
      simp only [q_gvar, R.bind_ok, List.set_cons_zero, List.set_cons_succ, q_kill, q_seq, q_sif, q_or, q_asB, q_2, q_var, List.getElem?_cons_zero, List.getElem?_cons_succ, q_add, q_call, q_cons, q_nil, pts_len, geD, q_cmp, c, decide_false, Bool.false_eq_true, if_false, q_not, q_tru, q_fn, q_slc, q_some, q_c, ev, sl, nr, q_noX_ok, q_truB, hn, decide_true, Bool.not_true, q_next, q_asg, q_killE0, q_killE1]
      simp
    · left
      refine ⟨⟨h1, h2, h3, .inr hn⟩, ?_⟩
      unfold bFar
      simp only [q_gvar, R.bind_ok, List.set_cons_zero, List.set_cons_succ, q_kill, q_seq, q_sif, q_or, q_asB, q_2, q_var, List.getElem?_cons_zero, List.getElem?_cons_succ, q_add, q_call, q_cons, q_nil, pts_len, geD, q_cmp, c, decide_false, Bool.false_eq_true, if_false, q_not, q_tru, q_fn, q_slc, q_some, q_c, ev, sl, nr, q_noX_ok, q_truB, hn, Bool.not_false, if_true, q_brk]
theorem far_loop (h : PB ps) (hw : Bd 3 w) {k f : Nat} (h1 : 1 ≤ f) (h2 : k + f ≤ ps.length) (h3 : Near (w + w) (seg ps k f)) (x2 : Option Val) (S : Sto) :
    ∃ x, forD (fun _ => True) (gVar 5) bFar (rngL 0 ps.length) [some (.im (ptsD ps)), some (fr w), x2, some (vi f), some (vi k), none] S = .ok (.nx [some (.im (ptsD ps)), some (fr w), x2, some (vi (Eo (w + w) ps k)), some (vi k), x]) S := by
  have key := for_gen (gd := fun _ => True) (g := gVar 5) (f := bFar) (fun _ => trivial)
    (fun n env S1 => S1 = S ∧ ∃ f : Nat, 1 + n ≤ f ∧ k + f ≤ ps.length ∧ Near (w + w) (seg ps k f) ∧ env = [some (.im (ptsD ps)), some (fr w), x2, some (vi f), some (vi k), none])
    (fun env S1 => S1 = S ∧ ∃ x, env = [some (.im (ptsD ps)), some (fr w), x2, some (vi (Eo (w + w) ps k)), some (vi k), x]) (fun _ _ => False) (rngL 0 ps.length) 0 _ S ⟨rfl, f, by omega, h2, h3, rfl⟩ (by
      rintro j x env S1 hx ⟨rfl, f, hf, g2, g3, rfl⟩
      rcases far_step h hw (by omega : 1 ≤ f) g2 g3 x2 x S1 with ⟨he, hr⟩ | ⟨a1, a2, hr⟩
      · rw [hr]
        have e := he.uniq (isE (e := w + w) (by omega : k < ps.length))
        exact ⟨rfl, some x, by rw [e]⟩
      · rw [hr]
        exact ⟨rfl, f + 1, by omega, a1, a2, rfl⟩)
  cases hr : forD (fun _ => True) (gVar 5) bFar (rngL 0 ps.length) [some (.im (ptsD ps)), some (fr w), x2, some (vi f), some (vi k), none] S with
  | ok fl S1 =>
    rw [hr] at key
    cases fl with
    | nx e =>
      rcases key with ⟨rfl, f, hf, g2, _⟩ | ⟨rfl, x, rfl⟩
      · rw [rngL_length] at hf; omega
      · exact ⟨x, rfl⟩
    | ct e => exact key.elim
    | bk e => exact key.elim
    | rt d => exact key.elim
  | exc x S1 => rw [hr] at key; exact key.elim
  | bad => rw [hr] at key; exact key.elim
def EndI (ps : List Pt) (w : Rat) (base : List Obj) (j : Nat) (env : Env) (S : Sto) : Prop :=
  S = ⟨base ++ [.lst ((List.range j).map fun k => vi (Eo (w + w) ps k))], []⟩ ∧ ∃ f : Nat, env = [some (.im (ptsD ps)), some (fr w), some (.ref base.length), some (vi f), none, none] ∧ (j < ps.length → Near (w + w) (seg ps j (max 1 (f - 1))) ∧ j + max 1 (f - 1) ≤ ps.length)
theorem end_step (h : PB ps) (hw : Bd 3 w) {base : List Obj} {j : Nat} (hj : j < ps.length) {env : Env} {S : Sto} (I : EndI ps w base j env S) : ∃ e S', (gVar 4 (vi j) env S).bind bEnd = .ok (.nx e) S' ∧ EndI ps w base (j + 1) e S' := by
  obtain ⟨rfl, f, rfl, hf⟩ := I
  obtain ⟨f3, f2⟩ := hf hj
  obtain ⟨x, fl⟩ := far_loop h hw (by omega : 1 ≤ max 1 (f - 1)) f2 f3 (some (.ref base.length)) ⟨base ++ [.lst ((List.range j).map fun k => vi (Eo (w + w) ps k))], []⟩
  have sm : SmallI (ps.length : Int) := by have := h.few; unfold SmallI; omega
  have mx : (if (f : Int) - 1 > 1 then (f : Int) - 1 else 1) = ((max 1 (f - 1) : Nat) : Int) := by split <;> omega
  have ln : ((List.range j).map fun k => vi (Eo (w + w) ps k)).length < sizeLine := by
    have := h.few
    rw [List.length_map, List.length_range, sizeLine_eq]; omega
  have ap := app1 base _ [] (.int (Eo (w + w) ps j)) ln
  refine ⟨[some (.im (ptsD ps)), some (fr w), some (.ref base.length), some (vi (Eo (w + w) ps j)), none, none], _, ?_, rfl, Eo (w + w) ps j, rfl, fun hj2 => ?_⟩
  · unfold bEnd
    simp only [q_gvar, R.bind_ok, List.set_cons_zero, List.set_cons_succ, q_kill, q_seq, q_asg, q_call, q_cons, q_nil, q_c, q_2, q_var, List.getElem?_cons_zero, List.getElem?_cons_succ, q_sub, q_max, mx, q_for, q_irng, pts_len, q_rng1 _ _ sm, Int.toNat_natCast, fl, q_killE0, q_killE1, q_expr, q_M, isLst, List.getElem?_concat_length, if_true, ap]
    rw [List.range_succ, List.map_append]
    rfl
  · obtain ⟨e1, e2, e3, e4⟩ := isE (e := w + w) hj
    constructor
    · by_cases h1 : Eo (w + w) ps j - 1 ≤ 1
      · rw [Nat.max_eq_left h1]
        exact near_one _ _ _
      · rw [Nat.max_eq_right (by omega)]
        exact near_seg e3 (by omega)
    · omega
theorem ends_ok (h : PB ps) (hw : Bd 3 w) (S : Sto) : F.f_law_ends [.im (ptsD ps), fr w] S = .ok (.im (.list ((List.range ps.length).map fun k => PyData.int (Eo (w + w) ps k)))) S := by
  refine fn_list rfl ?_
  have sm : SmallI (ps.length : Int) := by have := h.few; unfold SmallI; omega
  obtain ⟨e', S2, hr, rfl, f, rfl, _⟩ := for_ok (gd := fun _ => True) (g := gVar 4) (f := bEnd) (fun _ => trivial) (EndI ps w S.objs) (rngL 0 ps.length) [some (.im (ptsD ps)), some (fr w), some (.ref S.objs.length), some (vi (0 : Nat)), none, none] ⟨S.objs ++ [.lst []], []⟩ ⟨rfl, 0, rfl, fun hj => ⟨near_one _ _ _, by omega⟩⟩ (by
    intro j x env S1 hx I
    obtain ⟨hj, rfl⟩ := rngL_get hx
    rw [Int.zero_add]
    exact end_step h hw hj I)
  unfold F.b_law_ends
  show sSeq _ _ [some (.im (ptsD ps)), some (fr w), none, none, none, none] _ = _
  simp only [bEnd, bFar] at hr
  rw [rngL_length] at hr
  have hr' := hr
  simp only [Int.natCast_zero] at hr
  simp only [q_seq, q_par, q_cons, q_nil, q_lst, R.bind_ok, List.length_nil, q_line0, if_true, newL, q_c, List.set_cons_zero, List.set_cons_succ, q_kill, q_for, q_irng, q_call, q_var, List.getElem?_cons_zero, pts_len, q_rng1 _ _ sm, Int.toNat_natCast, hr, q_killE0, q_killE1, q_ret, List.getElem?_cons_succ]
  rw [List.map_map]
  rfl
end
end
end MP
set_option Elab.async false
set_option linter.all false
set_option maxRecDepth 100000
namespace MP
open PySem PySem.Spec L2
noncomputable section
open Classical
/-! Q9: one stab -/
theorem for_in {gd : Sto → Prop} {g : EvG} {f : EvS} (P : Nat → Env → Sto → Prop) (hgd : ∀ n env S, P n env S → gd S) : ∀ (xs : List Val) (i : Nat) (env : Env) (S : Sto), P i env S →
    (∀ j x env S, xs[j]? = some x → P (i + j) env S → ∃ e S', (g x env S).bind f = .ok (.nx e) S' ∧ P (i + j + 1) e S') → ∃ e S', forD gd g f xs env S = .ok (.nx e) S' ∧ P (i + xs.length) e S'
  | [], i, env, S, h, _ => by
    rw [q_for0 (hgd _ _ _ h)]
    exact ⟨env, S, rfl, h⟩
  | x :: xs, i, env, S, h, st => by
    rw [q_for1 (hgd _ _ _ h)]
    obtain ⟨e1, S1, h1, p1⟩ := st 0 x env S rfl h
    obtain ⟨e2, S2, h2, p2⟩ := for_in P hgd xs (i + 1) e1 S1 p1 (fun j y e S hy hP => by
      have := st (j + 1) y e S hy (by rw [show i + (j + 1) = i + 1 + j by omega]; exact hP)
      rw [show i + (j + 1) + 1 = i + 1 + j + 1 by omega] at this
      exact this)
    refine ⟨e2, S2, ?_, by rw [show i + (x :: xs).length = i + 1 + xs.length by rw [List.length_cons]; omega]; exact p2⟩
    cases hg : g x env S with
    | ok env1 S1' =>
      rw [hg] at h1
      simp only [R.bind_ok] at h1 ⊢
      rw [h1]
      simp only [R.bind_ok]
      exact h2
    | exc x S2 => rw [hg] at h1; cases h1
    | bad => rw [hg] at h1; cases h1
def stF (e : Rat) (l : Nat) (lo hi : Option Rat) : Fld := [("wide", fr e), ("points", .ref l), ("low", .im (ofO lo)), ("high", .im (ofO hi))]
section
variable {e : Rat} {l h : Nat} {lo hi : Option Rat} {S : Sto}
theorem st_wide (o : S.objs[h]? = some (.ins "Stab" (stF e l lo hi))) : fldD F.kn "wide" (.ref h) S = .ok (fr e) S := by unfold fldD; simp only [o]; rfl
theorem st_points (o : S.objs[h]? = some (.ins "Stab" (stF e l lo hi))) : fldD F.kn "points" (.ref h) S = .ok (.ref l) S := by unfold fldD; simp only [o]; rfl
theorem st_low (o : S.objs[h]? = some (.ins "Stab" (stF e l lo hi))) : fldD F.kn "low" (.ref h) S = .ok (.im (ofO lo)) S := by unfold fldD; simp only [o]; rfl
theorem st_high (o : S.objs[h]? = some (.ins "Stab" (stF e l lo hi))) : fldD F.kn "high" (.ref h) S = .ok (.im (ofO hi)) S := by unfold fldD; simp only [o]; rfl
theorem st_slow (o : S.objs[h]? = some (.ins "Stab" (stF e l lo hi))) (x : Option Rat) : setFldD F.kn "low" (.ref h) (.im (ofO x)) S = .ok () ⟨S.objs.set h (.ins "Stab" (stF e l x hi)), S.esc⟩ := by
  unfold setFldD; simp only [o]; rfl
theorem st_shigh (o : S.objs[h]? = some (.ins "Stab" (stF e l lo hi))) (x : Option Rat) : setFldD F.kn "high" (.ref h) (.im (ofO x)) S = .ok () ⟨S.objs.set h (.ins "Stab" (stF e l lo x)), S.esc⟩ := by
  unfold setFldD; simp only [o]; rfl
end
theorem prs_app {ps : List Pt} {e : Rat} {p : Pt} (x : Rat × Rat) : Prs e (ps ++ [p]) (fun a b => b < ps.length) x ↔ Prs e ps (fun _ _ => True) x := by
  constructor
  · rintro ⟨i, j, u, v, hr, h1, h2, h3, rfl⟩
    have hr' : j < ps.length := hr
    rw [List.getElem?_append_left (by omega)] at h2 h3
    exact ⟨i, j, u, v, trivial, h1, h2, h3, rfl⟩
  · rintro ⟨i, j, u, v, hr, h1, h2, h3, rfl⟩
    have h4 := (List.getElem?_eq_some_iff.mp h3).1
    refine ⟨i, j, u, v, h4, h1, ?_, ?_, rfl⟩
    · rw [List.getElem?_append_left (by omega)]; exact h2
    · rw [List.getElem?_append_left (by omega)]; exact h3
theorem up_lo2 {lo : Option Rat} {x : Rat} (hl : ∀ a, lo = some a → Bd 600 a) (hx : Bd 600 x) {env : Env} (h2 : env[2]? = some (some (.im (ofO lo)))) (h9 : env[8]? = some (some (fr x))) (S : Sto) :
    evIf (evOr (asB (ev2 (isD false) (evVar 2) (evC .none))) (evTru (evFn F.fis_less (evCons (evVar 2) (evCons (evVar 8) evNil))))) (evVar 8) (evVar 2) env S = .ok (fr (mxO lo x)) S := by
  cases lo with
  | none => simp [h2, h9, ofO, mxO]
  | some a =>
    have hle := is_less_ok (hl a rfl) hx (by omega) S
    simp only [q_if, q_or, q_asB, q_2, q_var, h2, h9, R.bind_ok, q_c, q_is, ofO, Bool.false_eq_true, if_false, q_tru, q_fn, q_cons, q_nil, hle, q_noX_ok, q_truB, mxO, decide_eq_true_eq]
    split <;> rfl
theorem up_hi2 {hi : Option Rat} {x : Rat} (hl : ∀ a, hi = some a → Bd 600 a) (hx : Bd 600 x) {env : Env} (h2 : env[3]? = some (some (.im (ofO hi)))) (h9 : env[9]? = some (some (fr x))) (S : Sto) :
    evIf (evOr (asB (ev2 (isD false) (evVar 3) (evC .none))) (evTru (evFn F.fis_less (evCons (evVar 9) (evCons (evVar 3) evNil))))) (evVar 9) (evVar 3) env S = .ok (fr (mnO hi x)) S := by
  cases hi with
  | none => simp [h2, h9, ofO, mnO]
  | some a =>
    have hle := is_less_ok hx (hl a rfl) (by omega) S
    simp only [q_if, q_or, q_asB, q_2, q_var, h2, h9, R.bind_ok, q_c, q_is, ofO, Bool.false_eq_true, if_false, q_tru, q_fn, q_cons, q_nil, hle, q_noX_ok, q_truB, mnO, decide_eq_true_eq]
    split <;> rfl
def gTk : EvG := (gTupD 2 (gsCons (gVar 4) (gsCons (gVar 5) gsNil)))
def bTk : EvS := (sKill [4, 5, 6, 7, 8, 9] (sSeq (sPar 6 7 (evCons (evFn F.fminus (evCons (ev2 idxD (evVar 1) (evC (.int 0))) (evCons (evVar 4) evNil))) (evCons (evFn F.fminus (evCons (ev2 idxD (evVar 1) (evC (.int 1))) (evCons (evVar 5) evNil))) evNil))) (sSeq (sPar 8 9 (evCons (evFn F.fquotient (evCons (evFn F.fminus (evCons (evVar 7) (evCons (ev1 (fldD F.kn "wide") (evVar 0)) evNil))) (evCons (evVar 6) evNil))) (evCons (evFn F.fquotient (evCons (evFn F.fplus (evCons (evVar 7) (evCons (ev1 (fldD F.kn "wide") (evVar 0)) evNil))) (evCons (evVar 6) evNil))) evNil))) (sSeq (sAsg (evIf (evOr (asB (ev2 (isD false) (evVar 2) (evC .none))) (evTru (evFn F.fis_less (evCons (evVar 2) (evCons (evVar 8) evNil))))) (evVar 8) (evVar 2)) (gVar 2)) (sAsg (evIf (evOr (asB (ev2 (isD false) (evVar 3) (evC .none))) (evTru (evFn F.fis_less (evCons (evVar 9) (evCons (evVar 3) evNil))))) (evVar 9) (evVar 3)) (gVar 3))))))
theorem take_in {e : Rat} (he : Bd 7 e) {p q : Pt} (bp : Bd 140 p.1 ∧ Bd 140 p.2) (bq : Bd 140 q.1 ∧ Bd 140 q.2) (dx : q.1 - p.1 ≠ 0) {lo hi : Option Rat} (hl : ∀ a, lo = some a → Bd 600 a) (hh : ∀ a, hi = some a → Bd 600 a) {l h : Nat} {lo0 hi0 : Option Rat} {S : Sto} (o : S.objs[h]? = some (.ins "Stab" (stF e l lo0 hi0))) :
    (gTk (.im (ptD p)) [some (.ref h), some (.im (ptD q)), some (.im (ofO lo)), some (.im (ofO hi)), none, none, none, none, none, none] S).bind bTk = .ok (.nx [some (.ref h), some (.im (ptD q)), some (fr (mxO lo (slo e p q))), some (fr (mnO hi (shi e p q))), none, none, none, none, none, none]) S := by
  have b := bd_pair bp bq he dx
  have m1 := minus_ok bq.1 bp.1 (by omega) S
  have m2 := minus_ok bq.2 bp.2 (by omega) S
  have b1 := bq.1.sub bp.1
  have b2 := bq.2.sub bp.2
  have m3 := minus_ok b2 he (by omega) S
  have m4 := plus_ok b2 he (by omega) S
  have m5 := quotient_ok (b2.sub he) b1 dx (by omega) S
  have m6 := quotient_ok (b2.add he) b1 dx (by omega) S
  have u1 := up_lo2 (env := [some (.ref h), some (.im (ptD q)), some (.im (ofO lo)), some (.im (ofO hi)), some (fr p.1), some (fr p.2), some (fr (q.1 - p.1)), some (fr (q.2 - p.2)), some (fr ((q.2 - p.2 - e) / (q.1 - p.1))), some (fr ((q.2 - p.2 + e) / (q.1 - p.1)))]) hl b.1 rfl rfl S
  have u2 := up_hi2 (env := [some (.ref h), some (.im (ptD q)), some (fr (mxO lo (slo e p q))), some (.im (ofO hi)), some (fr p.1), some (fr p.2), some (fr (q.1 - p.1)), some (fr (q.2 - p.2)), some (fr ((q.2 - p.2 - e) / (q.1 - p.1))), some (fr ((q.2 - p.2 + e) / (q.1 - p.1)))]) hh b.2 rfl rfl S
  have g1 : gTk (.im (ptD p)) [some (.ref h), some (.im (ptD q)), some (.im (ofO lo)), some (.im (ofO hi)), none, none, none, none, none, none] S = .ok [some (.ref h), some (.im (ptD q)), some (.im (ofO lo)), some (.im (ofO hi)), some (fr p.1), some (fr p.2), none, none, none, none] S := rfl
  rw [g1]
  unfold bTk
  simp only [q_gvar, R.bind_ok, List.set_cons_zero, List.set_cons_succ, q_kill, q_seq, q_asg, q_fn, q_cons, q_nil, q_2, q_1, q_var, List.getElem?_cons_zero, List.getElem?_cons_succ, st_wide o, q_c, pt_0, pt_1, m1, m2, q_noX_ok, q_par, m3, m4, m5, m6, u1, u2, q_killE0, q_killE1]
theorem take_loop {e : Rat} (he : Bd 7 e) {ps : List Pt} {p : Pt} (hb : PB (ps ++ [p])) {l h : Nat} {lo hi : Option Rat} {S : Sto} (o : S.objs[h]? = some (.ins "Stab" (stF e l lo hi))) (ol : S.objs[l]? = some (.lst (ps.map fun p => .im (ptD p)))) (m : MM (Prs e ps fun _ _ => True) lo hi) :
    ∃ lo' hi', MM (Prs e (ps ++ [p]) fun _ _ => True) lo' hi' ∧ forD (fun S' => S'.objs[l]? = some (.lst (ps.map fun p => .im (ptD p)))) gTk bTk (ps.map fun p => .im (ptD p)) [some (.ref h), some (.im (ptD p)), some (.im (ofO lo)), some (.im (ofO hi)), none, none, none, none, none, none] S = .ok (.nx [some (.ref h), some (.im (ptD p)), some (.im (ofO lo')), some (.im (ofO hi')), none, none, none, none, none, none]) S := by
  have hq : (ps ++ [p])[ps.length]? = some p := by simp
  obtain ⟨e', S2, hr, rfl, lo', hi', m', rfl⟩ := for_in (gd := fun S' => S'.objs[l]? = some (.lst (ps.map fun p => .im (ptD p)))) (g := gTk) (f := bTk)
    (fun n env S' => S' = S ∧ ∃ lo1 hi1, MM (Prs e (ps ++ [p]) fun a b => b < ps.length ∨ (b = ps.length ∧ a < n)) lo1 hi1 ∧ env = [some (.ref h), some (.im (ptD p)), some (.im (ofO lo1)), some (.im (ofO hi1)), none, none, none, none, none, none])
    (fun n env S' hP => by rw [hP.1]; exact ol) (ps.map fun p => .im (ptD p)) 0 _ S ⟨rfl, lo, hi, (m.congr fun x => prs_app x).congr (prs_congr fun a b h1 h2 => by omega), rfl⟩ (by
      rintro j x env S' hx ⟨rfl, lo1, hi1, m1, rfl⟩
      rw [List.getElem?_map] at hx
      cases hj : ps[j]? with
      | none => rw [hj] at hx; cases hx
      | some u =>
        rw [hj] at hx
        cases hx
        have hjl := (List.getElem?_eq_some_iff.mp hj).1
        have hp : (ps ++ [p])[j]? = some u := by rw [List.getElem?_append_left hjl]; exact hj
        have bd := mm_bd hb he m1
        rw [take_in he (hb.bits u (List.mem_of_getElem? hp)) (hb.bits p (List.mem_of_getElem? hq)) (hb.dx hjl hp hq) bd.1 bd.2 o]
        refine ⟨_, S', rfl, rfl, some (mxO lo1 (slo e u p)), some (mnO hi1 (shi e u p)), (m1.add (slo e u p, shi e u p)).congr (fun x => ?_), rfl⟩
        rw [← prs_add hjl hp hq]
        exact prs_congr (fun a b h1 h2 => by omega) x)
  refine ⟨lo', hi', m'.congr (prs_congr fun a b h1 h2 => ?_), hr⟩
  rw [List.length_append] at h2
  rw [List.length_map]
  simp only [List.length_cons, List.length_nil, true_iff] at h2 ⊢
  omega
end
end MP
set_option Elab.async false
set_option linter.all false
set_option maxRecDepth 100000
namespace MP
open PySem PySem.Spec L2
noncomputable section
open Classical
/-! Q10: stabbing a row of points -/
def lstP (ps : List Pt) : Obj := .lst (ps.map fun p => .im (ptD p))
section
variable {e : Rat} {ps : List Pt} {p : Pt} {l h : Nat} {lo hi : Option Rat} {S : Sto}
theorem take_yes (he : Bd 7 e) (hb : PB (ps ++ [p])) (hne : h ≠ l) (o : S.objs[h]? = some (.ins "Stab" (stF e l lo hi))) (ol : S.objs[l]? = some (lstP ps)) (m : MM (Prs e ps fun _ _ => True) lo hi) (hn : Near e (ps ++ [p])) :
    ∃ lo' hi', MM (Prs e (ps ++ [p]) fun _ _ => True) lo' hi' ∧ F.fStab_takes [.ref h, .im (ptD p)] S = .ok (vb true) ⟨(S.objs.set h (.ins "Stab" (stF e l lo' hi'))).set l (lstP (ps ++ [p])), S.esc⟩ := by
  obtain ⟨lo', hi', m', hr⟩ := take_loop (S := ⟨S.objs, []⟩) he hb o ol m
  refine ⟨lo', hi', m', ?_⟩
  have hh := (List.getElem?_eq_some_iff.mp o).1
  have hl := (List.getElem?_eq_some_iff.mp ol).1
  have cond : evAnd (asB (ev2 (isD true) (evVar 2) (evC .none))) (evTru (evFn F.fis_less (evCons (evVar 3) (evCons (evVar 2) evNil)))) [some (.ref h), some (.im (ptD p)), some (.im (ofO lo')), some (.im (ofO hi')), none, none, none, none, none, none] ⟨S.objs, []⟩ = .ok false ⟨S.objs, []⟩ := by
    cases lo' with
    | none => simp [ofO]
    | some a =>
      cases hi' with
      | none => have := m'.both; simp at this
      | some b =>
        have bd := mm_bd hb he m'
        have hle := is_less_ok (bd.2 b rfl) (bd.1 a rfl) (by omega) ⟨S.objs, []⟩
        have hd : ¬ b < a := m'.dec.mpr hn
        simp [ofO, hle, hd]
  let S1 : Sto := ⟨S.objs.set h (.ins "Stab" (stF e l lo' hi)), []⟩
  let S2 : Sto := ⟨S.objs.set h (.ins "Stab" (stF e l lo' hi')), []⟩
  have o1 : S1.objs[h]? = some (.ins "Stab" (stF e l lo' hi)) := by simp [S1, hh]
  have o2 : S2.objs[h]? = some (.ins "Stab" (stF e l lo' hi')) := by simp [S2, hh]
  have ol2 : S2.objs[l]? = some (lstP ps) := by
    show (S.objs.set h _)[l]? = _
    rw [List.getElem?_set_ne hne]; exact ol
  have s1 : setFldD F.kn "low" (.ref h) (.im (ofO lo')) ⟨S.objs, []⟩ = .ok () S1 := st_slow (S := ⟨S.objs, []⟩) o lo'
  have s2 : setFldD F.kn "high" (.ref h) (.im (ofO hi')) S1 = .ok () S2 := by
    rw [st_shigh o1 hi']
    simp [S1, S2]
  have ln : (ps.map fun p => Val.im (ptD p)).length < sizeLine := by
    have := hb.few
    rw [List.length_append] at this
    rw [List.length_map, sizeLine_eq]; omega
  have ap : appD (.ref l) [.im (ptD p)] S2 = .ok (.im .none) ⟨S2.objs.set l (lstP (ps ++ [p])), []⟩ := by
    unfold appD
    simp only [ol2, lstP, ln, if_true, putO, Val.isRef, Bool.false_eq_true, if_false]
    simp [S2]
  have il : isLst (.ref l) S2 = true := by unfold isLst; simp only [ol2, lstP]
  have fr0 := fn_chg (np := 2) (n := 10) (body := F.bStab_takes) (ds := [.ref h, .im (ptD p)]) (S := S) (d := .bool true) (S' := ⟨S2.objs.set l (lstP (ps ++ [p])), []⟩) rfl (by
    unfold F.bStab_takes
    show sSeq _ _ [some (.ref h), some (.im (ptD p)), none, none, none, none, none, none, none, none] _ = _
    simp only [gTk, bTk] at hr
    simp only [q_seq, q_par, q_cons, q_nil, q_1, q_var, List.getElem?_cons_zero, List.getElem?_cons_succ, R.bind_ok, st_low (S := ⟨S.objs, []⟩) o, st_high (S := ⟨S.objs, []⟩) o, List.set_cons_zero, List.set_cons_succ, q_kill, q_for, q_iseq, st_points (S := ⟨S.objs, []⟩) o, seqI, ol, lstP, hr, q_killE0, q_killE1, q_sif, cond, Bool.false_eq_true, if_false, q_next, q_unp, List.length_cons, List.length_nil, Nat.reduceAdd, q_line2, and_self, if_true, q_gscons, q_gsnil, q_gfld, s1, s2, q_expr, q_M, st_points o2, il, ap, q_ret, q_c]) rfl
  rw [F.fStab_takes, fr0]
  simp only [S2]
  rw [List.take_of_length_le (by simp)]
theorem take_no (he : Bd 7 e) (hb : PB (ps ++ [p])) (o : S.objs[h]? = some (.ins "Stab" (stF e l lo hi))) (ol : S.objs[l]? = some (lstP ps)) (m : MM (Prs e ps fun _ _ => True) lo hi) (hn : ¬ Near e (ps ++ [p])) : F.fStab_takes [.ref h, .im (ptD p)] S = .ok (vb false) S := by
  obtain ⟨lo', hi', m', hr⟩ := take_loop (S := ⟨S.objs, []⟩) he hb o ol m
  have cond : evAnd (asB (ev2 (isD true) (evVar 2) (evC .none))) (evTru (evFn F.fis_less (evCons (evVar 3) (evCons (evVar 2) evNil)))) [some (.ref h), some (.im (ptD p)), some (.im (ofO lo')), some (.im (ofO hi')), none, none, none, none, none, none] ⟨S.objs, []⟩ = .ok true ⟨S.objs, []⟩ := by
    cases lo' with
    | none => exact (hn m'.dec0).elim
    | some a =>
      cases hi' with
      | none => have := m'.both; simp at this
      | some b =>
        have bd := mm_bd hb he m'
        have hle := is_less_ok (bd.2 b rfl) (bd.1 a rfl) (by omega) ⟨S.objs, []⟩
        have hd : b < a := by
          by_cases h : b < a
          · exact h
          · exact (hn (m'.dec.mp h)).elim
        simp [ofO, hle, hd]
  have fr0 := fn_chg (np := 2) (n := 10) (body := F.bStab_takes) (ds := [.ref h, .im (ptD p)]) (S := S) (d := .bool false) (S' := ⟨S.objs, []⟩) rfl (by
    unfold F.bStab_takes
    show sSeq _ _ [some (.ref h), some (.im (ptD p)), none, none, none, none, none, none, none, none] _ = _
    simp only [gTk, bTk] at hr
    simp only [q_seq, q_par, q_cons, q_nil, q_1, q_var, List.getElem?_cons_zero, List.getElem?_cons_succ, R.bind_ok, st_low (S := ⟨S.objs, []⟩) o, st_high (S := ⟨S.objs, []⟩) o, List.set_cons_zero, List.set_cons_succ, q_kill, q_for, q_iseq, st_points (S := ⟨S.objs, []⟩) o, seqI, ol, lstP, hr, q_killE0, q_killE1, q_sif, cond, if_true, q_ret, q_c]) rfl
  rw [F.fStab_takes, fr0]
  simp
end
theorem init_ok {w : Rat} (hw : Bd 3 w) (base : List Obj) (es : List Nat) : F.fStab___init__ [.ref base.length, fr w] ⟨base ++ [.ins "Stab" []], es⟩ = .ok (.im .none) ⟨base ++ [.ins "Stab" (stF (2 * w) (base.length + 1) none none), .lst []], base.length :: es⟩ := by
  have h2 : Bd 2 (2 : Rat) := ⟨by decide, by decide⟩
  have pr := product_ok h2 hw (by omega) ⟨base ++ [.ins "Stab" []], []⟩
  have e2 : fr 2 = .im (.tuple [.int 2, .int 1]) := rfl
  rw [e2] at pr
  have body : F.bStab___init__ [some (.ref base.length), some (fr w)] ⟨base ++ [.ins "Stab" []], []⟩ = .ok (.nx [some (.ref base.length), some (fr w)]) ⟨base ++ [.ins "Stab" (stF (2 * w) (base.length + 1) none none), .lst []], [base.length]⟩ := by
    unfold F.bStab___init__
    have s1 : ∀ x, setFldD F.kn "wide" (.ref base.length) (.im x) ⟨base ++ [.ins "Stab" []], []⟩ = .ok () ⟨base ++ [.ins "Stab" [("wide", .im x)]], []⟩ := fun x => by
      unfold setFldD; simp only [List.getElem?_concat_length]; simp [F.kn, putO, putFd, Val.isRef]
    have s2 : ∀ x, setFldD F.kn "points" (.ref base.length) (.ref (base.length + 1)) ⟨base ++ [.ins "Stab" [("wide", .im x)], .lst []], []⟩ = .ok () ⟨base ++ [.ins "Stab" [("wide", .im x), ("points", .ref (base.length + 1))], .lst []], [base.length]⟩ := fun x => by
      unfold setFldD; simp [F.kn, putO, putFd, Val.isRef]
      decide
    have s3 : ∀ x, setFldD F.kn "low" (.ref base.length) (.im .none) ⟨base ++ [.ins "Stab" [("wide", .im x), ("points", .ref (base.length + 1))], .lst []], [base.length]⟩ = .ok () ⟨base ++ [.ins "Stab" [("wide", .im x), ("points", .ref (base.length + 1)), ("low", .im .none)], .lst []], [base.length]⟩ := fun x => by
      unfold setFldD; simp [F.kn, putO, putFd, Val.isRef]
      rfl
    have s4 : ∀ x, setFldD F.kn "high" (.ref base.length) (.im .none) ⟨base ++ [.ins "Stab" [("wide", .im x), ("points", .ref (base.length + 1)), ("low", .im .none)], .lst []], [base.length]⟩ = .ok () ⟨base ++ [.ins "Stab" [("wide", .im x), ("points", .ref (base.length + 1)), ("low", .im .none), ("high", .im .none)], .lst []], [base.length]⟩ := fun x => by
      unfold setFldD; simp [F.kn, putO, putFd, Val.isRef]
      rfl
    simp only [q_seq, q_asg, q_fn, q_cons, q_nil, q_tup, q_c, q_var, List.getElem?_cons_zero, List.getElem?_cons_succ, R.bind_ok, q_allIm0, q_allIm1, Option.map_some, List.length_cons, List.length_nil, Nat.reduceAdd, q_line2, if_true, pr, q_noX_ok, q_gfld, s1, q_lst, q_line0, newL, q_unp, and_self, q_gscons, q_gsnil]
    simp only [List.append_assoc, List.cons_append, List.nil_append, List.length_append, List.length_cons, List.length_nil, Nat.zero_add, s2, s3, s4, R.bind_ok, q_var, List.getElem?_cons_zero, q_gscons, q_gsnil, q_gfld]
    rfl
  have st : fnD stay 2 2 F.bStab___init__ [.ref base.length, fr w] ⟨base ++ [.ins "Stab" []], es⟩ = stay ⟨base ++ [.ins "Stab" []], es⟩ (F.bStab___init__ [some (.ref base.length), some (fr w)] ⟨base ++ [.ins "Stab" []], []⟩) := if_pos rfl
  rw [F.fStab___init__, st, body]
  simp only [stay, Fl.out, List.cons_append, List.nil_append]
end
end MP
set_option Elab.async false
set_option linter.all false
set_option maxRecDepth 100000
namespace MP
open PySem PySem.Spec L2
noncomputable section
open Classical
/-! Q11: stabbing a row of points -/
theorem seg_snoc {ps : List Pt} {s m : Nat} {p : Pt} (hp : ps[s + m]? = some p) : seg ps s (m + 1) = seg ps s m ++ [p] := by
  unfold seg
  rw [List.take_add_one, List.getElem?_drop, hp]
  rfl
theorem seg_len {ps : List Pt} {s m : Nat} (h : s + m ≤ ps.length) : (seg ps s m).length = m := by
  unfold seg
  rw [List.length_take, List.length_drop]
  omega
theorem seg_all (ps : List Pt) : seg ps 0 ps.length = ps := by simp [seg]
def bCut : EvS := sSeq (sExpr (evM appD (evVar 2) (evCons (evVar 4) evNil))) (sSeq (sAsg (evMake "Stab" F.fStab___init__ (evCons (evVar 1) evNil)) (gVar 3)) (sExpr (evMeth "Stab" "takes" F.fStab_takes (evVar 3) (evCons (evVar 5) evNil))))
def bStb : EvS := (sKill [4, 5] (sIf (evOr (asB (ev2 (isD false) (evVar 3) (evC .none))) (evNot (evTru (evMeth "Stab" "takes" F.fStab_takes (evVar 3) (evCons (evVar 5) evNil))))) bCut (sNext)))
/-- how the row stands after k points, the last cut at s -/
structure StG (ps : List Pt) (w : Rat) (base : List Obj) (k : Nat) (cuts : List Nat) (S : Sto) : Prop where
  esc : ∀ t ∈ S.esc, base.length ≤ t
  len : base.length < S.objs.length
  keep : S.objs.take base.length = base
  cuts : S.objs[base.length]? = some (.lst (cuts.map fun i => vi (i : Nat)))
structure StH (ps : List Pt) (w : Rat) (base : List Obj) (k : Nat) (cuts : List Nat) (h : Nat) (S : Sto) : Prop where
  g : StG ps w base k cuts S
  ex : ∃ (l : Nat) (lo hi : Option Rat) (c : List Nat) (s : Nat), cuts = c ++ [s] ∧ s < k ∧ k ≤ ps.length ∧ base.length < h ∧ base.length < l ∧ h ≠ l ∧ S.objs[h]? = some (.ins "Stab" (stF (2 * w) l lo hi)) ∧ S.objs[l]? = some (lstP (seg ps s (k - s))) ∧ MM (Prs (2 * w) (seg ps s (k - s)) fun _ _ => True) lo hi ∧ Near (2 * w) (seg ps s (k - s)) ∧ ∀ L, IsG (2 * w) ps s L → IsG (2 * w) ps 0 (c ++ L)
section
variable {ps : List Pt} {w : Rat} {base : List Obj}
theorem bd2w (hw : Bd 3 w) : Bd 7 (2 * w) := by
  have e : 2 * w = w + w := by grind
  rw [e]; exact hw.add hw
theorem cut_ok (h : PB ps) (hw : Bd 3 w) {k : Nat} {p : Pt} (hp : ps[k]? = some p) {cuts : List Nat} {S : Sto} (g : StG ps w base k cuts S) (hc : cuts.length ≤ k) (hG : ∀ L, IsG (2 * w) ps k L → IsG (2 * w) ps 0 (cuts ++ L)) (x3 : Val) :
    ∃ h' S', bCut [some (.im (ptsD ps)), some (fr w), some (.ref base.length), some x3, some (vi k), some (.im (ptD p))] S = .ok (.nx [some (.im (ptsD ps)), some (fr w), some (.ref base.length), some (.ref h'), some (vi k), some (.im (ptD p))]) S' ∧ StH ps w base (k + 1) (cuts ++ [k]) h' S' := by
  have hk : k < ps.length := (List.getElem?_eq_some_iff.mp hp).1
  have few := h.few
  let B : List Obj := S.objs.set base.length (.lst ((cuts ++ [k]).map fun i => vi (i : Nat)))
  have lB : B.length = S.objs.length := by simp [B]
  have ln : (cuts.map fun i => vi (i : Nat)).length < sizeLine := by rw [List.length_map, sizeLine_eq]; omega
  have ap : appD (.ref base.length) [vi k] S = .ok (.im .none) ⟨B, S.esc⟩ := by
    unfold appD
    simp only [g.cuts, ln, if_true, putO, Val.isRef, Bool.false_eq_true, if_false]
    simp [B]
  have il : isLst (.ref base.length) S = true := by unfold isLst; simp only [g.cuts]
  have ini := init_ok hw B S.esc
  let B1 : List Obj := B ++ [.ins "Stab" (stF (2 * w) (B.length + 1) none none), .lst []]
  let S1 : Sto := ⟨B1, B.length :: S.esc⟩
  have s1 : seg ps k 1 = [] ++ [p] := by
    have := seg_snoc (ps := ps) (s := k) (m := 0) (p := p) hp
    rw [this]; rfl
  have pb : PB ([] ++ [p]) := by rw [← s1]; exact h.seg k 1
  have nr : Near (2 * w) ([] ++ [p]) := by rw [← s1]; exact near_one _ _ _
  have o : S1.objs[B.length]? = some (.ins "Stab" (stF (2 * w) (B.length + 1) none none)) := by simp [S1, B1]
  have ol : S1.objs[B.length + 1]? = some (lstP []) := by simp [S1, B1, lstP]
  obtain ⟨lo, hi, m, tk⟩ := take_yes (S := S1) (bd2w hw) pb (by omega : B.length ≠ B.length + 1) o ol (.nil (by rintro x ⟨i, j, u, v, _, _, h2, _⟩; simp at h2)) nr
  have hin : isIns "Stab" "takes" (.ref B.length) S1 = true := by unfold isIns; simp only [o]; rfl
  have eS : (S1.objs.set B.length (.ins "Stab" (stF (2 * w) (B.length + 1) lo hi))).set (B.length + 1) (lstP ([] ++ [p])) = B ++ [.ins "Stab" (stF (2 * w) (B.length + 1) lo hi), lstP [p]] := by simp [S1, B1]
  rw [eS] at tk
  refine ⟨B.length, ⟨B ++ [.ins "Stab" (stF (2 * w) (B.length + 1) lo hi), lstP [p]], B.length :: S.esc⟩, ?_, ⟨?_, ?_, ?_, ?_⟩, B.length + 1, lo, hi, cuts, k, rfl, by omega, by omega, by have := g.len; omega, by have := g.len; omega, by omega, by simp, ?_, ?_, ?_, hG⟩
  · unfold bCut
    simp only [q_seq, q_expr, q_M, q_var, List.getElem?_cons_zero, List.getElem?_cons_succ, R.bind_ok, il, if_true, q_cons, q_nil, ap, q_asg, q_make, ini, q_noX_ok, q_gvar, List.set_cons_zero, List.set_cons_succ, q_meth]
    show ((if isIns "Stab" "takes" (.ref B.length) S1 = true then _ else _) : R Val).bind _ = _
    rw [hin, if_pos rfl]
    show ((noX (F.fStab_takes [.ref B.length, .im (ptD p)] S1)) : R Val).bind _ = _
    rw [tk]
    rfl
  · intro t ht
    have := g.len
    rcases List.mem_cons.mp ht with rfl | ht
    · omega
    · exact g.esc t ht
  · have := g.len; simp [lB]; omega
  · have := g.len
    show (B ++ _).take base.length = base
    rw [List.take_append_of_le_length (by omega)]
    show (S.objs.set base.length _).take base.length = base
    rw [List.take_set_of_le (by omega)]
    exact g.keep
  · have := g.len
    show (B ++ _)[base.length]? = _
    rw [List.getElem?_append_left (by omega)]
    simp [B, this]
  · show (B ++ [_, lstP [p]])[B.length + 1]? = _
    rw [show k + 1 - k = 1 by omega, s1]
    simp
  · rw [show k + 1 - k = 1 by omega, s1]; exact m
  · rw [show k + 1 - k = 1 by omega, s1]; exact nr
end
end
end MP
set_option Elab.async false
set_option linter.all false
set_option maxRecDepth 100000
namespace MP
open PySem PySem.Spec L2
noncomputable section
open Classical
/-! Q12: the whole row stabbed -/
def gStb : EvG := gTupD 2 (gsCons (gVar 4) (gsCons (gVar 5) gsNil))
def StI (ps : List Pt) (w : Rat) (base : List Obj) (k : Nat) (env : Env) (S : Sto) : Prop := ∃ (cuts : List Nat) (x : Val), env = [some (.im (ptsD ps)), some (fr w), some (.ref base.length), some x, none, none] ∧ cuts.length ≤ k ∧ ((k = 0 ∧ cuts = [] ∧ x = .im .none ∧ StG ps w base 0 [] S) ∨ ∃ h, x = .ref h ∧ StH ps w base k cuts h S)
section
variable {ps : List Pt} {w : Rat} {base : List Obj}
theorem stb_step (h : PB ps) (hw : Bd 3 w) {k : Nat} (hk : k < ps.length) {env : Env} {S : Sto} (I : StI ps w base k env S) : ∃ e S', (gStb (.im (.tuple [.int k, ptD ps[k]])) env S).bind bStb = .ok (.nx e) S' ∧ StI ps w base (k + 1) e S' := by
  obtain ⟨cuts, x, rfl, hcl, hx⟩ := I
  have hp := List.getElem?_eq_getElem hk
  have g1 : gStb (.im (.tuple [.int k, ptD ps[k]])) [some (.im (ptsD ps)), some (fr w), some (.ref base.length), some x, none, none] S = .ok [some (.im (ptsD ps)), some (fr w), some (.ref base.length), some x, some (vi k), some (.im (ptD ps[k]))] S := rfl
  rw [g1]
  simp only [R.bind_ok]
  rcases hx with ⟨rfl, rfl, rfl, g⟩ | ⟨hh, rfl, ⟨g, l, lo, hi, c, s, rfl, hs, hkl, hb1, hb2, hne, o, ol, m, nr, hG⟩⟩
  · obtain ⟨h', S', e1, I'⟩ := cut_ok h hw hp g (Nat.le_refl _) (fun L hL => hL) (.im .none)
    refine ⟨_, S', ?_, [0], .ref h', rfl, Nat.le_refl _, .inr ⟨h', rfl, I'⟩⟩
    unfold bStb
    simp only [q_kill, q_sif, q_or, q_asB, q_2, q_var, List.getElem?_cons_zero, List.getElem?_cons_succ, R.bind_ok, q_c, q_is, if_true, e1, q_killE0, q_killE1, List.set_cons_zero, List.set_cons_succ]
  · have hin : isIns "Stab" "takes" (.ref hh) S = true := by unfold isIns; simp only [o]; rfl
    have hpk : ps[s + (k - s)]? = some ps[k] := by rw [show s + (k - s) = k by omega]; exact hp
    have sn := seg_snoc hpk
    have pb : PB (seg ps s (k - s) ++ [ps[k]]) := by rw [← sn]; exact h.seg _ _
    by_cases hn : Near (2 * w) (seg ps s (k - s) ++ [ps[k]])
    · obtain ⟨lo', hi', m', tk⟩ := take_yes (bd2w hw) pb hne o ol m hn
      refine ⟨[some (.im (ptsD ps)), some (fr w), some (.ref base.length), some (.ref hh), none, none], ⟨(S.objs.set hh (.ins "Stab" (stF (2 * w) l lo' hi'))).set l (lstP (seg ps s (k - s) ++ [ps[k]])), S.esc⟩, ?_, c ++ [s], .ref hh, rfl, by omega, .inr ⟨hh, rfl, ⟨?_, ?_, ?_, ?_⟩, l, lo', hi', c, s, rfl, by omega, by omega, hb1, hb2, hne, ?_, ?_, ?_, ?_, hG⟩⟩
      · unfold bStb
        have ni : isD false (.ref hh) (.im .none) S = .ok (vb false) S := by
          unfold isD isNone
          simp only [o]
          rfl
        simp only [q_kill, q_sif, q_or, q_asB, q_2, q_var, List.getElem?_cons_zero, List.getElem?_cons_succ, R.bind_ok, q_c, ni, Bool.false_eq_true, if_false, q_not, q_tru, q_meth, hin, if_true, q_cons, q_nil, tk, q_noX_ok, q_truB, Bool.not_true, q_next, q_killE0, q_killE1, List.set_cons_zero, List.set_cons_succ]
      · exact g.esc
      · simpa using g.len
      · show ((S.objs.set hh _).set l _).take base.length = base
        rw [List.take_set_of_le (by omega), List.take_set_of_le (by omega)]
        exact g.keep
      · show ((S.objs.set hh _).set l _)[base.length]? = _
        rw [List.getElem?_set_ne (by omega), List.getElem?_set_ne (by omega)]
        exact g.cuts
      · show ((S.objs.set hh _).set l _)[hh]? = _
        rw [List.getElem?_set_ne (by omega), List.getElem?_set_self (List.getElem?_eq_some_iff.mp o).1]
      · show ((S.objs.set hh _).set l _)[l]? = _
        rw [List.getElem?_set_self (by rw [List.length_set]; exact (List.getElem?_eq_some_iff.mp ol).1), ← sn, show k - s + 1 = k + 1 - s by omega]
      · rw [show k + 1 - s = k - s + 1 by omega, sn]; exact m'
      · rw [show k + 1 - s = k - s + 1 by omega, sn]; exact hn
    · have tk := take_no (bd2w hw) pb o ol m hn
      have hE : IsE (2 * w) ps s (k - s) := ⟨by omega, by omega, nr, .inr (by rw [sn]; exact hn)⟩
      have hEo := hE.uniq (isE (e := 2 * w) (by omega : s < ps.length))
      have hG2 : ∀ L, IsG (2 * w) ps k L → IsG (2 * w) ps 0 ((c ++ [s]) ++ L) := fun L hL => by
        have := hG (s :: L) (.cons (by omega) (by rw [← hEo, show s + (k - s) = k by omega]; exact hL))
        simpa using this
      obtain ⟨h', S', e1, I'⟩ := cut_ok h hw hp ⟨g.esc, g.len, g.keep, g.cuts⟩ hcl hG2 (.ref hh)
      refine ⟨_, S', ?_, c ++ [s] ++ [k], .ref h', rfl, by rw [List.length_append]; simp only [List.length_cons, List.length_nil]; omega, .inr ⟨h', rfl, I'⟩⟩
      unfold bStb
      have ni : isD false (.ref hh) (.im .none) S = .ok (vb false) S := by
        unfold isD isNone
        simp only [o]
        rfl
      simp only [q_kill, q_sif, q_or, q_asB, q_2, q_var, List.getElem?_cons_zero, List.getElem?_cons_succ, R.bind_ok, q_c, ni, Bool.false_eq_true, if_false, q_not, q_tru, q_meth, hin, if_true, q_cons, q_nil, tk, q_noX_ok, q_truB, Bool.not_false, e1, q_killE0, q_killE1, List.set_cons_zero, List.set_cons_succ]
theorem enum_at (ps : List Pt) (j : Nat) (x : Val) (hx : (enumL 0 (ps.map ptD))[j]? = some x) : ∃ h : j < ps.length, x = .im (.tuple [.int j, ptD ps[j]]) := by
  rw [enumL_get] at hx
  rw [List.getElem?_map] at hx
  cases hj : ps[j]? with
  | none => rw [hj] at hx; cases hx
  | some p =>
    obtain ⟨h, rfl⟩ := List.getElem?_eq_some_iff.mp hj
    rw [hj] at hx
    simp at hx
    exact ⟨h, hx.symm⟩
/-- what stabbed answers -/
def cutsD (L : List Nat) : D := .tuple [.int L.length, .tuple (L.map fun i => PyData.int (i : Nat))]
theorem stabbed_ok (h : PB ps) (h0 : 0 < ps.length) (hw : Bd 3 w) {L : List Nat} (hL : IsG (2 * w) ps 0 L) (S : Sto) : F.fstabbed [.im (ptsD ps), fr w] S = .ok (.im (cutsD L)) S := by
  have I0 : StI ps w S.objs 0 [some (.im (ptsD ps)), some (fr w), some (.ref S.objs.length), some (.im .none), none, none] ⟨S.objs ++ [.lst []], []⟩ :=
    ⟨[], .im .none, rfl, Nat.le_refl _, .inl ⟨rfl, rfl, rfl, ⟨fun t ht => by simp at ht, by simp, by simp, by simp⟩⟩⟩
  obtain ⟨e', S2, hr, cuts, x, rfl, _, hx⟩ := for_ok (gd := fun _ => True) (g := gStb) (f := bStb) (fun _ => trivial) (StI ps w S.objs) (enumL 0 (ps.map ptD)) _ _ I0 (by
    intro j x env S1 hx I
    obtain ⟨hj, rfl⟩ := enum_at ps j x hx
    exact stb_step h hw hj I)
  have ll : (enumL 0 (ps.map ptD)).length = ps.length := by rw [enumL_len, List.length_map]
  rcases hx with ⟨h1, _⟩ | ⟨hh, rfl, ⟨g, l, lo, hi, c, s, rfl, hs, hkl, hb1, hb2, hne, o, ol, m, nr, hG⟩⟩
  · omega
  · rw [ll] at hs nr ol m
    have hE : IsE (2 * w) ps s (ps.length - s) := ⟨by omega, by omega, nr, .inl (by omega)⟩
    have hEo := hE.uniq (isE (e := 2 * w) (by omega : s < ps.length))
    have hL2 := hG [s] (.cons (by omega) (by rw [← hEo, show s + (ps.length - s) = ps.length by omega]; exact .nil))
    have hLe : L = c ++ [s] := by
      have un : ∀ {k : Nat} {l1 l2 : List Nat}, IsG (2 * w) ps k l1 → IsG (2 * w) ps k l2 → l1 = l2 := by
        intro k l1 l2 h1
        induction h1 generalizing l2 with
        | nil => intro h2; exact h2.last.symm
        | cons hk _ ih =>
          intro h2
          obtain ⟨r, rfl, h3⟩ := h2.inv hk
          rw [ih h3]
      exact un hL hL2
    have hc := g.cuts
    rw [← hLe] at hc
    have te : (S2.esc.all fun t => decide (S.objs.length ≤ t)) = true := by
      rw [List.all_eq_true]
      intro t ht
      exact decide_eq_true (g.esc t ht)
    have al : allIm (ps.map fun p => Val.im (ptD p)) = some (ps.map ptD) := by
      have := allIm_ims (ps.map ptD)
      rwa [List.map_map] at this
    have al2 : allIm (L.map fun i => vi (i : Nat)) = some (L.map fun i => PyData.int (i : Nat)) := by
      have := allIm_ims (L.map fun i => PyData.int (i : Nat))
      rwa [List.map_map] at this
    have body : F.bstabbed [some (.im (ptsD ps)), some (fr w), none, none, none, none] ⟨S.objs, []⟩ = .ok (.rt (.im (cutsD L))) S2 := by
      unfold F.bstabbed
      have en : enumI [.im (ptsD ps)] ⟨S.objs ++ [.lst []], []⟩ = .ok (enumL 0 (ps.map ptD), fun _ => True) ⟨S.objs ++ [.lst []], []⟩ := by
        show (match allIm ((ps.map ptD).map Val.im) with | some es => R.ok (enumL 0 es, fun _ => True) ⟨S.objs ++ [.lst []], []⟩ | none => R.bad : R (List Val × (Sto → Prop))) = _
        rw [allIm_ims]
      have ln : lenD [.ref S.objs.length] S2 = .ok (vi L.length) S2 := by
        unfold lenD; simp only [hc, List.length_map]
      have tp : tupD [.ref S.objs.length] S2 = .ok (.im (.tuple (L.map fun i => PyData.int (i : Nat)))) S2 := by
        unfold tupD; simp only [hc, al2]
      simp only [gStb, bStb, bCut] at hr
      simp only [q_seq, q_asg, q_lst, q_nil, R.bind_ok, List.length_nil, q_line0, if_true, newL, q_gvar, List.set_cons_zero, List.set_cons_succ, q_c, q_kill, q_for, q_ienu, q_cons, q_var, List.getElem?_cons_zero, List.getElem?_cons_succ, en, hr, q_killE0, q_killE1, q_ret, q_tup, q_call, ln, tp, q_allIm0, q_allIm1, Option.map_some, List.length_cons, Nat.reduceAdd, q_line2, cutsD]
    unfold F.fstabbed
    have st : fnD leave 2 6 F.bstabbed [.im (ptsD ps), fr w] S = leave S (F.bstabbed [some (.im (ptsD ps)), some (fr w), none, none, none, none] ⟨S.objs, []⟩) := if_pos rfl
    rw [st, body]
    simp only [leave, te, if_true, Fl.out]
    rw [g.keep]
end
end
end MP
set_option Elab.async false
set_option linter.all false
set_option maxRecDepth 100000
namespace MP
open PySem PySem.Spec L2
noncomputable section
open Classical
/-! Q13: sameness, and the law's own two loops -/
theorem same_int (n : Nat) (i : Int) (S : Sto) : F.f_law_same (n + 1) [vi i, vi i] S = .ok (vb true) S := by
  refine fn_ret rfl fun S0 _ _ => ?_
  unfold F.b_law_same
  have i1 : isiD "tuple" (vi i) S0 = .ok (vb false) S0 := rfl
  have i2 : isiD "str" (vi i) S0 = .ok (vb false) S0 := rfl
  have i3 : isiD "bool" (vi i) S0 = .ok (vb false) S0 := rfl
  have i4 : isiD "int" (vi i) S0 = .ok (vb true) S0 := rfl
  simp [startE, i1, i2, i3, i4]
theorem same_tup (n : Nat) (ds : List D) (hs : ds.length ≤ 1000) (hd : ∀ d ∈ ds, ∀ S, F.f_law_same n [.im d, .im d] S = .ok (vb true) S) (S : Sto) : F.f_law_same (n + 1) [.im (.tuple ds), .im (.tuple ds)] S = .ok (vb true) S := by
  refine fn_ret rfl fun S0 _ _ => ?_
  have i1 : isiD "tuple" (.im (.tuple ds)) S0 = .ok (vb true) S0 := rfl
  have sm : SmallI (ds.length : Int) := by unfold SmallI; omega
  let bd : EvS := (sKill [2] (sIf (evNot (evTru (evFn (F.f_law_same n) (evCons (ev2 idxD (evVar 0) (evVar 2)) (evCons (ev2 idxD (evVar 1) (evVar 2)) evNil))))) (sRet (evC (.bool false))) (sNext)))
  obtain ⟨e', S2, hr, rfl, rfl⟩ := for_ok (gd := fun _ => True) (g := gVar 2) (f := bd) (fun _ => trivial) (fun _ env S => S = S0 ∧ env = [some (.im (.tuple ds)), some (.im (.tuple ds)), none]) (rngL 0 ds.length) _ S0 ⟨rfl, rfl⟩ (by
    rintro j x env S1 hx ⟨rfl, rfl⟩
    obtain ⟨hj, rfl⟩ := rngL_get hx
    refine ⟨_, S1, ?_, rfl, rfl⟩
    have ix : idxD (.im (.tuple ds)) (.im (.int (0 + (j : Int)))) S1 = .ok (.im ds[j]) S1 := by
      rw [Int.zero_add, q_idxT, List.getElem?_eq_getElem hj]
    have ih := hd ds[j] (List.getElem_mem hj) S1
    simp only [bd, q_gvar, R.bind_ok, List.set_cons_zero, List.set_cons_succ, q_kill, q_sif, q_not, q_tru, q_fn, q_cons, q_nil, q_2, q_var, List.getElem?_cons_zero, List.getElem?_cons_succ, ix, ih, q_noX_ok, q_truB, Bool.not_true, Bool.false_eq_true, if_false, q_next, q_killE0, q_killE1])
  unfold F.b_law_same
  simp only [bd] at hr
  show sSeq _ _ [some (.im (.tuple ds)), some (.im (.tuple ds)), none] _ = _
  simp only [q_seq, q_sif, q_tru, q_1, q_var, List.getElem?_cons_zero, List.getElem?_cons_succ, R.bind_ok, i1, q_truB, if_true, q_or, q_not, Bool.not_true, Bool.false_eq_true, if_false, q_asB, q_2, q_call, q_cons, q_nil, q_lenT, q_ne, BEq.rfl, q_next, q_kill, q_for, q_irng, q_rng1 _ _ sm, Int.toNat_natCast, hr, q_killE0, q_killE1, List.set_cons_zero, List.set_cons_succ, q_ret, q_c]
section
variable {ps : List Pt} {e : Rat}
def bGr : EvS := (sKill [8] (sIf (asB (ev2 ltD (evVar 7) (evCall lenD (evCons (evVar 3) evNil)))) (sSeq (sExpr (evM appD (evVar 6) (evCons (evVar 7) evNil))) (sAsg (ev2 addD (evVar 7) (ev2 idxD (evVar 5) (evVar 7))) (gVar 7))) (sNext)))
def endsD (e : Rat) (ps : List Pt) : D := .list ((List.range ps.length).map fun k => PyData.int (Eo e ps k))
theorem ends_at {k : Nat} (h : k < ps.length) (S : Sto) : idxD (.im (endsD e ps)) (vi k) S = .ok (vi (Eo e ps k)) S := by
  show idxD (Val.im (.list _)) (vi k) S = _
  rw [q_idxL, List.getElem?_map, List.getElem?_range h]
  rfl
theorem gr_loop (few : ps.length ≤ 14) {L : List Nat} (hL : IsG e ps 0 L) (B : List Obj) (es : List Nat) (x0 x1 x2 x4 : Option Val) :
    ∃ S2, S2 = (⟨B ++ [.lst (L.map fun i => vi (i : Nat))], es⟩ : Sto) ∧ forD (fun _ => True) (gVar 8) bGr (rngL 0 ps.length) [x0, x1, x2, some (.im (ptsD ps)), x4, some (.im (endsD e ps)), some (.ref B.length), some (vi 0), none, none, none] ⟨B ++ [.lst []], es⟩ = .ok (.nx [x0, x1, x2, some (.im (ptsD ps)), x4, some (.im (endsD e ps)), some (.ref B.length), some (vi ps.length), none, none, none]) S2 := by
  obtain ⟨e', S2, hr, c, at', L', rfl, rfl, hl, hle, hg, hc, hcl⟩ := for_ok (gd := fun _ => True) (g := gVar 8) (f := bGr) (fun _ => trivial)
    (fun j env S => ∃ (c : List Nat) (a : Nat) (L' : List Nat), S = ⟨B ++ [.lst (c.map fun i => vi (i : Nat))], es⟩ ∧ env = [x0, x1, x2, some (.im (ptsD ps)), x4, some (.im (endsD e ps)), some (.ref B.length), some (vi a), none, none, none] ∧ a ≤ ps.length ∧ min j ps.length ≤ a ∧ IsG e ps a L' ∧ c ++ L' = L ∧ c.length ≤ j)
    (rngL 0 ps.length) [x0, x1, x2, some (.im (ptsD ps)), x4, some (.im (endsD e ps)), some (.ref B.length), some (vi (0 : Nat)), none, none, none] ⟨B ++ [.lst []], es⟩ ⟨[], 0, L, rfl, rfl, by omega, by omega, hL, rfl, by simp⟩ (by
      rintro j x env S hx ⟨c, a, L', rfl, rfl, ha, hj, hg, hc, hcl⟩
      obtain ⟨hjn, rfl⟩ := rngL_get hx
      by_cases h : a < ps.length
      · obtain ⟨r, rfl, hg2⟩ := hg.inv h
        have c1 : ((a : Int) < (ps.length : Int)) := by omega
        have ap := app1 B (c.map fun i => vi (i : Nat)) es (.int a) (by rw [List.length_map, sizeLine_eq]; omega)
        obtain ⟨e1, e2, _, _⟩ := isE (e := e) h
        refine ⟨_, _, ?_, c ++ [a], a + Eo e ps a, r, rfl, rfl, by omega, by omega, hg2, by simpa using hc, by simp; omega⟩
        have il : isLst (.ref B.length) ⟨B ++ [.lst (c.map fun i => vi (i : Nat))], es⟩ = true := by unfold isLst; simp only [List.getElem?_concat_length]
        simp only [bGr, q_gvar, R.bind_ok, List.set_cons_zero, List.set_cons_succ, q_kill, q_sif, q_asB, q_2, q_var, List.getElem?_cons_zero, List.getElem?_cons_succ, q_call, q_cons, q_nil, pts_len, ltD, q_cmp, c1, decide_true, if_true, q_seq, q_expr, q_M, il, ap, q_asg, ends_at h, q_add, q_killE0, q_killE1, List.map_append, List.map_cons, List.map_nil]
        rfl
      · have c1 : ¬ ((a : Int) < (ps.length : Int)) := by omega
        refine ⟨_, _, ?_, c, a, L', rfl, rfl, ha, by omega, hg, hc, by omega⟩
        simp only [bGr, q_gvar, R.bind_ok, List.set_cons_zero, List.set_cons_succ, q_kill, q_sif, q_asB, q_2, q_var, List.getElem?_cons_zero, List.getElem?_cons_succ, q_call, q_cons, q_nil, pts_len, ltD, q_cmp, c1, decide_false, Bool.false_eq_true, if_false, q_next, q_killE0, q_killE1])
  rw [rngL_length] at hle
  have ea : at' = ps.length := by omega
  subst ea
  have := hg.last
  subst this
  rw [List.append_nil] at hc
  subst hc
  exact ⟨_, rfl, hr⟩
end
end
end MP
set_option Elab.async false
set_option linter.all false
set_option maxRecDepth 100000
namespace MP
open PySem PySem.Spec L2
noncomputable section
open Classical
/-! Q14: the counting loop and the law -/
theorem rngC_length (lo c : Int) (n : Nat) : (rngC lo c n).length = n := by simp [rngC]
theorem rngC_get' {lo c : Int} {n i : Nat} {x : Val} (e : (rngC lo c n)[i]? = some x) : i < n ∧ x = vi (lo + (i : Int) * c) := by
  have h : i < n := by
    have := (List.getElem?_eq_some_iff.mp e).1
    rwa [rngC_length] at this
  refine ⟨h, ?_⟩
  unfold rngC at e
  rw [List.getElem?_map, List.getElem?_range h] at e
  simp at e
  exact e.symm
section
variable {ps : List Pt} {e : Rat}
def bDp : EvS := (sAsg (ev2 addD (evC (.int 1)) (evCall minLD (evCons (evSlc false (evVar 9) (evSome (ev2 addD (evVar 7) (evC (.int 1)))) (evSome (ev2 addD (ev2 addD (evVar 7) (ev2 idxD (evVar 5) (evVar 7))) (evC (.int 1))))) evNil))) (gIt (evVar 9) (evVar 7)))
theorem dp_step {a : Nat} (ha : a < ps.length) (few : ps.length ≤ 14) {cs : List Int} (hlen : cs.length = ps.length + 1) (hC : IsC e ps (fun k => cs.getD k 0) (a + 1)) (B : List Obj) (es : List Nat) (x0 x1 x2 x3 x4 x6 x7 x8 x10 : Option Val) :
    ∃ cs' : List Int, cs'.length = ps.length + 1 ∧ IsC e ps (fun k => cs'.getD k 0) a ∧ (gVar 7 (vi a) [x0, x1, x2, x3, x4, some (.im (endsD e ps)), x6, x7, x8, some (.ref B.length), x10] ⟨B ++ [.lst (cs.map fun i => vi i)], es⟩).bind bDp = .ok (.nx [x0, x1, x2, x3, x4, some (.im (endsD e ps)), x6, some (vi a), x8, some (.ref B.length), x10]) ⟨B ++ [.lst (cs'.map fun i => vi i)], es⟩ := by
  obtain ⟨e1, e2, _, _⟩ := isE (e := e) ha
  have hsl : ∃ n r, (cs.drop (a + 1)).take (Eo e ps a) = n :: r := by
    cases h : (cs.drop (a + 1)).take (Eo e ps a) with
    | nil =>
      have := congrArg List.length h
      rw [List.length_take, List.length_drop] at this
      simp only [List.length_nil] at this
      omega
    | cons n r => exact ⟨n, r, rfl⟩
  obtain ⟨n, r, hnr⟩ := hsl
  have le := leastI_le r n
  have mem : ∀ y, y ∈ n :: r ↔ ∃ m, 1 ≤ m ∧ m ≤ Eo e ps a ∧ y = cs.getD (a + m) 0 := by
    intro y
    rw [← hnr, List.mem_iff_getElem?]
    constructor
    · rintro ⟨i, hi⟩
      rw [List.getElem?_take] at hi
      split at hi
      · rw [List.getElem?_drop] at hi
        refine ⟨i + 1, by omega, by omega, ?_⟩
        rw [show a + (i + 1) = a + 1 + i by omega, List.getD_eq_getElem?_getD, hi]
        rfl
      · cases hi
    · rintro ⟨m, h1, h2, rfl⟩
      refine ⟨m - 1, ?_⟩
      rw [List.getElem?_take, if_pos (by omega), List.getElem?_drop, show a + 1 + (m - 1) = a + m by omega, List.getD_eq_getElem?_getD, List.getElem?_eq_getElem (by omega)]
      rfl
  have lmem : leastI n r ∈ n :: r := by
    rcases le.2.2 with q | q
    · rw [q]; exact List.mem_cons_self
    · exact List.mem_cons_of_mem _ q
  have lle : ∀ y ∈ n :: r, leastI n r ≤ y := by
    intro y hy
    rcases List.mem_cons.mp hy with rfl | hy
    · exact le.1
    · exact le.2.1 y hy
  let cs' : List Int := cs.set a (1 + leastI n r)
  have g1 : ∀ k, k ≠ a → cs'.getD k 0 = cs.getD k 0 := fun k hk => by
    rw [List.getD_eq_getElem?_getD, List.getElem?_set_ne (by omega), List.getD_eq_getElem?_getD]
  have g2 : cs'.getD a 0 = 1 + leastI n r := by
    rw [List.getD_eq_getElem?_getD, List.getElem?_set_self (by omega)]
    rfl
  refine ⟨cs', by simp [cs', hlen], ⟨?_, ?_, ?_⟩, ?_⟩
  · show cs'.getD ps.length 0 = 0
    rw [g1 _ (by omega)]
    exact hC.last
  · intro k h1 h2 m m1 m2
    show cs'.getD k 0 ≤ 1 + cs'.getD (k + m) 0
    rw [g1 (k + m) (by omega)]
    by_cases hk : k = a
    · subst hk
      rw [g2]
      have := lle _ ((mem _).mpr ⟨m, m1, m2, rfl⟩)
      omega
    · rw [g1 k hk]
      exact hC.low k (by omega) h2 m m1 m2
  · intro k h1 h2
    show ∃ m, 1 ≤ m ∧ m ≤ Eo e ps k ∧ cs'.getD k 0 = 1 + cs'.getD (k + m) 0
    by_cases hk : k = a
    · subst hk
      obtain ⟨m, m1, m2, hm⟩ := (mem _).mp lmem
      refine ⟨m, m1, m2, ?_⟩
      rw [g2, g1 (k + m) (by omega), ← hm]
    · obtain ⟨m, m1, m2, hm⟩ := hC.at' k (by omega) h2
      refine ⟨m, m1, m2, ?_⟩
      rw [g1 k hk, g1 (k + m) (by omega)]
      exact hm
  · let S : Sto := ⟨B ++ [.lst (cs.map fun i => vi i)], es⟩
    have sq : seqL S (.ref B.length) = some (cs.map fun i => vi i) := by unfold seqL; simp only [S, List.getElem?_concat_length]
    have allm : ∀ l : List Int, allIm (l.map fun i => vi i) = some (l.map fun i => PyData.int i) := fun l => by
      have := allIm_ims (l.map fun i => PyData.int i)
      rwa [List.map_map] at this
    have sl : slcD false (.ref B.length) (some ((a + 1 : Nat) : Int)) (some ((a + 1 + Eo e ps a : Nat) : Int)) S = .ok (.im (.list ((n :: r).map fun i => PyData.int i))) S := by
      show (match seqL S (.ref B.length) with | some xs => newL false (cut xs _ _) S | none => .bad) = _
      rw [sq]
      show newL false (cut (cs.map fun i => vi i) _ _) S = _
      rw [cut_seg _ _ _ (by rw [List.length_map]; omega), ← List.map_drop, ← List.map_take, hnr]
      show (match allIm ((n :: r).map fun i => vi i) with | some ds => R.ok (Val.im (.list ds)) S | none => .bad) = _
      rw [allm]
    have mn : minLD [.im (.list ((n :: r).map fun i => PyData.int i))] S = .ok (vi (leastI n r)) S := by
      show (match allInt (((n :: r).map fun i => PyData.int i).map Val.im) with | some (n :: r) => R.ok (Val.im (.int (leastI n r))) S | _ => .bad) = _
      have : ((n :: r).map fun i => PyData.int i).map Val.im = (n :: r).map fun i => Val.im (.int i) := by rw [List.map_map]; rfl
      rw [this, allInt_map]
    have st : setItD (.ref B.length) (vi a) (vi (1 + leastI n r)) S = .ok () ⟨B ++ [.lst (cs'.map fun i => vi i)], es⟩ := by
      unfold setItD
      simp only [S, List.getElem?_concat_length]
      have ix : ixN (cs.map fun i => vi i).length (a : Int) = some a := by
        unfold ixN
        rw [if_pos (by omega), if_pos (by rw [List.length_map]; omega)]
        rfl
      rw [ix]
      show R.ok () (putO _ _ _ _) = _
      simp [putO, Val.isRef, cs', List.map_set]
    have ev1 : ((a : Int) + 1) = ((a + 1 : Nat) : Int) := by omega
    have ev2 : ((a : Int) + (Eo e ps a : Int) + 1) = ((a + 1 + Eo e ps a : Nat) : Int) := by omega
    show (gVar 7 (vi a) _ S).bind bDp = _
    simp only [bDp, q_gvar, R.bind_ok, List.set_cons_zero, List.set_cons_succ, q_asg, q_2, q_c, q_call, q_cons, q_nil, q_slc, q_some, q_var, List.getElem?_cons_zero, List.getElem?_cons_succ, q_add, ends_at ha, ev1, ev2, sl, mn, q_git, st]
theorem dp_loop (few : ps.length ≤ 14) (h0 : 0 < ps.length) {L : List Nat} (hL : IsG e ps 0 L) (B : List Obj) (es : List Nat) (x0 x1 x2 x3 x4 x6 x7 x8 x10 : Option Val) :
    ∃ (cs : List Int) (S2 : Sto) (x : Option Val), S2 = (⟨B ++ [.lst (cs.map fun i => vi i)], es⟩ : Sto) ∧ cs[0]? = some (L.length : Int) ∧ forD (fun _ => True) (gVar 7) bDp (rngC ((ps.length : Int) - 1) (-1) ps.length) [x0, x1, x2, x3, x4, some (.im (endsD e ps)), x6, x7, x8, some (.ref B.length), x10] ⟨B ++ [.lst ((List.replicate (ps.length + 1) (0 : Int)).map fun i => vi i)], es⟩ = .ok (.nx [x0, x1, x2, x3, x4, some (.im (endsD e ps)), x6, x, x8, some (.ref B.length), x10]) S2 := by
  obtain ⟨e', S2, hr, cs, x, rfl, rfl, hlen, hC⟩ := for_ok (gd := fun _ => True) (g := gVar 7) (f := bDp) (fun _ => trivial)
    (fun j env S => ∃ (cs : List Int) (x : Option Val), S = ⟨B ++ [.lst (cs.map fun i => vi i)], es⟩ ∧ env = [x0, x1, x2, x3, x4, some (.im (endsD e ps)), x6, x, x8, some (.ref B.length), x10] ∧ cs.length = ps.length + 1 ∧ IsC e ps (fun k => cs.getD k 0) (ps.length - j))
    (rngC ((ps.length : Int) - 1) (-1) ps.length) [x0, x1, x2, x3, x4, some (.im (endsD e ps)), x6, x7, x8, some (.ref B.length), x10] ⟨B ++ [.lst ((List.replicate (ps.length + 1) (0 : Int)).map fun i => vi i)], es⟩ ⟨_, x7, rfl, rfl, by simp, ⟨by
      show (List.replicate (ps.length + 1) (0 : Int)).getD ps.length 0 = 0
      rw [List.getD_eq_getElem?_getD, List.getElem?_replicate, if_pos (by omega)]
      rfl, fun k h1 h2 => by omega, fun k h1 h2 => by omega⟩⟩ (by
      rintro j y env S hx ⟨cs, x, rfl, rfl, hlen, hC⟩
      obtain ⟨hj, rfl⟩ := rngC_get' hx
      have ea : ((ps.length : Int) - 1 + (j : Int) * -1) = ((ps.length - 1 - j : Nat) : Int) := by omega
      rw [ea]
      obtain ⟨cs', l', hC', hr⟩ := dp_step (a := ps.length - 1 - j) (by omega) few hlen (by rw [show ps.length - 1 - j + 1 = ps.length - j by omega]; exact hC) B es x0 x1 x2 x3 x4 x6 x x8 x10
      exact ⟨_, _, hr, cs', _, rfl, rfl, l', by rw [show ps.length - (j + 1) = ps.length - 1 - j by omega]; exact hC'⟩)
  rw [rngC_length, Nat.sub_self] at hC
  refine ⟨cs, _, x, rfl, ?_, hr⟩
  have hg := hC.greedy hL (Nat.le_refl _)
  have hg' : cs.getD 0 0 = (L.length : Int) := hg
  rw [List.getD_eq_getElem?_getD, List.getElem?_eq_getElem (by omega)] at hg'
  rw [List.getElem?_eq_getElem (by omega)]
  exact congrArg some hg'
end
end
end MP
set_option Elab.async false
set_option linter.all false
set_option maxRecDepth 100000
namespace MP
open PySem PySem.Spec L2
noncomputable section
open Classical
/-! Q15: the whole law -/
theorem same_want (L : List Nat) (few : L.length ≤ 14) (S : Sto) : F.f_law_same 6 [.im (.tuple [cutsD L, cutsD L]), .im (.tuple [cutsD L, cutsD L])] S = .ok (vb true) S := by
  have c : ∀ S, F.f_law_same 5 [.im (cutsD L), .im (cutsD L)] S = .ok (vb true) S := fun S => by
    refine same_tup 4 _ (by simp) (fun d hd S => ?_) S
    simp only [List.mem_cons, List.not_mem_nil, or_false] at hd
    rcases hd with rfl | rfl
    · exact same_int 3 _ S
    · refine same_tup 3 _ (by rw [List.length_map]; omega) (fun d hd S => ?_) S
      obtain ⟨i, _, rfl⟩ := List.mem_map.mp hd
      exact same_int 2 _ S
  refine same_tup 5 _ (by simp) (fun d hd S => ?_) S
  simp only [List.mem_cons, List.not_mem_nil, or_false, or_self] at hd
  subst hd
  exact c S
theorem IsG.len {e : Rat} {ps : List Pt} {k : Nat} {L : List Nat} (g : IsG e ps k L) : L.length + k ≤ ps.length := by
  induction g with
  | nil => simp
  | @cons k l h g ih =>
    obtain ⟨e1, e2, _, _⟩ := isE (e := e) h
    rw [List.length_cons]
    omega
def gSc : EvG := gTupD 2 (gsCons (gVar 3) (gsCons (gVar 4) gsNil))
def bLaw : EvS := (sKill [2, 3, 4, 5, 6, 7, 9, 10] (sSeq (sAsg (evFn F.f_law_scene (evCons (evVar 1) evNil)) (gTupD 2 (gsCons (gVar 3) (gsCons (gVar 4) gsNil)))) (sSeq (sPar3 5 6 7 (evCons (evFn F.f_law_ends (evCons (evVar 3) (evCons (evVar 4) evNil))) (evCons (evLst true evNil) (evCons (evC (.int 0)) evNil)))) (sSeq (sKill [8] (sFor (iRng rng1 (evCons (evCall lenD (evCons (evVar 3) evNil)) evNil)) (gVar 8) bGr)) (sSeq (sAsg (evRep true (evCons (evC (.int 0)) evNil) (ev2 addD (evCall lenD (evCons (evVar 3) evNil)) (evC (.int 1)))) (gVar 9)) (sSeq (sFor (iRng rng3 (evCons (ev2 subD (evCall lenD (evCons (evVar 3) evNil)) (evC (.int 1))) (evCons (ev1 negD (evC (.int 1))) (evCons (ev1 negD (evC (.int 1))) evNil)))) (gVar 7) bDp) (sSeq (sIf (asB (ev2 (eqD true) (ev2 idxD (evVar 9) (evC (.int 0))) (evCall lenD (evCons (evVar 6) evNil)))) (sRet (evC (.bool false))) (sNext)) (sSeq (sAsg (evTup (evCons (evCall lenD (evCons (evVar 6) evNil)) (evCons (evCall tupD (evCons (evVar 6) evNil)) evNil))) (gVar 10)) (sIf (evNot (evTru (evFn (F.f_law_same 6) (evCons (evTup (evCons (evFn F.fstabbed (evCons (evVar 3) (evCons (evVar 4) evNil))) (evCons (evFnK F.fstabbed [1, 0] 2 (evCons (evVar 4) (evCons (evVar 3) evNil))) evNil))) (evCons (evTup (evCons (evVar 10) (evCons (evVar 10) evNil))) evNil))))) (sRet (evC (.bool false))) (sNext))))))))))
theorem repD_ok {mu : Bool} {xs : List Val} {k : Int} (S : Sto) (h1 : -(2 ^ 63) ≤ k) (h2 : k < 2 ^ 63) (h3 : xs.length * k.toNat ≤ sizeLine) : repD mu xs (.im (.int k)) S = newL mu (List.replicate k.toNat xs).flatten S := if_pos ⟨h1, h2, h3⟩
theorem rep_ok {ps : List Pt} (few : ps.length ≤ 14) (B : List Obj) (es : List Nat) : repD true [.im (.int 0)] (.im (.int ((ps.length : Int) + 1))) ⟨B, es⟩ = .ok (.ref B.length) ⟨B ++ [.lst ((List.replicate (ps.length + 1) (0 : Int)).map fun i => vi i)], es⟩ := by
  have fl : ∀ k : Nat, (List.replicate k [Val.im (.int 0)]).flatten = (List.replicate k (0 : Int)).map fun i => vi i := by
    intro k
    induction k with
    | zero => rfl
    | succ k ih => rw [List.replicate_succ, List.flatten_cons, ih, List.replicate_succ]; rfl
  have h3 : [Val.im (.int 0)].length * ((ps.length : Int) + 1).toNat ≤ sizeLine := by
    rw [List.length_singleton, Nat.one_mul, sizeLine_eq]; omega
  rw [repD_ok _ (by omega) (by omega) h3, fl, show ((ps.length : Int) + 1).toNat = ps.length + 1 by omega]
  simp only [newL, if_true]
theorem rng3_ok {ps : List Pt} (few : ps.length ≤ 14) (S : Sto) : rng3 [.im (.int ((ps.length : Int) - 1)), .im (.int (-1)), .im (.int (-1))] S = .ok (rngC ((ps.length : Int) - 1) (-1) ps.length, fun _ => True) S := by
  rw [q_rng3 _ _ _ (by unfold SmallI; omega) (by unfold SmallI; omega)]
  rw [show ((ps.length : Int) - 1 - -1).toNat = ps.length by omega]
theorem rep_step {mu : Bool} {ga : EvA} {fb : EvE} {env : Env} {S S' : Sto} {v : Val} {xs : List Val} {k : Int} (h1 : ga env S = .ok xs S) (h2 : xs.length ≤ sizeLine) (h3 : fb env S = .ok (vi k) S) (h4 : repD mu xs (vi k) S = .ok v S') : evRep mu ga fb env S = .ok v S' := by
  rw [q_rep, h1, R.bind_ok, if_pos h2, h3, R.bind_ok, h4]
theorem asg9 {a : EvE} {x0 x1 x2 x3 x4 x5 x6 x7 x8 x9 x10 : Option Val} {v : Val} {S S' : Sto} (h : a [x0, x1, x2, x3, x4, x5, x6, x7, x8, x9, x10] S = .ok v S') : sAsg a (gVar 9) [x0, x1, x2, x3, x4, x5, x6, x7, x8, x9, x10] S = .ok (.nx [x0, x1, x2, x3, x4, x5, x6, x7, x8, some v, x10]) S' := by
  rw [q_asg, h]; rfl
theorem for_step {rg : List Val → Sto → R (List Val × (Sto → Prop))} {ga : EvA} {g : EvG} {f : EvS} {env : Env} {S : Sto} {ds xs : List Val} {gd : Sto → Prop} {r : R Fl} (h1 : ga env S = .ok ds S) (h2 : rg ds S = .ok (xs, gd) S) (h3 : forD gd g f xs env S = r) : sFor (iRng rg ga) g f env S = r := by
  rw [q_for, q_irng, h1, R.bind_ok, h2, R.bind_ok, h3]
theorem law_step {ns : List Int} (x : Val) (x0 : Option Val) {S : Sto} (t : Tp ns 0 S) : ∃ S', (gVar 2 x [x0, some (.ref 0), none, none, none, none, none, none, none, none, none] S).bind bLaw = .ok (.nx [x0, some (.ref 0), none, none, none, none, none, none, none, none, none]) S' ∧ Tp ns 0 S' := by
  obtain ⟨ps, w, S1, e1, st1, pk, bw⟩ := scene_ok t
  have pb := pk.pb
  have few := pk.few
  have h0 := pk.some
  have en := ends_ok pb bw S1
  have ew : w + w = 2 * w := by grind
  rw [ew] at en
  obtain ⟨L, hL⟩ := exG (2 * w) ps ps.length 0 (Nat.zero_add _)
  have fewL : L.length ≤ 14 := by have := hL.len; omega
  have sm : SmallI (ps.length : Int) := by unfold SmallI; omega
  obtain ⟨S2, hS2, h2⟩ := gr_loop few hL S1.objs S1.esc x0 (some (.ref 0)) (some x) (some (fr w))
  let B : List Obj := S1.objs ++ [.lst (L.map fun i => vi (i : Nat))]
  obtain ⟨cs, S3, y, hS3, hc0, h3⟩ := dp_loop few h0 hL B S1.esc x0 (some (.ref 0)) (some x) (some (.im (ptsD ps))) (some (fr w)) (some (.ref S1.objs.length)) (some (vi ps.length)) none none
  have S3e : S3.objs = S1.objs ++ [.lst (L.map fun i => vi (i : Nat)), .lst (cs.map fun i => vi i)] := by rw [hS3]; simp [B]
  have lB : B.length = S1.objs.length + 1 := by simp [B]
  have o1 : S3.objs[S1.objs.length]? = some (.lst (L.map fun i => vi (i : Nat))) := by rw [S3e]; simp
  have o2 : S3.objs[B.length]? = some (.lst (cs.map fun i => vi i)) := by rw [hS3]; simp
  have ix0 : idxD (.ref B.length) (.im (.int 0)) S3 = .ok (vi L.length) S3 := by
    unfold idxD
    have : seqD S3 (.ref B.length) = some (cs.map fun i => vi i) := by unfold seqD; simp only [o2]
    simp only [this]
    have a0 : atI (cs.map fun i => vi i) 0 = some (vi L.length) := atI_nat (j := 0) (by rw [List.getElem?_map, hc0]; rfl)
    rw [a0]
  have ln : lenD [.ref S1.objs.length] S3 = .ok (vi L.length) S3 := by
    unfold lenD; simp only [o1, List.length_map]
  have al2 : allIm (L.map fun i => vi (i : Nat)) = some (L.map fun i => PyData.int (i : Nat)) := by
    have := allIm_ims (L.map fun i => PyData.int (i : Nat))
    rwa [List.map_map] at this
  have tp : tupD [.ref S1.objs.length] S3 = .ok (.im (.tuple (L.map fun i => PyData.int (i : Nat)))) S3 := by
    unfold tupD; simp only [o1, al2]
  have sb := stabbed_ok pb h0 bw hL S3
  have sw := same_want L fewL S3
  have t3 : Tp ns 0 S3 := by
    obtain ⟨c, hc⟩ := st1.tp
    exact ⟨c, by rw [S3e, List.getElem?_append_left st1.tp.lt]; exact hc⟩
  refine ⟨S3, ?_, t3⟩
  have rp : repD true [.im (.int 0)] (.im (.int ((ps.length : Int) + 1))) S2 = .ok (.ref B.length) ⟨B ++ [.lst ((List.replicate (ps.length + 1) (0 : Int)).map fun i => vi i)], S1.esc⟩ := by
    rw [hS2]
    exact rep_ok few B S1.esc
  have scn : gTupD 2 (gsCons (gVar 3) (gsCons (gVar 4) gsNil)) (.im (.tuple [ptsD ps, frD w])) [x0, some (.ref 0), some x, none, none, none, none, none, none, none, none] S1 = .ok [x0, some (.ref 0), some x, some (.im (ptsD ps)), some (fr w), none, none, none, none, none, none] S1 := rfl
  have r3 := rng3_ok few ⟨B ++ [.lst ((List.replicate (ps.length + 1) (0 : Int)).map fun i => vi i)], S1.esc⟩
  have en' : F.f_law_ends [.im (ptsD ps), fr w] S1 = .ok (.im (endsD (2 * w) ps)) S1 := en
  have pm : permL [1, 0] [fr w, .im (ptsD ps)] = [.im (ptsD ps), fr w] := rfl
  have sc6 : ∀ S, F.f_law_same 6 [.im (.tuple [cutsD L, cutsD L]), .im (.tuple [cutsD L, cutsD L])] S = .ok (vb true) S := same_want L fewL
  have wt : Val.im (.tuple [.int L.length, .tuple (L.map fun i => PyData.int (i : Nat))]) = .im (cutsD L) := rfl
  have g0 : gVar 2 x [x0, some (.ref 0), none, none, none, none, none, none, none, none, none] S = .ok [x0, some (.ref 0), some x, none, none, none, none, none, none, none, none] S := rfl
  rw [g0, R.bind_ok]
  have s1 : sAsg (evFn F.f_law_scene (evCons (evVar 1) evNil)) (gTupD 2 (gsCons (gVar 3) (gsCons (gVar 4) gsNil))) [x0, some (.ref 0), some x, none, none, none, none, none, none, none, none] S = .ok (.nx [x0, some (.ref 0), some x, some (.im (ptsD ps)), some (fr w), none, none, none, none, none, none]) S1 := by
    simp only [q_asg, q_fn, q_cons, q_nil, q_var, List.getElem?_cons_zero, List.getElem?_cons_succ, R.bind_ok, e1, q_noX_ok, scn]
  have s2 : sPar3 5 6 7 (evCons (evFn F.f_law_ends (evCons (evVar 3) (evCons (evVar 4) evNil))) (evCons (evLst true evNil) (evCons (evC (.int 0)) evNil))) [x0, some (.ref 0), some x, some (.im (ptsD ps)), some (fr w), none, none, none, none, none, none] S1 = .ok (.nx [x0, some (.ref 0), some x, some (.im (ptsD ps)), some (fr w), some (.im (endsD (2 * w) ps)), some (.ref S1.objs.length), some (vi 0), none, none, none]) ⟨S1.objs ++ [.lst []], S1.esc⟩ := by
    simp only [q_par3, q_fn, q_cons, q_nil, q_var, List.getElem?_cons_zero, List.getElem?_cons_succ, R.bind_ok, en', q_noX_ok, q_lst, List.length_nil, q_line0, if_true, newL, q_c, List.set_cons_zero, List.set_cons_succ]
  have s3 : sKill [8] (sFor (iRng rng1 (evCons (evCall lenD (evCons (evVar 3) evNil)) evNil)) (gVar 8) bGr) [x0, some (.ref 0), some x, some (.im (ptsD ps)), some (fr w), some (.im (endsD (2 * w) ps)), some (.ref S1.objs.length), some (vi 0), none, none, none] ⟨S1.objs ++ [.lst []], S1.esc⟩ = .ok (.nx [x0, some (.ref 0), some x, some (.im (ptsD ps)), some (fr w), some (.im (endsD (2 * w) ps)), some (.ref S1.objs.length), some (vi ps.length), none, none, none]) S2 := by
    simp only [q_kill, q_for, q_irng, q_call, q_cons, q_nil, q_var, List.getElem?_cons_zero, List.getElem?_cons_succ, R.bind_ok, pts_len, q_rng1 _ _ sm, Int.toNat_natCast, h2, q_killE0, q_killE1, List.set_cons_zero, List.set_cons_succ]
  have s4 : sAsg (evRep true (evCons (evC (.int 0)) evNil) (ev2 addD (evCall lenD (evCons (evVar 3) evNil)) (evC (.int 1)))) (gVar 9) [x0, some (.ref 0), some x, some (.im (ptsD ps)), some (fr w), some (.im (endsD (2 * w) ps)), some (.ref S1.objs.length), some (vi ps.length), none, none, none] S2 = .ok (.nx [x0, some (.ref 0), some x, some (.im (ptsD ps)), some (fr w), some (.im (endsD (2 * w) ps)), some (.ref S1.objs.length), some (vi ps.length), none, some (.ref B.length), none]) ⟨B ++ [.lst ((List.replicate (ps.length + 1) (0 : Int)).map fun i => vi i)], S1.esc⟩ := by
    refine asg9 (rep_step (xs := [.im (.int 0)]) (k := (ps.length : Int) + 1) rfl q_line1 ?_ rp)
    simp only [q_2, q_call, q_cons, q_nil, q_var, List.getElem?_cons_zero, List.getElem?_cons_succ, R.bind_ok, pts_len, q_c, q_add]
  have s5 : sFor (iRng rng3 (evCons (ev2 subD (evCall lenD (evCons (evVar 3) evNil)) (evC (.int 1))) (evCons (ev1 negD (evC (.int 1))) (evCons (ev1 negD (evC (.int 1))) evNil)))) (gVar 7) bDp [x0, some (.ref 0), some x, some (.im (ptsD ps)), some (fr w), some (.im (endsD (2 * w) ps)), some (.ref S1.objs.length), some (vi ps.length), none, some (.ref B.length), none] ⟨B ++ [.lst ((List.replicate (ps.length + 1) (0 : Int)).map fun i => vi i)], S1.esc⟩ = .ok (.nx [x0, some (.ref 0), some x, some (.im (ptsD ps)), some (fr w), some (.im (endsD (2 * w) ps)), some (.ref S1.objs.length), y, none, some (.ref B.length), none]) S3 := by
    refine for_step (ds := [.im (.int ((ps.length : Int) - 1)), .im (.int (-1)), .im (.int (-1))]) ?_ r3 h3
    simp only [q_1, q_2, q_call, q_cons, q_nil, q_var, List.getElem?_cons_zero, List.getElem?_cons_succ, R.bind_ok, pts_len, q_c, q_sub, q_neg]
  have s6 : sIf (asB (ev2 (eqD true) (ev2 idxD (evVar 9) (evC (.int 0))) (evCall lenD (evCons (evVar 6) evNil)))) (sRet (evC (.bool false))) (sNext) [x0, some (.ref 0), some x, some (.im (ptsD ps)), some (fr w), some (.im (endsD (2 * w) ps)), some (.ref S1.objs.length), y, none, some (.ref B.length), none] S3 = .ok (.nx [x0, some (.ref 0), some x, some (.im (ptsD ps)), some (fr w), some (.im (endsD (2 * w) ps)), some (.ref S1.objs.length), y, none, some (.ref B.length), none]) S3 := by
    simp only [q_sif, q_asB, q_2, q_var, List.getElem?_cons_zero, List.getElem?_cons_succ, R.bind_ok, q_c, ix0, q_call, q_cons, q_nil, ln, q_ne, BEq.rfl, Bool.not_true, Bool.false_eq_true, if_false, q_next]
  have s7 : sAsg (evTup (evCons (evCall lenD (evCons (evVar 6) evNil)) (evCons (evCall tupD (evCons (evVar 6) evNil)) evNil))) (gVar 10) [x0, some (.ref 0), some x, some (.im (ptsD ps)), some (fr w), some (.im (endsD (2 * w) ps)), some (.ref S1.objs.length), y, none, some (.ref B.length), none] S3 = .ok (.nx [x0, some (.ref 0), some x, some (.im (ptsD ps)), some (fr w), some (.im (endsD (2 * w) ps)), some (.ref S1.objs.length), y, none, some (.ref B.length), some (.im (cutsD L))]) S3 := by
    simp only [q_asg, q_tup, q_call, q_cons, q_nil, q_var, List.getElem?_cons_zero, List.getElem?_cons_succ, R.bind_ok, ln, tp, q_allIm0, q_allIm1, Option.map_some, List.length_cons, List.length_nil, Nat.reduceAdd, q_line2, if_true, q_gvar, List.set_cons_zero, List.set_cons_succ, cutsD]
  have s8 : sIf (evNot (evTru (evFn (F.f_law_same 6) (evCons (evTup (evCons (evFn F.fstabbed (evCons (evVar 3) (evCons (evVar 4) evNil))) (evCons (evFnK F.fstabbed [1, 0] 2 (evCons (evVar 4) (evCons (evVar 3) evNil))) evNil))) (evCons (evTup (evCons (evVar 10) (evCons (evVar 10) evNil))) evNil))))) (sRet (evC (.bool false))) (sNext) [x0, some (.ref 0), some x, some (.im (ptsD ps)), some (fr w), some (.im (endsD (2 * w) ps)), some (.ref S1.objs.length), y, none, some (.ref B.length), some (.im (cutsD L))] S3 = .ok (.nx [x0, some (.ref 0), some x, some (.im (ptsD ps)), some (fr w), some (.im (endsD (2 * w) ps)), some (.ref S1.objs.length), y, none, some (.ref B.length), some (.im (cutsD L))]) S3 := by
    simp only [q_sif, q_not, q_tru, q_fn, q_cons, q_nil, q_tup, q_var, List.getElem?_cons_zero, List.getElem?_cons_succ, R.bind_ok, sb, q_noX_ok, q_fnK, List.length_cons, List.length_nil, Nat.reduceAdd, if_true, pm, q_allIm0, q_allIm1, Option.map_some, q_line2, sw, q_truB, Bool.not_true, Bool.false_eq_true, if_false, q_next]
  unfold bLaw
  rw [q_kill, seq_nx s1, seq_nx s2, seq_nx s3, seq_nx s4, seq_nx s5, seq_nx s6, seq_nx s7, s8]
  rfl
theorem tape_ok (ns : List Int) : ∃ es, F.f_law_tape [.im (.list (ns.map PyData.int))] ⟨[], []⟩ = .ok (.ref 0) ⟨[tpO ns ⟨0, 0, 0, 7, 0⟩], es⟩ := by
  refine ⟨[0], ?_⟩
  unfold F.f_law_tape
  have st : fnD stay 1 1 F.b_law_tape [.im (.list (ns.map PyData.int))] ⟨[], []⟩ = stay ⟨[], []⟩ (F.b_law_tape [some (.im (.list (ns.map PyData.int)))] ⟨[], []⟩) := if_pos rfl
  have ld : ∀ S, listD false [.im (.list (ns.map PyData.int))] S = .ok (.im (.list (ns.map PyData.int))) S := fun S => by
    show newL false ((ns.map PyData.int).map Val.im) S = _
    unfold newL
    rw [if_neg (by decide), allIm_ims]
  have body : F.b_law_tape [some (.im (.list (ns.map PyData.int)))] ⟨[], []⟩ = .ok (.rt (.ref 0)) ⟨[tpO ns ⟨0, 0, 0, 7, 0⟩], [0]⟩ := by
    unfold F.b_law_tape
    simp only [q_ret, evDisp, evPrs, q_call, q_cons, q_nil, q_var, List.getElem?_cons_zero, R.bind_ok, ld, q_c, List.nil_append, List.length_nil, List.length_cons, Nat.reduceAdd]
    rfl
  rw [st, body]
  rfl
theorem law_true (ns : List Int) : ∃ S', F.flaw [.im (.list (ns.map PyData.int))] ⟨[], []⟩ = .ok (.im (.bool true)) S' := by
  obtain ⟨es, te⟩ := tape_ok ns
  let x0 : Option Val := some (.im (.list (ns.map PyData.int)))
  obtain ⟨L, hL, hlen, _⟩ := rng_ex 2 (by unfold SmallI; omega)
  obtain ⟨e', S2, hr, rfl, t2⟩ := for_ok (gd := fun _ => True) (g := gVar 2) (f := bLaw) (fun _ => trivial) (fun _ env S => env = [x0, some (.ref 0), none, none, none, none, none, none, none, none, none] ∧ Tp ns 0 S) L [x0, some (.ref 0), none, none, none, none, none, none, none, none, none] ⟨[tpO ns ⟨0, 0, 0, 7, 0⟩], es⟩ ⟨rfl, ⟨_, rfl⟩⟩ (by
    rintro j x env S hx ⟨rfl, t⟩
    obtain ⟨S', h1, h2⟩ := law_step x x0 t
    exact ⟨_, S', h1, rfl, h2⟩)
  refine ⟨⟨S2.objs.take 0, []⟩, ?_⟩
  unfold F.flaw
  have st : fnD leave 1 11 F.blaw [.im (.list (ns.map PyData.int))] ⟨[], []⟩ = leave ⟨[], []⟩ (F.blaw [x0, none, none, none, none, none, none, none, none, none, none] ⟨[], []⟩) := if_pos rfl
  have body : F.blaw [x0, none, none, none, none, none, none, none, none, none, none] ⟨[], []⟩ = .ok (.rt (.im (.bool true))) S2 := by
    unfold F.blaw
    simp only [bLaw, bGr, bDp] at hr
    simp only [q_seq, q_asg, q_fn, q_cons, q_nil, q_var, x0, List.getElem?_cons_zero, R.bind_ok, te, q_noX_ok, q_gvar, List.set_cons_zero, List.set_cons_succ, q_kill, q_for, q_irng, q_c, hL] at hr ⊢
    simp only [hr, R.bind_ok, q_killE0, q_killE1, List.set_cons_zero, List.set_cons_succ, q_ret, q_c]
  rw [st, body]
  have tt : (S2.esc.all fun t => decide (([] : List Obj).length ≤ t)) = true := by
    rw [List.all_eq_true]
    intro t _
    exact decide_eq_true (Nat.zero_le _)
  simp only [leave, tt, if_true, Fl.out]
  rfl
end
end MP
set_option Elab.async false
set_option linter.all false
set_option maxRecDepth 100000
set_option maxHeartbeats 4000000
namespace Lk54
open PySem PySem.Spec PySem.Calls L2 MP
noncomputable section
def top (i : Nat) : Stmt := PySem.Challenge.pw_hingelayer_k54_whole_stabbed_stretches.main.body.getD i (.Pass ⟨0, 0, 0, 0⟩)
abbrev sdivisor : Stmt := top 1
def ddivisor : He.DefD := ⟨("divisor", none), "divisor", "divisor", defArgs sdivisor, defBody sdivisor, defScope sdivisor, [], []⟩
abbrev slowest : Stmt := top 3
def dlowest : He.DefD := ⟨("lowest", none), "lowest", "lowest", defArgs slowest, defBody slowest, defScope slowest, [], []⟩
abbrev splus : Stmt := top 4
def dplus : He.DefD := ⟨("plus", none), "plus", "plus", defArgs splus, defBody splus, defScope splus, [], []⟩
abbrev sminus : Stmt := top 5
def dminus : He.DefD := ⟨("minus", none), "minus", "minus", defArgs sminus, defBody sminus, defScope sminus, [], []⟩
abbrev sproduct : Stmt := top 6
def dproduct : He.DefD := ⟨("product", none), "product", "product", defArgs sproduct, defBody sproduct, defScope sproduct, [], []⟩
abbrev squotient : Stmt := top 7
def dquotient : He.DefD := ⟨("quotient", none), "quotient", "quotient", defArgs squotient, defBody squotient, defScope squotient, [], []⟩
abbrev sis_less : Stmt := top 8
def dis_less : He.DefD := ⟨("is_less", none), "is_less", "is_less", defArgs sis_less, defBody sis_less, defScope sis_less, [], []⟩
abbrev sStab___init__ : Stmt := inClass (top 10) 0
def dStab___init__ : He.DefD := ⟨("Stab", some "__init__"), "__init__", "Stab.__init__", defArgs sStab___init__, defBody sStab___init__, defScope sStab___init__, [], []⟩
abbrev sStab_takes : Stmt := inClass (top 10) 1
def dStab_takes : He.DefD := ⟨("Stab", some "takes"), "takes", "Stab.takes", defArgs sStab_takes, defBody sStab_takes, defScope sStab_takes, [], []⟩
abbrev sstabbed : Stmt := top 11
def dstabbed : He.DefD := ⟨("stabbed", none), "stabbed", "stabbed", defArgs sstabbed, defBody sstabbed, defScope sstabbed, [], []⟩
abbrev s_law_mixed : Stmt := top 13
def d_law_mixed : He.DefD := ⟨("_law_mixed", none), "_law_mixed", "_law_mixed", defArgs s_law_mixed, defBody s_law_mixed, defScope s_law_mixed, [], []⟩
abbrev s_law_tape : Stmt := top 14
def d_law_tape : He.DefD := ⟨("_law_tape", none), "_law_tape", "_law_tape", defArgs s_law_tape, defBody s_law_tape, defScope s_law_tape, [], []⟩
abbrev s_law_draw : Stmt := top 15
def d_law_draw : He.DefD := ⟨("_law_draw", none), "_law_draw", "_law_draw", defArgs s_law_draw, defBody s_law_draw, defScope s_law_draw, [], []⟩
abbrev s_law_same : Stmt := top 16
def d_law_same : He.DefD := ⟨("_law_same", none), "_law_same", "_law_same", defArgs s_law_same, defBody s_law_same, defScope s_law_same, [], []⟩
abbrev s_law_fr : Stmt := top 17
def d_law_fr : He.DefD := ⟨("_law_fr", none), "_law_fr", "_law_fr", defArgs s_law_fr, defBody s_law_fr, defScope s_law_fr, [], []⟩
abbrev s_law_plus : Stmt := top 18
def d_law_plus : He.DefD := ⟨("_law_plus", none), "_law_plus", "_law_plus", defArgs s_law_plus, defBody s_law_plus, defScope s_law_plus, [], []⟩
abbrev s_law_minus : Stmt := top 19
def d_law_minus : He.DefD := ⟨("_law_minus", none), "_law_minus", "_law_minus", defArgs s_law_minus, defBody s_law_minus, defScope s_law_minus, [], []⟩
abbrev s_law_of_both : Stmt := top 20
def d_law_of_both : He.DefD := ⟨("_law_of_both", none), "_law_of_both", "_law_of_both", defArgs s_law_of_both, defBody s_law_of_both, defScope s_law_of_both, [], []⟩
abbrev s_law_over : Stmt := top 21
def d_law_over : He.DefD := ⟨("_law_over", none), "_law_over", "_law_over", defArgs s_law_over, defBody s_law_over, defScope s_law_over, [], []⟩
abbrev s_law_less : Stmt := top 22
def d_law_less : He.DefD := ⟨("_law_less", none), "_law_less", "_law_less", defArgs s_law_less, defBody s_law_less, defScope s_law_less, [], []⟩
abbrev s_law_drawn : Stmt := top 23
def d_law_drawn : He.DefD := ⟨("_law_drawn", none), "_law_drawn", "_law_drawn", defArgs s_law_drawn, defBody s_law_drawn, defScope s_law_drawn, [], []⟩
abbrev s_law_scene : Stmt := top 24
def d_law_scene : He.DefD := ⟨("_law_scene", none), "_law_scene", "_law_scene", defArgs s_law_scene, defBody s_law_scene, defScope s_law_scene, [], []⟩
abbrev s_law_is_near : Stmt := top 25
def d_law_is_near : He.DefD := ⟨("_law_is_near", none), "_law_is_near", "_law_is_near", defArgs s_law_is_near, defBody s_law_is_near, defScope s_law_is_near, [], []⟩
abbrev s_law_ends : Stmt := top 26
def d_law_ends : He.DefD := ⟨("_law_ends", none), "_law_ends", "_law_ends", defArgs s_law_ends, defBody s_law_ends, defScope s_law_ends, [], []⟩
abbrev slaw : Stmt := top 27
def dlaw : He.DefD := ⟨("law", none), "law", "law", defArgs slaw, defBody slaw, defScope slaw, [], []⟩
def fn : List He.DefD := [ddivisor, dlowest, dplus, dminus, dproduct, dquotient, dis_less, dStab___init__, dStab_takes, dstabbed, d_law_mixed, d_law_tape, d_law_draw, d_law_same, d_law_fr, d_law_plus, d_law_minus, d_law_of_both, d_law_over, d_law_less, d_law_drawn, d_law_scene, d_law_is_near, d_law_ends, dlaw]
end
end Lk54
set_option Elab.async false
set_option linter.all false
set_option maxRecDepth 100000
set_option maxHeartbeats 4000000
namespace Lk54
open PySem PySem.Spec PySem.Calls L2 MP
noncomputable section
def fa : List He.Fa := [.free "abs", .glo "divisor", .glo "lowest", .glo "plus", .glo "product", .glo "minus", .glo "quotient", .glo "is_less", .cls "Stab", .meth "Stab" "takes", .mkr "Stab", .glo "Stab", .free "enumerate", .free "tuple", .free "len", .free "int", .free "list", .glo "_law_mixed", .free "isinstance", .glo "_law_same", .free "range", .free "str", .free "bool", .glo "_law_fr", .glo "_law_draw", .glo "_law_drawn", .glo "_law_of_both", .glo "_law_plus", .glo "_law_minus", .glo "_law_over", .glo "_law_less", .free "max", .glo "_law_is_near", .glo "_law_tape", .glo "_law_scene", .glo "_law_ends", .free "min", .glo "stabbed", .glo "law", .noat "Stab" "high", .noat "Stab" "low", .noat "Stab" "points", .noat "Stab" "wide"]
section
variable {P : Program} {w : World} {K : PySem.W.Frag} {mg : Str → Option Value} {base : Heap}
theorem kn_ok (E : Fc fa fn K mg) : Kn K F.kn := fun c f h => by
  unfold F.kn at h
  simp only [Bool.or_eq_true, Bool.and_eq_true, decide_eq_true_eq] at h
  rcases h with ((⟨rfl, rfl⟩ | ⟨rfl, rfl⟩) | ⟨rfl, rfl⟩) | ⟨rfl, rfl⟩
  · exact ⟨He.cls_ok (E.says.fact 8), He.noat_ok (E.says.fact 39)⟩
  · exact ⟨He.cls_ok (E.says.fact 8), He.noat_ok (E.says.fact 40)⟩
  · exact ⟨He.cls_ok (E.says.fact 8), He.noat_ok (E.says.fact 41)⟩
  · exact ⟨He.cls_ok (E.says.fact 8), He.noat_ok (E.says.fact 42)⟩
theorem scdivisor : FnScope ["one", "other"] ["one", "other"] (defScope sdivisor) := ⟨rfl, rfl, rfl, by decide +kernel, rfl, by decide +kernel, by decide +kernel⟩
theorem fdivisor_ok (E : Fc fa fn K mg) : OkF P w K mg base 1 ddivisor ["one", "other"] F.fdivisor := by
  refine okF (d := ddivisor) (N := ["one", "other"]) (ps := ["one", "other"]) (k := 0) (fb := F.bdivisor) leave_ok E 0 scdivisor (fun f cdv A outer s H XE hr => ?_) (fun _ _ _ _ _ _ us hl => match us, hl with | [_, _], _ => rfl)
  have sc := scdivisor
  have hr : Room 0 (cxq P w K mg base ["one", "other"] "divisor" (defScope sdivisor) f cdv A outer s H XE).A := hr
  change SSs (cxq P w K mg base ["one", "other"] "divisor" (defScope sdivisor) f cdv A outer s H XE) W0 (defBody sdivisor) F.bdivisor
  exact sss_cons (ss_par rfl sc.nd rfl rfl (by decide) rfl rfl (a2 (cb_ c_abs (E.z 0) bb_abs (a2 (v_ 0) sa_nil)) (a2 (cb_ c_abs (E.z 0) bb_abs (a2 (v_ 1) sa_nil)) sa_nil)) rfl rfl)
      (sss_cons (ss_while PassesOwn.never (st_tru (v_ 1) (fun _ => rfl)) (sss_one (ss_par rfl sc.nd rfl rfl (by decide) rfl rfl (a2 (v_ 1) (a2 (se_op o_mod (v_ 0) (v_ 1)) sa_nil)) rfl rfl)))
      (sss_one (ss_ret (v_ 0))))
theorem sclowest : FnScope ["above", "below", "by"] ["above", "below"] (defScope slowest) := ⟨rfl, rfl, rfl, by decide +kernel, rfl, by decide +kernel, by decide +kernel⟩
theorem flowest_ok (E : Fc fa fn K mg) : OkF P w K mg base 2 dlowest ["above", "below"] F.flowest := by
  refine okF (d := dlowest) (N := ["above", "below", "by"]) (ps := ["above", "below"]) (k := 1) (fb := F.blowest) leave_ok E 1 sclowest (fun f cdv A outer s H XE hr => ?_) (fun _ _ _ _ _ _ us hl => match us, hl with | [_, _], _ => rfl)
  have sc := sclowest
  have hr : Room 1 (cxq P w K mg base ["above", "below", "by"] "lowest" (defScope slowest) f cdv A outer s H XE).A := hr
  change SSs (cxq P w K mg base ["above", "below", "by"] "lowest" (defScope slowest) f cdv A outer s H XE) W0 (defBody slowest) F.blowest
  exact sss_cons (ss_asg (cf_ (fdivisor_ok E) hr (by decide) (E.g 1) (a2 (v_ 0) (a2 (v_ 1) sa_nil))) (sg_name sc.nd rfl (Or.inl rfl) (Or.inl rfl)) rfl rfl rfl)
      (sss_cons (ss_if (st_cmp o_lt (v_ 1) se_int (nomark _)) (sss_one (ss_asg (se_neg (v_ 2)) (sg_name sc.nd rfl (Or.inl rfl) (Or.inl rfl)) rfl rfl rfl)) sss_nil)
      (sss_one (ss_ret (se_tup (a2 (se_op o_fdiv (v_ 0) (v_ 2)) (a2 (se_op o_fdiv (v_ 1) (v_ 2)) sa_nil))))))
theorem scplus : FnScope ["one", "other"] ["one", "other"] (defScope splus) := ⟨rfl, rfl, rfl, by decide +kernel, rfl, by decide +kernel, by decide +kernel⟩
theorem fplus_ok (E : Fc fa fn K mg) : OkF P w K mg base 3 dplus ["one", "other"] F.fplus := by
  refine okF (d := dplus) (N := ["one", "other"]) (ps := ["one", "other"]) (k := 2) (fb := F.bplus) leave_ok E 2 scplus (fun f cdv A outer s H XE hr => ?_) (fun _ _ _ _ _ _ us hl => match us, hl with | [_, _], _ => rfl)
  have sc := scplus
  have hr : Room 2 (cxq P w K mg base ["one", "other"] "plus" (defScope splus) f cdv A outer s H XE).A := hr
  change SSs (cxq P w K mg base ["one", "other"] "plus" (defScope splus) f cdv A outer s H XE) W0 (defBody splus) F.bplus
  exact sss_cons (ss_if (st_cmp (o_eq (Room.units hr)) (se_idx (v_ 0) se_int (fun _ _ => rfl)) se_int (nomark _)) (sss_one (ss_ret (v_ 1))) sss_nil)
      (sss_cons (ss_if (st_cmp (o_eq (Room.units hr)) (se_idx (v_ 1) se_int (fun _ _ => rfl)) se_int (nomark _)) (sss_one (ss_ret (v_ 0))) sss_nil)
      (sss_one (ss_ret (cf_ (flowest_ok E) hr (by decide) (E.g 2) (a2 (se_op o_add (se_op o_mul (se_idx (v_ 0) se_int (fun _ _ => rfl)) (se_idx (v_ 1) se_int (fun _ _ => rfl))) (se_op o_mul (se_idx (v_ 1) se_int (fun _ _ => rfl)) (se_idx (v_ 0) se_int (fun _ _ => rfl)))) (a2 (se_op o_mul (se_idx (v_ 0) se_int (fun _ _ => rfl)) (se_idx (v_ 1) se_int (fun _ _ => rfl))) sa_nil))))))
theorem scminus : FnScope ["one", "other"] ["one", "other"] (defScope sminus) := ⟨rfl, rfl, rfl, by decide +kernel, rfl, by decide +kernel, by decide +kernel⟩
theorem fminus_ok (E : Fc fa fn K mg) : OkF P w K mg base 4 dminus ["one", "other"] F.fminus := by
  refine okF (d := dminus) (N := ["one", "other"]) (ps := ["one", "other"]) (k := 3) (fb := F.bminus) leave_ok E 3 scminus (fun f cdv A outer s H XE hr => ?_) (fun _ _ _ _ _ _ us hl => match us, hl with | [_, _], _ => rfl)
  have sc := scminus
  have hr : Room 3 (cxq P w K mg base ["one", "other"] "minus" (defScope sminus) f cdv A outer s H XE).A := hr
  change SSs (cxq P w K mg base ["one", "other"] "minus" (defScope sminus) f cdv A outer s H XE) W0 (defBody sminus) F.bminus
  exact sss_one (ss_ret (cf_ (fplus_ok E) hr (by decide) (E.g 3) (a2 (v_ 0) (a2 (se_tup (a2 (se_neg (se_idx (v_ 1) se_int (fun _ _ => rfl))) (a2 (se_idx (v_ 1) se_int (fun _ _ => rfl)) sa_nil))) sa_nil))))
theorem scproduct : FnScope ["one", "other"] ["one", "other"] (defScope sproduct) := ⟨rfl, rfl, rfl, by decide +kernel, rfl, by decide +kernel, by decide +kernel⟩
theorem fproduct_ok (E : Fc fa fn K mg) : OkF P w K mg base 3 dproduct ["one", "other"] F.fproduct := by
  refine okF (d := dproduct) (N := ["one", "other"]) (ps := ["one", "other"]) (k := 2) (fb := F.bproduct) leave_ok E 4 scproduct (fun f cdv A outer s H XE hr => ?_) (fun _ _ _ _ _ _ us hl => match us, hl with | [_, _], _ => rfl)
  have sc := scproduct
  have hr : Room 2 (cxq P w K mg base ["one", "other"] "product" (defScope sproduct) f cdv A outer s H XE).A := hr
  change SSs (cxq P w K mg base ["one", "other"] "product" (defScope sproduct) f cdv A outer s H XE) W0 (defBody sproduct) F.bproduct
  exact sss_one (ss_ret (cf_ (flowest_ok E) hr (by decide) (E.g 2) (a2 (se_op o_mul (se_idx (v_ 0) se_int (fun _ _ => rfl)) (se_idx (v_ 1) se_int (fun _ _ => rfl))) (a2 (se_op o_mul (se_idx (v_ 0) se_int (fun _ _ => rfl)) (se_idx (v_ 1) se_int (fun _ _ => rfl))) sa_nil))))
theorem scquotient : FnScope ["one", "other"] ["one", "other"] (defScope squotient) := ⟨rfl, rfl, rfl, by decide +kernel, rfl, by decide +kernel, by decide +kernel⟩
theorem fquotient_ok (E : Fc fa fn K mg) : OkF P w K mg base 3 dquotient ["one", "other"] F.fquotient := by
  refine okF (d := dquotient) (N := ["one", "other"]) (ps := ["one", "other"]) (k := 2) (fb := F.bquotient) leave_ok E 5 scquotient (fun f cdv A outer s H XE hr => ?_) (fun _ _ _ _ _ _ us hl => match us, hl with | [_, _], _ => rfl)
  have sc := scquotient
  have hr : Room 2 (cxq P w K mg base ["one", "other"] "quotient" (defScope squotient) f cdv A outer s H XE).A := hr
  change SSs (cxq P w K mg base ["one", "other"] "quotient" (defScope squotient) f cdv A outer s H XE) W0 (defBody squotient) F.bquotient
  exact sss_one (ss_ret (cf_ (flowest_ok E) hr (by decide) (E.g 2) (a2 (se_op o_mul (se_idx (v_ 0) se_int (fun _ _ => rfl)) (se_idx (v_ 1) se_int (fun _ _ => rfl))) (a2 (se_op o_mul (se_idx (v_ 0) se_int (fun _ _ => rfl)) (se_idx (v_ 1) se_int (fun _ _ => rfl))) sa_nil))))
theorem scis_less : FnScope ["one", "other"] ["one", "other"] (defScope sis_less) := ⟨rfl, rfl, rfl, by decide +kernel, rfl, by decide +kernel, by decide +kernel⟩
theorem fis_less_ok (E : Fc fa fn K mg) : OkF P w K mg base 1 dis_less ["one", "other"] F.fis_less := by
  refine okF (d := dis_less) (N := ["one", "other"]) (ps := ["one", "other"]) (k := 0) (fb := F.bis_less) leave_ok E 6 scis_less (fun f cdv A outer s H XE hr => ?_) (fun _ _ _ _ _ _ us hl => match us, hl with | [_, _], _ => rfl)
  have sc := scis_less
  have hr : Room 0 (cxq P w K mg base ["one", "other"] "is_less" (defScope sis_less) f cdv A outer s H XE).A := hr
  change SSs (cxq P w K mg base ["one", "other"] "is_less" (defScope sis_less) f cdv A outer s H XE) W0 (defBody sis_less) F.bis_less
  exact sss_one (ss_ret (se_cmp o_lt (se_op o_mul (se_idx (v_ 0) se_int (fun _ _ => rfl)) (se_idx (v_ 1) se_int (fun _ _ => rfl))) (se_op o_mul (se_idx (v_ 1) se_int (fun _ _ => rfl)) (se_idx (v_ 0) se_int (fun _ _ => rfl))) (nomark _)))
theorem scStab___init__ : FnScope ["self", "error"] ["self", "error"] (defScope sStab___init__) := ⟨rfl, rfl, rfl, by decide +kernel, rfl, by decide +kernel, by decide +kernel⟩
theorem fStab___init___ok (E : Fc fa fn K mg) : OkF P w K mg base 4 dStab___init__ ["self", "error"] F.fStab___init__ := by
  refine okF (d := dStab___init__) (N := ["self", "error"]) (ps := ["self", "error"]) (k := 3) (fb := F.bStab___init__) stay_ok E 7 scStab___init__ (fun f cdv A outer s H XE hr => ?_) (fun _ _ _ _ _ _ us hl => match us, hl with | [_, _], _ => rfl)
  have sc := scStab___init__
  have hr : Room 3 (cxq P w K mg base ["self", "error"] "Stab.__init__" (defScope sStab___init__) f cdv A outer s H XE).A := hr
  change SSs (cxq P w K mg base ["self", "error"] "Stab.__init__" (defScope sStab___init__) f cdv A outer s H XE) W0 (defBody sStab___init__) F.bStab___init__
  exact sss_cons (ss_asg (cf_ (fproduct_ok E) hr (by decide) (E.g 4) (a2 (se_tup (a2 se_int (a2 se_int sa_nil))) (a2 (v_ 1) sa_nil))) (sg_fld (kn_ok E) (v_ 0)) rfl rfl rfl)
      (sss_cons (ss_asg (se_lst sa_nil) (sg_fld (kn_ok E) (v_ 0)) rfl rfl rfl)
      (sss_one (ss_unp (a2 se_non (a2 se_non sa_nil)) (sgs_cons (sg_fld (kn_ok E) (v_ 0)) (sgs_cons (sg_fld (kn_ok E) (v_ 0)) sgs_nil rfl) rfl))))
theorem scStab_takes : FnScope ["self", "point", "low", "high", "x", "y", "width", "rise", "one", "two"] ["self", "point"] (defScope sStab_takes) := ⟨rfl, rfl, rfl, by decide +kernel, rfl, by decide +kernel, by decide +kernel⟩
theorem fStab_takes_ok (E : Fc fa fn K mg) : OkF P w K mg base 5 dStab_takes ["self", "point"] F.fStab_takes := by
  refine okF (d := dStab_takes) (N := ["self", "point", "low", "high", "x", "y", "width", "rise", "one", "two"]) (ps := ["self", "point"]) (k := 4) (fb := F.bStab_takes) leave_ok E 8 scStab_takes (fun f cdv A outer s H XE hr => ?_) (fun _ _ _ _ _ _ us hl => match us, hl with | [_, _], _ => rfl)
  have sc := scStab_takes
  have hr : Room 4 (cxq P w K mg base ["self", "point", "low", "high", "x", "y", "width", "rise", "one", "two"] "Stab.takes" (defScope sStab_takes) f cdv A outer s H XE).A := hr
  change SSs (cxq P w K mg base ["self", "point", "low", "high", "x", "y", "width", "rise", "one", "two"] "Stab.takes" (defScope sStab_takes) f cdv A outer s H XE) W0 (defBody sStab_takes) F.bStab_takes
  exact sss_cons (ss_par rfl sc.nd rfl rfl (by decide) rfl rfl (a2 (se_fld (kn_ok E) (v_ 0) rfl) (a2 (se_fld (kn_ok E) (v_ 0) rfl) sa_nil)) rfl rfl)
      (sss_cons (ss_kill [4, 5, 6, 7, 8, 9] (ss_for PassesOwn.never rfl (si_seq (se_fld (kn_ok E) (v_ 0) rfl)) (sg_tup rfl (sgs_cons (sg_name sc.nd rfl (Or.inl rfl) (Or.inl rfl)) (sgs_cons (sg_name sc.nd rfl (Or.inl rfl) (Or.inl rfl)) sgs_nil rfl) rfl) rfl rfl) (sss_kill [4, 5, 6, 7, 8, 9] (sss_cons (ss_par rfl sc.nd rfl rfl (by decide) rfl rfl (a2 (cf_ (fminus_ok E) hr (by decide) (E.g 5) (a2 (se_idx (v_ 1) se_int (fun _ _ => rfl)) (a2 (v_ 4) sa_nil))) (a2 (cf_ (fminus_ok E) hr (by decide) (E.g 5) (a2 (se_idx (v_ 1) se_int (fun _ _ => rfl)) (a2 (v_ 5) sa_nil))) sa_nil)) rfl rfl)
      (sss_cons (ss_par rfl sc.nd rfl rfl (by decide) rfl rfl (a2 (cf_ (fquotient_ok E) hr (by decide) (E.g 6) (a2 (cf_ (fminus_ok E) hr (by decide) (E.g 5) (a2 (v_ 7) (a2 (se_fld (kn_ok E) (v_ 0) rfl) sa_nil))) (a2 (v_ 6) sa_nil))) (a2 (cf_ (fquotient_ok E) hr (by decide) (E.g 6) (a2 (cf_ (fplus_ok E) hr (by decide) (E.g 3) (a2 (v_ 7) (a2 (se_fld (kn_ok E) (v_ 0) rfl) sa_nil))) (a2 (v_ 6) sa_nil))) sa_nil)) rfl rfl)
      (sss_cons (ss_asg (se_if (PW.pt (sw_or (st_cmp o_is (v_ 2) se_non (nomark _)) (sw_or1 (st_tru (cf_ (fis_less_ok E) hr (by decide) (E.g 7) (a2 (v_ 2) (a2 (v_ 8) sa_nil))) (fun _ => rfl))))) (v_ 8) (v_ 2)) (sg_name sc.nd rfl (Or.inl rfl) (Or.inl rfl)) rfl rfl rfl)
      (sss_one (ss_asg (se_if (PW.pt (sw_or (st_cmp o_is (v_ 3) se_non (nomark _)) (sw_or1 (st_tru (cf_ (fis_less_ok E) hr (by decide) (E.g 7) (a2 (v_ 9) (a2 (v_ 3) sa_nil))) (fun _ => rfl))))) (v_ 9) (v_ 3)) (sg_name sc.nd rfl (Or.inl rfl) (Or.inl rfl)) rfl rfl rfl)))))) (fun _ => rfl)))
      (sss_cons (ss_if (PW.pt (sw_and (st_cmp o_isnot (v_ 2) se_non (nomark _)) (sw_and1 (st_tru (cf_ (fis_less_ok E) hr (by decide) (E.g 7) (a2 (v_ 3) (a2 (v_ 2) sa_nil))) (fun _ => rfl))))) (sss_one (ss_ret se_bl)) sss_nil)
      (sss_cons (ss_unp (a2 (v_ 2) (a2 (v_ 3) sa_nil)) (sgs_cons (sg_fld (kn_ok E) (v_ 0)) (sgs_cons (sg_fld (kn_ok E) (v_ 0)) sgs_nil rfl) rfl))
      (sss_cons (ss_expr (mAppend (se_fld (kn_ok E) (v_ 0) rfl) (v_ 1)) rfl)
      (sss_one (ss_ret se_bl))))))
theorem scstabbed : FnScope ["points", "error", "cuts", "stab", "at", "point"] ["points", "error"] (defScope sstabbed) := ⟨rfl, rfl, rfl, by decide +kernel, rfl, by decide +kernel, by decide +kernel⟩
theorem fstabbed_ok (E : Fc fa fn K mg) : OkF P w K mg base 6 dstabbed ["points", "error"] F.fstabbed := by
  refine okF (d := dstabbed) (N := ["points", "error", "cuts", "stab", "at", "point"]) (ps := ["points", "error"]) (k := 5) (fb := F.bstabbed) leave_ok E 9 scstabbed (fun f cdv A outer s H XE hr => ?_) (fun _ _ _ _ _ _ us hl => match us, hl with | [_, _], _ => rfl)
  have sc := scstabbed
  have hr : Room 5 (cxq P w K mg base ["points", "error", "cuts", "stab", "at", "point"] "stabbed" (defScope sstabbed) f cdv A outer s H XE).A := hr
  change SSs (cxq P w K mg base ["points", "error", "cuts", "stab", "at", "point"] "stabbed" (defScope sstabbed) f cdv A outer s H XE) W0 (defBody sstabbed) F.bstabbed
  exact sss_cons (ss_asg (se_lst sa_nil) (sg_name sc.nd rfl (Or.inl rfl) (Or.inl rfl)) rfl rfl rfl)
      (sss_cons (ss_asg se_non (sg_name sc.nd rfl (Or.inl rfl) (Or.inl rfl)) rfl rfl rfl)
      (sss_cons (ss_kill [3, 4, 5] (ss_for PassesOwn.never rfl (si_enum rfl (E.z 12) (a2 (v_ 0) sa_nil) rfl) (sg_tup rfl (sgs_cons (sg_name sc.nd rfl (Or.inl rfl) (Or.inl rfl)) (sgs_cons (sg_name sc.nd rfl (Or.inl rfl) (Or.inl rfl)) sgs_nil rfl) rfl) rfl rfl) (sss_kill [4, 5] (sss_one (ss_if (PW.pt (sw_or (st_cmp o_is (v_ 3) se_non (nomark _)) (sw_or1 (st_not (st_tru (cm_ (v_ 3) (E.says.fact 8) (E.says.fact 9) (fStab_takes_ok E) rfl hr (by decide) (a2 (v_ 5) sa_nil)) (fun _ => rfl)))))) (sss_cons (ss_expr (mAppend (v_ 2) (v_ 4)) rfl)
      (sss_cons (ss_asg (cM_ (fStab___init___ok E) rfl (E.says.fact 10) hr (by decide) (E.g 11) (a2 (v_ 1) sa_nil)) (sg_name sc.nd rfl (Or.inl rfl) (Or.inl rfl)) rfl rfl rfl)
      (sss_one (ss_expr (cm_ (v_ 3) (E.says.fact 8) (E.says.fact 9) (fStab_takes_ok E) rfl hr (by decide) (a2 (v_ 5) sa_nil)) rfl)))) sss_nil))) (fun _ => rfl)))
      (sss_one (ss_ret (se_tup (a2 (cb_ c_len (E.z 14) bb_len (a2 (v_ 2) sa_nil)) (a2 (ct_ c_tuple (E.z 13) bb_tuple (a2 (v_ 2) sa_nil)) sa_nil)))))))
theorem sc_law_mixed : FnScope ["number", "turn", "first", "second"] ["number", "turn"] (defScope s_law_mixed) := ⟨rfl, rfl, rfl, by decide +kernel, rfl, by decide +kernel, by decide +kernel⟩
theorem f_law_mixed_ok (E : Fc fa fn K mg) : OkF P w K mg base 1 d_law_mixed ["number", "turn"] F.f_law_mixed := by
  refine okF (d := d_law_mixed) (N := ["number", "turn", "first", "second"]) (ps := ["number", "turn"]) (k := 0) (fb := F.b_law_mixed) leave_ok E 10 sc_law_mixed (fun f cdv A outer s H XE hr => ?_) (fun _ _ _ _ _ _ us hl => match us, hl with | [_, _], _ => rfl)
  have sc := sc_law_mixed
  have hr : Room 0 (cxq P w K mg base ["number", "turn", "first", "second"] "_law_mixed" (defScope s_law_mixed) f cdv A outer s H XE).A := hr
  change SSs (cxq P w K mg base ["number", "turn", "first", "second"] "_law_mixed" (defScope s_law_mixed) f cdv A outer s H XE) W0 (defBody s_law_mixed) F.b_law_mixed
  exact sss_cons (ss_asg (se_op o_mod (ct_ c_int (E.z 15) bb_int (a2 (se_op o_add (se_op o_add (se_op o_mul (v_ 0) se_int) (se_op o_mul (v_ 1) se_int)) se_int) sa_nil)) se_int) (sg_name sc.nd rfl (Or.inl rfl) (Or.inl rfl)) rfl rfl rfl)
      (sss_cons (ss_asg (se_op o_mod (ct_ c_int (E.z 15) bb_int (a2 (se_op o_add (se_op o_add (se_op o_mul (v_ 2) se_int) (se_op o_fdiv (v_ 2) se_int)) (se_op o_mul (v_ 1) se_int)) sa_nil)) se_int) (sg_name sc.nd rfl (Or.inl rfl) (Or.inl rfl)) rfl rfl rfl)
      (sss_one (ss_ret (se_op o_mod (ct_ c_int (E.z 15) bb_int (a2 (se_op o_add (se_op o_mul (v_ 3) (v_ 3)) (se_op o_fdiv (v_ 2) se_int)) sa_nil)) se_int))))
theorem sc_law_tape : FnScope ["script"] ["script"] (defScope s_law_tape) := ⟨rfl, rfl, rfl, by decide +kernel, rfl, by decide +kernel, by decide +kernel⟩
theorem f_law_tape_ok (E : Fc fa fn K mg) : OkF P w K mg base 1 d_law_tape ["script"] F.f_law_tape := by
  refine okF (d := d_law_tape) (N := ["script"]) (ps := ["script"]) (k := 0) (fb := F.b_law_tape) stay_ok E 11 sc_law_tape (fun f cdv A outer s H XE hr => ?_) (fun _ _ _ _ _ _ us hl => match us, hl with | [_], _ => rfl)
  have sc := sc_law_tape
  have hr : Room 0 (cxq P w K mg base ["script"] "_law_tape" (defScope s_law_tape) f cdv A outer s H XE).A := hr
  change SSs (cxq P w K mg base ["script"] "_law_tape" (defScope s_law_tape) f cdv A outer s H XE) W0 (defBody s_law_tape) F.b_law_tape
  exact sss_one (ss_ret (se_disp (sps_cons (ct_ c_list (E.z 16) bb_list (a2 (v_ 0) sa_nil)) (sps_cons se_int (sps_cons se_int (sps_cons se_int (sps_cons se_int (sps_cons se_int (sps_nil))))))) rfl rfl (fun z => nomatch z) (by decide)))
theorem sc_law_draw : FnScope ["tape", "many", "cell", "digit"] ["tape", "many"] (defScope s_law_draw) := ⟨rfl, rfl, rfl, by decide +kernel, rfl, by decide +kernel, by decide +kernel⟩
theorem f_law_draw_ok (E : Fc fa fn K mg) : OkF P w K mg base 2 d_law_draw ["tape", "many"] F.f_law_draw := by
  refine okF (d := d_law_draw) (N := ["tape", "many", "cell", "digit"]) (ps := ["tape", "many"]) (k := 1) (fb := F.b_law_draw) leave_ok E 12 sc_law_draw (fun f cdv A outer s H XE hr => ?_) (fun _ _ _ _ _ _ us hl => match us, hl with | [_, _], _ => rfl)
  have sc := sc_law_draw
  have hr : Room 1 (cxq P w K mg base ["tape", "many", "cell", "digit"] "_law_draw" (defScope s_law_draw) f cdv A outer s H XE).A := hr
  change SSs (cxq P w K mg base ["tape", "many", "cell", "digit"] "_law_draw" (defScope s_law_draw) f cdv A outer s H XE) W0 (defBody s_law_draw) F.b_law_draw
  exact sss_cons (ss_dput (hu_of hr) (v_ 0) se_str (se_op o_add (se_dix (hu_of hr) (v_ 0) se_str (fun _ _ => rfl)) se_int) rfl)
      (sss_cons (ss_if (PW.pt (sw_and (st_cmp (o_eq (Room.units hr)) (se_dix (hu_of hr) (v_ 0) se_str (fun _ _ => rfl)) se_int (nomark _)) (sw_and1 (st_cmp o_lt (se_dix (hu_of hr) (v_ 0) se_str (fun _ _ => rfl)) (cb_ c_len (E.z 14) bb_len (a2 (se_dix (hu_of hr) (v_ 0) se_str (fun _ _ => rfl)) sa_nil)) (nomark _))))) (sss_cons (ss_asg (se_idx (se_dix (hu_of hr) (v_ 0) se_str (fun _ _ => rfl)) (se_dix (hu_of hr) (v_ 0) se_str (fun _ _ => rfl)) (fun _ _ => rfl)) (sg_name sc.nd rfl (Or.inl rfl) (Or.inl rfl)) rfl rfl rfl)
      (sss_cons (ss_dput (hu_of hr) (v_ 0) se_str (se_op o_add (se_dix (hu_of hr) (v_ 0) se_str (fun _ _ => rfl)) se_int) rfl)
      (sss_cons (ss_dput (hu_of hr) (v_ 0) se_str (cf_ (f_law_mixed_ok E) hr (by decide) (E.g 17) (a2 (se_op o_add (se_dix (hu_of hr) (v_ 0) se_str (fun _ _ => rfl)) (v_ 2)) (a2 (se_dix (hu_of hr) (v_ 0) se_str (fun _ _ => rfl)) sa_nil))) rfl)
      (sss_cons (ss_dput (hu_of hr) (v_ 0) se_str se_int rfl)
      (sss_one (ss_if (st_cmp o_ge (v_ 2) (se_op o_pow se_int se_int) (nomark _)) (sss_cons (ss_dput (hu_of hr) (v_ 0) se_str (v_ 2) rfl)
      (sss_one (ss_dput (hu_of hr) (v_ 0) se_str se_int rfl))) sss_nil)))))) sss_nil)
      (sss_cons (ss_if (st_cmp o_gt (se_dix (hu_of hr) (v_ 0) se_str (fun _ _ => rfl)) se_int (nomark _)) (sss_one (ss_dput (hu_of hr) (v_ 0) se_str (se_op o_sub (se_dix (hu_of hr) (v_ 0) se_str (fun _ _ => rfl)) se_int) rfl)) sss_nil)
      (sss_cons (ss_if (st_cmp (o_eq (Room.units hr)) (se_dix (hu_of hr) (v_ 0) se_str (fun _ _ => rfl)) se_int (nomark _)) (sss_one (ss_ret (se_op o_mod (ct_ c_int (E.z 15) bb_int (a2 (cf_ (f_law_mixed_ok E) hr (by decide) (E.g 17) (a2 (se_dix (hu_of hr) (v_ 0) se_str (fun _ _ => rfl)) (a2 (se_dix (hu_of hr) (v_ 0) se_str (fun _ _ => rfl)) sa_nil))) sa_nil)) (v_ 1)))) sss_nil)
      (sss_cons (ss_asg (se_op o_mod (ct_ c_int (E.z 15) bb_int (a2 (se_dix (hu_of hr) (v_ 0) se_str (fun _ _ => rfl)) sa_nil)) se_int) (sg_name sc.nd rfl (Or.inl rfl) (Or.inl rfl)) rfl rfl rfl)
      (sss_cons (ss_dput (hu_of hr) (v_ 0) se_str (se_op o_fdiv (se_dix (hu_of hr) (v_ 0) se_str (fun _ _ => rfl)) se_int) rfl)
      (sss_cons (ss_if (PW.pt (sw_or (st_cmp (o_eq (Room.units hr)) (se_dix (hu_of hr) (v_ 0) se_str (fun _ _ => rfl)) se_int (nomark _)) (sw_or1 (st_cmp (o_eq (Room.units hr)) (se_dix (hu_of hr) (v_ 0) se_str (fun _ _ => rfl)) se_int (nomark _))))) (sss_cons (ss_dput (hu_of hr) (v_ 0) se_str se_int rfl)
      (sss_one (ss_dput (hu_of hr) (v_ 0) se_str se_int rfl))) sss_nil)
      (sss_one (ss_ret (se_op o_mod (ct_ c_int (E.z 15) bb_int (a2 (v_ 3) sa_nil)) (v_ 1))))))))))
theorem sc_law_same : FnScope ["actual", "due", "k"] ["actual", "due"] (defScope s_law_same) := ⟨rfl, rfl, rfl, by decide +kernel, rfl, by decide +kernel, by decide +kernel⟩
theorem f_law_same_ok (E : Fc fa fn K mg) : ∀ k : Nat, OkF P w K mg base (1 + k) d_law_same ["actual", "due"] (F.f_law_same k)
  | 0 => rec0 E 13 (fun _ _ _ _ _ _ us hl => match us, hl with | [_, _], _ => rfl)
  | k + 1 => by
    have ih := f_law_same_ok E k
    refine okF (d := d_law_same) (N := ["actual", "due", "k"]) (ps := ["actual", "due"]) (k := 1 + k) (fb := F.b_law_same (F.f_law_same k)) leave_ok E 13 sc_law_same (fun f cdv A outer s H XE hr => ?_) (fun _ _ _ _ _ _ us hl => match us, hl with | [_, _], _ => rfl)
    have sc := sc_law_same
    have hr : Room (1 + k) (cxq P w K mg base ["actual", "due", "k"] "_law_same" (defScope s_law_same) f cdv A outer s H XE).A := hr
    change SSs (cxq P w K mg base ["actual", "due", "k"] "_law_same" (defScope s_law_same) f cdv A outer s H XE) W0 (defBody s_law_same) (F.b_law_same (F.f_law_same k))
    exact sss_cons (ss_if (st_tru (isi_ (E.z 18) (v_ 1) (E.z 13) bb_tuple) (fun _ => rfl)) (sss_cons (ss_if (PW.pt (sw_or (st_not (st_tru (isi_ (E.z 18) (v_ 0) (E.z 13) bb_tuple) (fun _ => rfl))) (sw_or1 (st_cmp (o_ne (Room.units hr)) (cb_ c_len (E.z 14) bb_len (a2 (v_ 0) sa_nil)) (cb_ c_len (E.z 14) bb_len (a2 (v_ 1) sa_nil)) (nomark _))))) (sss_one (ss_ret se_bl)) sss_nil)
      (sss_cons (ss_kill [2] (ss_for PassesOwn.never rfl (si_range1 rfl (E.z 20) (a2 (cb_ c_len (E.z 14) bb_len (a2 (v_ 1) sa_nil)) sa_nil) rfl) (sg_name sc.nd rfl (Or.inl rfl) (Or.inl rfl)) (sss_kill [2] (sss_one (ss_if (st_not (st_tru (cf_ ih hr (by omega) (E.g 19) (a2 (se_idx (v_ 0) (v_ 2) (fun _ _ => rfl)) (a2 (se_idx (v_ 1) (v_ 2) (fun _ _ => rfl)) sa_nil))) (fun _ => rfl))) (sss_one (ss_ret se_bl)) sss_nil))) (fun _ => rfl)))
      (sss_one (ss_ret se_bl)))) sss_nil)
      (sss_cons (ss_if (st_cmp o_is (v_ 1) se_non (nomark _)) (sss_one (ss_ret (se_cmp o_is (v_ 0) se_non (nomark _)))) sss_nil)
      (sss_cons (ss_if (st_tru (isi_ (E.z 18) (v_ 1) (E.z 21) bb_str) (fun _ => rfl)) (sss_one (ss_ret (se_and (isi_ (E.z 18) (v_ 0) (E.z 21) bb_str) (se_bool1 (se_cmp (o_eq (Room.units hr)) (v_ 0) (v_ 1) (nomark _)))))) sss_nil)
      (sss_cons (ss_if (st_tru (isi_ (E.z 18) (v_ 1) (E.z 22) bb_bool) (fun _ => rfl)) (sss_one (ss_ret (se_and (isi_ (E.z 18) (v_ 0) (E.z 22) bb_bool) (se_bool1 (se_cmp (o_eq (Room.units hr)) (v_ 0) (v_ 1) (nomark _)))))) sss_nil)
      (sss_one (ss_ret (se_and (isi_ (E.z 18) (v_ 0) (E.z 15) bb_int) (se_and (se_not (isi_ (E.z 18) (v_ 0) (E.z 22) bb_bool)) (se_bool1 (se_cmp (o_eq (Room.units hr)) (v_ 0) (v_ 1) (nomark _))))))))))
theorem sc_law_fr : FnScope ["a", "b", "one", "other", "turn"] ["a", "b"] (defScope s_law_fr) := ⟨rfl, rfl, rfl, by decide +kernel, rfl, by decide +kernel, by decide +kernel⟩
theorem f_law_fr_ok (E : Fc fa fn K mg) : OkF P w K mg base 1 d_law_fr ["a", "b"] F.f_law_fr := by
  refine okF (d := d_law_fr) (N := ["a", "b", "one", "other", "turn"]) (ps := ["a", "b"]) (k := 0) (fb := F.b_law_fr) leave_ok E 14 sc_law_fr (fun f cdv A outer s H XE hr => ?_) (fun _ _ _ _ _ _ us hl => match us, hl with | [_, _], _ => rfl)
  have sc := sc_law_fr
  have hr : Room 0 (cxq P w K mg base ["a", "b", "one", "other", "turn"] "_law_fr" (defScope s_law_fr) f cdv A outer s H XE).A := hr
  change SSs (cxq P w K mg base ["a", "b", "one", "other", "turn"] "_law_fr" (defScope s_law_fr) f cdv A outer s H XE) W0 (defBody s_law_fr) F.b_law_fr
  exact sss_cons (ss_par rfl sc.nd rfl rfl (by decide) rfl rfl (a2 (cb_ c_abs (E.z 0) bb_abs (a2 (v_ 0) sa_nil)) (a2 (cb_ c_abs (E.z 0) bb_abs (a2 (v_ 1) sa_nil)) sa_nil)) rfl rfl)
      (sss_cons (ss_kill [3, 4] (ss_for PassesOwn.never rfl (si_range1 rfl (E.z 20) (a2 se_int sa_nil) rfl) (sg_name sc.nd rfl (Or.inl rfl) (Or.inl rfl)) (sss_kill [4] (sss_cons (ss_if (st_cmp (o_eq (Room.units hr)) (v_ 3) se_int (nomark _)) (sss_one ss_break) sss_nil)
      (sss_one (ss_par rfl sc.nd rfl rfl (by decide) rfl rfl (a2 (v_ 3) (a2 (se_op o_mod (ct_ c_int (E.z 15) bb_int (a2 (v_ 2) sa_nil)) (v_ 3)) sa_nil)) rfl rfl)))) (fun _ => rfl)))
      (sss_one (ss_ret (se_if (st_cmp o_gt (v_ 1) se_int (nomark _)) (se_tup (a2 (se_op o_fdiv (v_ 0) (v_ 2)) (a2 (se_op o_fdiv (v_ 1) (v_ 2)) sa_nil))) (se_tup (a2 (se_op o_sub se_int (se_op o_fdiv (v_ 0) (v_ 2))) (a2 (se_op o_sub se_int (se_op o_fdiv (v_ 1) (v_ 2))) sa_nil)))))))
theorem sc_law_plus : FnScope ["a", "b"] ["a", "b"] (defScope s_law_plus) := ⟨rfl, rfl, rfl, by decide +kernel, rfl, by decide +kernel, by decide +kernel⟩
theorem f_law_plus_ok (E : Fc fa fn K mg) : OkF P w K mg base 2 d_law_plus ["a", "b"] F.f_law_plus := by
  refine okF (d := d_law_plus) (N := ["a", "b"]) (ps := ["a", "b"]) (k := 1) (fb := F.b_law_plus) leave_ok E 15 sc_law_plus (fun f cdv A outer s H XE hr => ?_) (fun _ _ _ _ _ _ us hl => match us, hl with | [_, _], _ => rfl)
  have sc := sc_law_plus
  have hr : Room 1 (cxq P w K mg base ["a", "b"] "_law_plus" (defScope s_law_plus) f cdv A outer s H XE).A := hr
  change SSs (cxq P w K mg base ["a", "b"] "_law_plus" (defScope s_law_plus) f cdv A outer s H XE) W0 (defBody s_law_plus) F.b_law_plus
  exact sss_one (ss_ret (cf_ (f_law_fr_ok E) hr (by decide) (E.g 23) (a2 (se_op o_add (se_op o_mul (se_idx (v_ 0) se_int (fun _ _ => rfl)) (se_idx (v_ 1) se_int (fun _ _ => rfl))) (se_op o_mul (se_idx (v_ 1) se_int (fun _ _ => rfl)) (se_idx (v_ 0) se_int (fun _ _ => rfl)))) (a2 (se_op o_mul (se_idx (v_ 0) se_int (fun _ _ => rfl)) (se_idx (v_ 1) se_int (fun _ _ => rfl))) sa_nil))))
theorem sc_law_minus : FnScope ["a", "b"] ["a", "b"] (defScope s_law_minus) := ⟨rfl, rfl, rfl, by decide +kernel, rfl, by decide +kernel, by decide +kernel⟩
theorem f_law_minus_ok (E : Fc fa fn K mg) : OkF P w K mg base 2 d_law_minus ["a", "b"] F.f_law_minus := by
  refine okF (d := d_law_minus) (N := ["a", "b"]) (ps := ["a", "b"]) (k := 1) (fb := F.b_law_minus) leave_ok E 16 sc_law_minus (fun f cdv A outer s H XE hr => ?_) (fun _ _ _ _ _ _ us hl => match us, hl with | [_, _], _ => rfl)
  have sc := sc_law_minus
  have hr : Room 1 (cxq P w K mg base ["a", "b"] "_law_minus" (defScope s_law_minus) f cdv A outer s H XE).A := hr
  change SSs (cxq P w K mg base ["a", "b"] "_law_minus" (defScope s_law_minus) f cdv A outer s H XE) W0 (defBody s_law_minus) F.b_law_minus
  exact sss_one (ss_ret (cf_ (f_law_fr_ok E) hr (by decide) (E.g 23) (a2 (se_op o_sub (se_op o_mul (se_idx (v_ 0) se_int (fun _ _ => rfl)) (se_idx (v_ 1) se_int (fun _ _ => rfl))) (se_op o_mul (se_idx (v_ 1) se_int (fun _ _ => rfl)) (se_idx (v_ 0) se_int (fun _ _ => rfl)))) (a2 (se_op o_mul (se_idx (v_ 0) se_int (fun _ _ => rfl)) (se_idx (v_ 1) se_int (fun _ _ => rfl))) sa_nil))))
theorem sc_law_of_both : FnScope ["a", "b"] ["a", "b"] (defScope s_law_of_both) := ⟨rfl, rfl, rfl, by decide +kernel, rfl, by decide +kernel, by decide +kernel⟩
theorem f_law_of_both_ok (E : Fc fa fn K mg) : OkF P w K mg base 2 d_law_of_both ["a", "b"] F.f_law_of_both := by
  refine okF (d := d_law_of_both) (N := ["a", "b"]) (ps := ["a", "b"]) (k := 1) (fb := F.b_law_of_both) leave_ok E 17 sc_law_of_both (fun f cdv A outer s H XE hr => ?_) (fun _ _ _ _ _ _ us hl => match us, hl with | [_, _], _ => rfl)
  have sc := sc_law_of_both
  have hr : Room 1 (cxq P w K mg base ["a", "b"] "_law_of_both" (defScope s_law_of_both) f cdv A outer s H XE).A := hr
  change SSs (cxq P w K mg base ["a", "b"] "_law_of_both" (defScope s_law_of_both) f cdv A outer s H XE) W0 (defBody s_law_of_both) F.b_law_of_both
  exact sss_one (ss_ret (cf_ (f_law_fr_ok E) hr (by decide) (E.g 23) (a2 (se_op o_mul (se_idx (v_ 0) se_int (fun _ _ => rfl)) (se_idx (v_ 1) se_int (fun _ _ => rfl))) (a2 (se_op o_mul (se_idx (v_ 0) se_int (fun _ _ => rfl)) (se_idx (v_ 1) se_int (fun _ _ => rfl))) sa_nil))))
theorem sc_law_over : FnScope ["a", "b"] ["a", "b"] (defScope s_law_over) := ⟨rfl, rfl, rfl, by decide +kernel, rfl, by decide +kernel, by decide +kernel⟩
theorem f_law_over_ok (E : Fc fa fn K mg) : OkF P w K mg base 2 d_law_over ["a", "b"] F.f_law_over := by
  refine okF (d := d_law_over) (N := ["a", "b"]) (ps := ["a", "b"]) (k := 1) (fb := F.b_law_over) leave_ok E 18 sc_law_over (fun f cdv A outer s H XE hr => ?_) (fun _ _ _ _ _ _ us hl => match us, hl with | [_, _], _ => rfl)
  have sc := sc_law_over
  have hr : Room 1 (cxq P w K mg base ["a", "b"] "_law_over" (defScope s_law_over) f cdv A outer s H XE).A := hr
  change SSs (cxq P w K mg base ["a", "b"] "_law_over" (defScope s_law_over) f cdv A outer s H XE) W0 (defBody s_law_over) F.b_law_over
  exact sss_one (ss_ret (cf_ (f_law_fr_ok E) hr (by decide) (E.g 23) (a2 (se_op o_mul (se_idx (v_ 0) se_int (fun _ _ => rfl)) (se_idx (v_ 1) se_int (fun _ _ => rfl))) (a2 (se_op o_mul (se_idx (v_ 0) se_int (fun _ _ => rfl)) (se_idx (v_ 1) se_int (fun _ _ => rfl))) sa_nil))))
theorem sc_law_less : FnScope ["a", "b"] ["a", "b"] (defScope s_law_less) := ⟨rfl, rfl, rfl, by decide +kernel, rfl, by decide +kernel, by decide +kernel⟩
theorem f_law_less_ok (E : Fc fa fn K mg) : OkF P w K mg base 1 d_law_less ["a", "b"] F.f_law_less := by
  refine okF (d := d_law_less) (N := ["a", "b"]) (ps := ["a", "b"]) (k := 0) (fb := F.b_law_less) leave_ok E 19 sc_law_less (fun f cdv A outer s H XE hr => ?_) (fun _ _ _ _ _ _ us hl => match us, hl with | [_, _], _ => rfl)
  have sc := sc_law_less
  have hr : Room 0 (cxq P w K mg base ["a", "b"] "_law_less" (defScope s_law_less) f cdv A outer s H XE).A := hr
  change SSs (cxq P w K mg base ["a", "b"] "_law_less" (defScope s_law_less) f cdv A outer s H XE) W0 (defBody s_law_less) F.b_law_less
  exact sss_one (ss_ret (se_cmp o_lt (se_op o_mul (se_idx (v_ 0) se_int (fun _ _ => rfl)) (se_idx (v_ 1) se_int (fun _ _ => rfl))) (se_op o_mul (se_idx (v_ 1) se_int (fun _ _ => rfl)) (se_idx (v_ 0) se_int (fun _ _ => rfl))) (nomark _)))
theorem sc_law_drawn : FnScope ["tape", "size", "belows"] ["tape", "size", "belows"] (defScope s_law_drawn) := ⟨rfl, rfl, rfl, by decide +kernel, rfl, by decide +kernel, by decide +kernel⟩
theorem f_law_drawn_ok (E : Fc fa fn K mg) : OkF P w K mg base 3 d_law_drawn ["tape", "size", "belows"] F.f_law_drawn := by
  refine okF (d := d_law_drawn) (N := ["tape", "size", "belows"]) (ps := ["tape", "size", "belows"]) (k := 2) (fb := F.b_law_drawn) leave_ok E 20 sc_law_drawn (fun f cdv A outer s H XE hr => ?_) (fun _ _ _ _ _ _ us hl => match us, hl with | [_, _, _], _ => rfl)
  have sc := sc_law_drawn
  have hr : Room 2 (cxq P w K mg base ["tape", "size", "belows"] "_law_drawn" (defScope s_law_drawn) f cdv A outer s H XE).A := hr
  change SSs (cxq P w K mg base ["tape", "size", "belows"] "_law_drawn" (defScope s_law_drawn) f cdv A outer s H XE) W0 (defBody s_law_drawn) F.b_law_drawn
  exact sss_one (ss_ret (cf_ (f_law_fr_ok E) hr (by decide) (E.g 23) (a2 (se_op o_sub (cf_ (f_law_draw_ok E) hr (by decide) (E.g 24) (a2 (v_ 0) (a2 (se_op o_add (se_op o_mul se_int (v_ 1)) se_int) sa_nil))) (v_ 1)) (a2 (se_idx (v_ 2) (cf_ (f_law_draw_ok E) hr (by decide) (E.g 24) (a2 (v_ 0) (a2 (cb_ c_len (E.z 14) bb_len (a2 (v_ 2) sa_nil)) sa_nil))) (fun _ _ => rfl)) sa_nil))))
theorem sc_law_scene : FnScope ["tape", "error", "x", "slope", "number", "found", "way", "k", "y", "wide"] ["tape"] (defScope s_law_scene) := ⟨rfl, rfl, rfl, by decide +kernel, rfl, by decide +kernel, by decide +kernel⟩
theorem f_law_scene_ok (E : Fc fa fn K mg) : OkF P w K mg base 4 d_law_scene ["tape"] F.f_law_scene := by
  refine okF (d := d_law_scene) (N := ["tape", "error", "x", "slope", "number", "found", "way", "k", "y", "wide"]) (ps := ["tape"]) (k := 3) (fb := F.b_law_scene) leave_ok E 21 sc_law_scene (fun f cdv A outer s H XE hr => ?_) (fun _ _ _ _ _ _ us hl => match us, hl with | [_], _ => rfl)
  have sc := sc_law_scene
  have hr : Room 3 (cxq P w K mg base ["tape", "error", "x", "slope", "number", "found", "way", "k", "y", "wide"] "_law_scene" (defScope s_law_scene) f cdv A outer s H XE).A := hr
  change SSs (cxq P w K mg base ["tape", "error", "x", "slope", "number", "found", "way", "k", "y", "wide"] "_law_scene" (defScope s_law_scene) f cdv A outer s H XE) W0 (defBody s_law_scene) F.b_law_scene
  exact sss_cons (ss_asg (se_idx (se_lst (a2 (se_tup (a2 se_int (a2 se_int sa_nil))) (a2 (se_tup (a2 se_int (a2 se_int sa_nil))) (a2 (se_tup (a2 se_int (a2 se_int sa_nil))) (a2 (se_tup (a2 se_int (a2 se_int sa_nil))) (a2 (se_tup (a2 se_int (a2 se_int sa_nil))) (a2 (se_tup (a2 se_int (a2 se_int sa_nil))) sa_nil))))))) (cf_ (f_law_draw_ok E) hr (by decide) (E.g 24) (a2 (v_ 0) (a2 se_int sa_nil))) (fun _ _ => rfl)) (sg_name sc.nd rfl (Or.inl rfl) (Or.inl rfl)) rfl rfl rfl)
      (sss_cons (ss_unp (a2 (cf_ (f_law_drawn_ok E) hr (by decide) (E.g 25) (a2 (v_ 0) (a2 se_int (a2 (se_lst (a2 se_int (a2 se_int sa_nil))) sa_nil)))) (a2 (se_tup (a2 se_int (a2 se_int sa_nil))) (a2 (se_tup (a2 se_int (a2 se_int sa_nil))) (a2 (se_lst sa_nil) sa_nil)))) (sgs_cons (sg_name sc.nd rfl (Or.inl rfl) (Or.inl rfl)) (sgs_cons (sg_name sc.nd rfl (Or.inl rfl) (Or.inl rfl)) (sgs_cons (sg_name sc.nd rfl (Or.inl rfl) (Or.inl rfl)) (sgs_cons (sg_name sc.nd rfl (Or.inl rfl) (Or.inl rfl)) sgs_nil rfl) rfl) rfl) rfl))
      (sss_cons (ss_asg (cf_ (f_law_draw_ok E) hr (by decide) (E.g 24) (a2 (v_ 0) (a2 se_int sa_nil))) (sg_name sc.nd rfl (Or.inl rfl) (Or.inl rfl)) rfl rfl rfl)
      (sss_cons (ss_kill [2, 3, 4, 7, 8, 9] (ss_for PassesOwn.never rfl (si_range1 rfl (E.z 20) (a2 (se_op o_add se_int (cf_ (f_law_draw_ok E) hr (by decide) (E.g 24) (a2 (v_ 0) (a2 se_int sa_nil)))) sa_nil) rfl) (sg_name sc.nd rfl (Or.inl rfl) (Or.inl rfl)) (sss_kill [7, 8, 9] (sss_cons (ss_if (st_cmp (o_eq (Room.units hr)) (cf_ (f_law_draw_ok E) hr (by decide) (E.g 24) (a2 (v_ 0) (a2 se_int sa_nil))) se_int (nomark _)) (sss_one (ss_asg (cf_ (f_law_drawn_ok E) hr (by decide) (E.g 25) (a2 (v_ 0) (a2 se_int (a2 (se_lst (a2 se_int (a2 se_int sa_nil))) sa_nil)))) (sg_name sc.nd rfl (Or.inl rfl) (Or.inl rfl)) rfl rfl rfl)) sss_nil)
      (sss_cons (ss_asg (v_ 4) (sg_name sc.nd rfl (Or.inl rfl) (Or.inl rfl)) rfl rfl rfl)
      (sss_cons (ss_if (st_cmp o_gt (v_ 6) se_int (nomark _)) (sss_one (ss_asg (cf_ (f_law_plus_ok E) hr (by decide) (E.g 27) (a2 (v_ 4) (a2 (cf_ (f_law_of_both_ok E) hr (by decide) (E.g 26) (a2 (v_ 1) (a2 (se_idx (se_lst (a2 (se_tup (a2 se_int (a2 se_int sa_nil))) (a2 (se_tup (a2 se_int (a2 se_int sa_nil))) (a2 (se_tup (a2 (se_neg se_int) (a2 se_int sa_nil))) (a2 (se_tup (a2 se_int (a2 se_int sa_nil))) (a2 (se_tup (a2 (se_neg se_int) (a2 se_int sa_nil))) (a2 (se_tup (a2 se_int (a2 se_int sa_nil))) sa_nil))))))) (cf_ (f_law_draw_ok E) hr (by decide) (E.g 24) (a2 (v_ 0) (a2 se_int sa_nil))) (fun _ _ => rfl)) sa_nil))) sa_nil))) (sg_name sc.nd rfl (Or.inl rfl) (Or.inl rfl)) rfl rfl rfl)) sss_nil)
      (sss_cons (ss_if (PW.pt (sw_and (st_cmp (o_eq (Room.units hr)) (v_ 6) se_int (nomark _)) (sw_and1 (st_cmp (o_eq (Room.units hr)) (cf_ (f_law_draw_ok E) hr (by decide) (E.g 24) (a2 (v_ 0) (a2 se_int sa_nil))) se_int (nomark _))))) (sss_one (ss_asg (cf_ (f_law_drawn_ok E) hr (by decide) (E.g 25) (a2 (v_ 0) (a2 se_int (a2 (se_lst (a2 se_int (a2 se_int sa_nil))) sa_nil)))) (sg_name sc.nd rfl (Or.inl rfl) (Or.inl rfl)) rfl rfl rfl)) sss_nil)
      (sss_cons (ss_expr (mAppend (v_ 5) (se_tup (a2 (v_ 2) (a2 (v_ 8) sa_nil)))) rfl)
      (sss_cons (ss_asg (cf_ (f_law_fr_ok E) hr (by decide) (E.g 23) (a2 (se_op o_add se_int (cf_ (f_law_draw_ok E) hr (by decide) (E.g 24) (a2 (v_ 0) (a2 se_int sa_nil)))) (a2 (se_op o_add se_int (cf_ (f_law_draw_ok E) hr (by decide) (E.g 24) (a2 (v_ 0) (a2 se_int sa_nil)))) sa_nil))) (sg_name sc.nd rfl (Or.inl rfl) (Or.inl rfl)) rfl rfl rfl)
      (sss_one (ss_par rfl sc.nd rfl rfl (by decide) rfl rfl (a2 (cf_ (f_law_plus_ok E) hr (by decide) (E.g 27) (a2 (v_ 2) (a2 (v_ 9) sa_nil))) (a2 (cf_ (f_law_plus_ok E) hr (by decide) (E.g 27) (a2 (v_ 4) (a2 (cf_ (f_law_of_both_ok E) hr (by decide) (E.g 26) (a2 (v_ 3) (a2 (v_ 9) sa_nil))) sa_nil))) sa_nil)) rfl rfl))))))))) (fun _ => rfl)))
      (sss_one (ss_ret (se_tup (a2 (ct_ c_tuple (E.z 13) bb_tuple (a2 (v_ 5) sa_nil)) (a2 (v_ 1) sa_nil))))))))
theorem sc_law_is_near : FnScope ["points", "error", "low", "high", "twice", "i", "j", "wide", "up", "one", "other"] ["points", "error"] (defScope s_law_is_near) := ⟨rfl, rfl, rfl, by decide +kernel, rfl, by decide +kernel, by decide +kernel⟩
theorem f_law_is_near_ok (E : Fc fa fn K mg) : OkF P w K mg base 3 d_law_is_near ["points", "error"] F.f_law_is_near := by
  refine okF (d := d_law_is_near) (N := ["points", "error", "low", "high", "twice", "i", "j", "wide", "up", "one", "other"]) (ps := ["points", "error"]) (k := 2) (fb := F.b_law_is_near) leave_ok E 22 sc_law_is_near (fun f cdv A outer s H XE hr => ?_) (fun _ _ _ _ _ _ us hl => match us, hl with | [_, _], _ => rfl)
  have sc := sc_law_is_near
  have hr : Room 2 (cxq P w K mg base ["points", "error", "low", "high", "twice", "i", "j", "wide", "up", "one", "other"] "_law_is_near" (defScope s_law_is_near) f cdv A outer s H XE).A := hr
  change SSs (cxq P w K mg base ["points", "error", "low", "high", "twice", "i", "j", "wide", "up", "one", "other"] "_law_is_near" (defScope s_law_is_near) f cdv A outer s H XE) W0 (defBody s_law_is_near) F.b_law_is_near
  exact sss_cons (ss_par3 rfl sc.nd rfl rfl rfl (by decide) (by decide) (by decide) rfl rfl rfl (a2 se_non (a2 se_non (a2 (cf_ (f_law_plus_ok E) hr (by decide) (E.g 27) (a2 (v_ 1) (a2 (v_ 1) sa_nil))) sa_nil))) rfl rfl)
      (sss_cons (ss_kill [5, 6, 7, 8, 9, 10] (ss_for PassesOwn.never rfl (si_range1 rfl (E.z 20) (a2 (cb_ c_len (E.z 14) bb_len (a2 (v_ 0) sa_nil)) sa_nil) rfl) (sg_name sc.nd rfl (Or.inl rfl) (Or.inl rfl)) (sss_kill [5] (sss_one (ss_kill [6, 7, 8, 9, 10] (ss_for PassesOwn.never rfl (si_range2 rfl (E.z 20) (a2 (se_op o_add (v_ 5) se_int) (a2 (cb_ c_len (E.z 14) bb_len (a2 (v_ 0) sa_nil)) sa_nil)) rfl rfl) (sg_name sc.nd rfl (Or.inl rfl) (Or.inl rfl)) (sss_kill [6, 7, 8, 9, 10] (sss_cons (ss_asg (cf_ (f_law_minus_ok E) hr (by decide) (E.g 28) (a2 (se_idx (se_idx (v_ 0) (v_ 6) (fun _ _ => rfl)) se_int (fun _ _ => rfl)) (a2 (se_idx (se_idx (v_ 0) (v_ 5) (fun _ _ => rfl)) se_int (fun _ _ => rfl)) sa_nil))) (sg_name sc.nd rfl (Or.inl rfl) (Or.inl rfl)) rfl rfl rfl)
      (sss_cons (ss_asg (cf_ (f_law_minus_ok E) hr (by decide) (E.g 28) (a2 (se_idx (se_idx (v_ 0) (v_ 6) (fun _ _ => rfl)) se_int (fun _ _ => rfl)) (a2 (se_idx (se_idx (v_ 0) (v_ 5) (fun _ _ => rfl)) se_int (fun _ _ => rfl)) sa_nil))) (sg_name sc.nd rfl (Or.inl rfl) (Or.inl rfl)) rfl rfl rfl)
      (sss_cons (ss_par rfl sc.nd rfl rfl (by decide) rfl rfl (a2 (cf_ (f_law_over_ok E) hr (by decide) (E.g 29) (a2 (cf_ (f_law_minus_ok E) hr (by decide) (E.g 28) (a2 (v_ 8) (a2 (v_ 4) sa_nil))) (a2 (v_ 7) sa_nil))) (a2 (cf_ (f_law_over_ok E) hr (by decide) (E.g 29) (a2 (cf_ (f_law_plus_ok E) hr (by decide) (E.g 27) (a2 (v_ 8) (a2 (v_ 4) sa_nil))) (a2 (v_ 7) sa_nil))) sa_nil)) rfl rfl)
      (sss_cons (ss_asg (se_if (PW.pt (sw_or (st_cmp o_is (v_ 2) se_non (nomark _)) (sw_or1 (st_tru (cf_ (f_law_less_ok E) hr (by decide) (E.g 30) (a2 (v_ 2) (a2 (v_ 9) sa_nil))) (fun _ => rfl))))) (v_ 9) (v_ 2)) (sg_name sc.nd rfl (Or.inl rfl) (Or.inl rfl)) rfl rfl rfl)
      (sss_one (ss_asg (se_if (PW.pt (sw_or (st_cmp o_is (v_ 3) se_non (nomark _)) (sw_or1 (st_tru (cf_ (f_law_less_ok E) hr (by decide) (E.g 30) (a2 (v_ 10) (a2 (v_ 3) sa_nil))) (fun _ => rfl))))) (v_ 10) (v_ 3)) (sg_name sc.nd rfl (Or.inl rfl) (Or.inl rfl)) rfl rfl rfl))))))) (fun _ => rfl))))) (fun _ => rfl)))
      (sss_one (ss_ret (se_or (se_cmp o_is (v_ 2) se_non (nomark _)) (se_bool1 (se_not (cf_ (f_law_less_ok E) hr (by decide) (E.g 30) (a2 (v_ 3) (a2 (v_ 2) sa_nil)))))))))
theorem sc_law_ends : FnScope ["points", "error", "found", "long", "k", "more"] ["points", "error"] (defScope s_law_ends) := ⟨rfl, rfl, rfl, by decide +kernel, rfl, by decide +kernel, by decide +kernel⟩
theorem f_law_ends_ok (E : Fc fa fn K mg) : OkF P w K mg base 4 d_law_ends ["points", "error"] F.f_law_ends := by
  refine okF (d := d_law_ends) (N := ["points", "error", "found", "long", "k", "more"]) (ps := ["points", "error"]) (k := 3) (fb := F.b_law_ends) leave_ok E 23 sc_law_ends (fun f cdv A outer s H XE hr => ?_) (fun _ _ _ _ _ _ us hl => match us, hl with | [_, _], _ => rfl)
  have sc := sc_law_ends
  have hr : Room 3 (cxq P w K mg base ["points", "error", "found", "long", "k", "more"] "_law_ends" (defScope s_law_ends) f cdv A outer s H XE).A := hr
  change SSs (cxq P w K mg base ["points", "error", "found", "long", "k", "more"] "_law_ends" (defScope s_law_ends) f cdv A outer s H XE) W0 (defBody s_law_ends) F.b_law_ends
  exact sss_cons (ss_par rfl sc.nd rfl rfl (by decide) rfl rfl (a2 (se_lst sa_nil) (a2 se_int sa_nil)) rfl rfl)
      (sss_cons (ss_kill [3, 4, 5] (ss_for PassesOwn.never rfl (si_range1 rfl (E.z 20) (a2 (cb_ c_len (E.z 14) bb_len (a2 (v_ 0) sa_nil)) sa_nil) rfl) (sg_name sc.nd rfl (Or.inl rfl) (Or.inl rfl)) (sss_kill [4] (sss_cons (ss_asg (cb_ (c_max rfl) (E.z 31) bb_max (a2 se_int (a2 (se_op o_sub (v_ 3) se_int) sa_nil))) (sg_name sc.nd rfl (Or.inl rfl) (Or.inl rfl)) rfl rfl rfl)
      (sss_cons (ss_kill [5] (ss_for PassesOwn.never rfl (si_range1 rfl (E.z 20) (a2 (cb_ c_len (E.z 14) bb_len (a2 (v_ 0) sa_nil)) sa_nil) rfl) (sg_name sc.nd rfl (Or.inl rfl) (Or.inl rfl)) (sss_kill [5] (sss_cons (ss_if (PW.pt (sw_or (st_cmp o_ge (se_op o_add (v_ 4) (v_ 3)) (cb_ c_len (E.z 14) bb_len (a2 (v_ 0) sa_nil)) (nomark _)) (sw_or1 (st_not (st_tru (cf_ (f_law_is_near_ok E) hr (by decide) (E.g 32) (a2 (se_slc (v_ 0) (so_some (v_ 4)) (so_some (se_op o_add (se_op o_add (v_ 4) (v_ 3)) se_int))) (a2 (v_ 1) sa_nil))) (fun _ => rfl)))))) (sss_one ss_break) sss_nil)
      (sss_one (ss_asg (se_op o_add (v_ 3) se_int) (sg_name sc.nd rfl (Or.inl rfl) (Or.inl rfl)) rfl rfl rfl)))) (fun _ => rfl)))
      (sss_one (ss_expr (mAppend (v_ 2) (v_ 3)) rfl))))) (fun _ => rfl)))
      (sss_one (ss_ret (v_ 2))))
theorem sclaw : FnScope ["script", "tape", "turn", "points", "error", "ends", "cuts", "k", "more", "counts", "due"] ["script"] (defScope slaw) := ⟨rfl, rfl, rfl, by decide +kernel, rfl, by decide +kernel, by decide +kernel⟩
theorem flaw_ok (E : Fc fa fn K mg) : OkF P w K mg base 8 dlaw ["script"] F.flaw := by
  refine okF (d := dlaw) (N := ["script", "tape", "turn", "points", "error", "ends", "cuts", "k", "more", "counts", "due"]) (ps := ["script"]) (k := 7) (fb := F.blaw) leave_ok E 24 sclaw (fun f cdv A outer s H XE hr => ?_) (fun _ _ _ _ _ _ us hl => match us, hl with | [_], _ => rfl)
  have sc := sclaw
  have hr : Room 7 (cxq P w K mg base ["script", "tape", "turn", "points", "error", "ends", "cuts", "k", "more", "counts", "due"] "law" (defScope slaw) f cdv A outer s H XE).A := hr
  change SSs (cxq P w K mg base ["script", "tape", "turn", "points", "error", "ends", "cuts", "k", "more", "counts", "due"] "law" (defScope slaw) f cdv A outer s H XE) W0 (defBody slaw) F.blaw
  exact sss_cons (ss_asg (cf_ (f_law_tape_ok E) hr (by decide) (E.g 33) (a2 (v_ 0) sa_nil)) (sg_name sc.nd rfl (Or.inl rfl) (Or.inl rfl)) rfl rfl rfl)
      (sss_cons (ss_kill [2, 3, 4, 5, 6, 7, 8, 9, 10] (ss_for PassesOwn.never rfl (si_range1 rfl (E.z 20) (a2 se_int sa_nil) rfl) (sg_name sc.nd rfl (Or.inl rfl) (Or.inl rfl)) (sss_kill [2, 3, 4, 5, 6, 7, 9, 10] (sss_cons (ss_asg (cf_ (f_law_scene_ok E) hr (by decide) (E.g 34) (a2 (v_ 1) sa_nil)) (sg_tup rfl (sgs_cons (sg_name sc.nd rfl (Or.inl rfl) (Or.inl rfl)) (sgs_cons (sg_name sc.nd rfl (Or.inl rfl) (Or.inl rfl)) sgs_nil rfl) rfl) rfl rfl) rfl rfl rfl)
      (sss_cons (ss_par3 rfl sc.nd rfl rfl rfl (by decide) (by decide) (by decide) rfl rfl rfl (a2 (cf_ (f_law_ends_ok E) hr (by decide) (E.g 35) (a2 (v_ 3) (a2 (v_ 4) sa_nil))) (a2 (se_lst sa_nil) (a2 se_int sa_nil))) rfl rfl)
      (sss_cons (ss_kill [8] (ss_for PassesOwn.never rfl (si_range1 rfl (E.z 20) (a2 (cb_ c_len (E.z 14) bb_len (a2 (v_ 3) sa_nil)) sa_nil) rfl) (sg_name sc.nd rfl (Or.inl rfl) (Or.inl rfl)) (sss_kill [8] (sss_one (ss_if (st_cmp o_lt (v_ 7) (cb_ c_len (E.z 14) bb_len (a2 (v_ 3) sa_nil)) (nomark _)) (sss_cons (ss_expr (mAppend (v_ 6) (v_ 7)) rfl)
      (sss_one (ss_asg (se_op o_add (v_ 7) (se_idx (v_ 5) (v_ 7) (fun _ _ => rfl))) (sg_name sc.nd rfl (Or.inl rfl) (Or.inl rfl)) rfl rfl rfl))) sss_nil))) (fun _ => rfl)))
      (sss_cons (ss_asg (se_rep (a2 se_int sa_nil) (se_op o_add (cb_ c_len (E.z 14) bb_len (a2 (v_ 3) sa_nil)) se_int)) (sg_name sc.nd rfl (Or.inl rfl) (Or.inl rfl)) rfl rfl rfl)
      (sss_cons (ss_for PassesOwn.never rfl (si_range3 rfl (E.z 20) (a2 (se_op o_sub (cb_ c_len (E.z 14) bb_len (a2 (v_ 3) sa_nil)) se_int) (a2 (se_neg se_int) (a2 (se_neg se_int) sa_nil))) rfl rfl) (sg_name sc.nd rfl (Or.inl rfl) (Or.inl rfl)) (sss_one (ss_asg (se_op o_add se_int (cb_ (c_minL rfl) (E.z 36) bb_min (a2 (se_slc (v_ 9) (so_some (se_op o_add (v_ 7) se_int)) (so_some (se_op o_add (se_op o_add (v_ 7) (se_idx (v_ 5) (v_ 7) (fun _ _ => rfl))) se_int))) sa_nil))) (sg_it (v_ 9) (v_ 7) (fun _ => rfl)) rfl rfl rfl)) (fun _ => rfl))
      (sss_cons (ss_if (st_cmp (o_ne (Room.units hr)) (se_idx (v_ 9) se_int (fun _ _ => rfl)) (cb_ c_len (E.z 14) bb_len (a2 (v_ 6) sa_nil)) (nomark _)) (sss_one (ss_ret se_bl)) sss_nil)
      (sss_cons (ss_asg (se_tup (a2 (cb_ c_len (E.z 14) bb_len (a2 (v_ 6) sa_nil)) (a2 (ct_ c_tuple (E.z 13) bb_tuple (a2 (v_ 6) sa_nil)) sa_nil))) (sg_name sc.nd rfl (Or.inl rfl) (Or.inl rfl)) rfl rfl rfl)
      (sss_one (ss_if (st_not (st_tru (cf_ (f_law_same_ok E 6) hr (by decide) (E.g 19) (a2 (se_tup (a2 (cf_ (fstabbed_ok E) hr (by decide) (E.g 37) (a2 (v_ 3) (a2 (v_ 4) sa_nil))) (a2 (cK_ (ks := ["error", "points"]) (is := [1, 0]) (fstabbed_ok E) hr (by decide) (E.g 37) (fun _ _ _ _ _ _ ws hl => match ws, hl with | [_, _], _ => rfl) (sk_cons (v_ 4) (sk_cons (v_ 3) sk_nil))) sa_nil))) (a2 (se_tup (a2 (v_ 10) (a2 (v_ 10) sa_nil))) sa_nil))) (fun _ => rfl))) (sss_one (ss_ret se_bl)) sss_nil)))))))))) (fun _ => rfl)))
      (sss_one (ss_ret se_bl)))
end
end
end Lk54
set_option Elab.async false
set_option linter.all false
set_option maxRecDepth 100000
set_option maxHeartbeats 4000000
namespace Lk54
open PySem PySem.Spec PySem.Calls L2 MP
def nm0 : List PySem.Str := ["divisor", "lowest", "plus", "minus", "product", "quotient", "is_less", "Stab", "stabbed", "_law_mixed", "_law_tape", "_law_draw", "_law_same", "_law_fr", "_law_plus", "_law_minus", "_law_of_both", "_law_over", "_law_less", "_law_drawn", "_law_scene", "_law_is_near", "_law_ends"]
def names : List PySem.Str := nm0
abbrev RR : PySem.W.OpenRow := PySem.W.OpenLaw.row PySem.Challenge.rw_hingelayer_k54_whole_stabbed_stretches
abbrev hk : PySem.W.Hook := He.hookD 6 fa fn
noncomputable def ob (s : PySem.W.SharedT) : He.AlD := He.obsDG 6 fa fn (HandSHeadRun.getT s)
theorem ob_eq (s : PySem.W.SharedT) : ob s = hk.obs s.abs := He.obsDG_eq (HandSHeadRun.getT_eq s)
theorem run (w : World) : HandSHeadRun.RunEq RR (PySem.W.view RR.prog [27]) hk ob 2000 names w := by
  intro os
  kernel_rfl
theorem facts {P : Program} {w : World} {K : PySem.W.Frag} {h : Heap} {mg : Str → Option Value} {f : Addr} (X : K.In h) (G : h.Ns mainGlobals mg) (hfa : mg ("law" : Str) = some (.ref f)) (c : He.SaysD fa fn K) :
    ∃ fd : FuncData, (∀ (s : Shared) (v : Value), BindsTo s fd ⟨[v], []⟩ [("script", v)]) ∧ ∀ base : Heap, K.In base → base.Ns mainGlobals mg → FnOk P w K mg base CX0 8 f fd ["script"] (MP.spD K F.flaw) := by
  have E : Fc fa fn K mg := Fc.of X G c
  have e := hfa.symm.trans (E.g 38)
  cases e
  obtain ⟨fd, F⟩ := c.def_ 24 (d := dlaw) rfl
  have b := FunD.bindsA (ps := ["script"]) F fun _ _ _ _ _ _ us hl => match us, hl with | [_], _ => rfl
  refine ⟨fd, fun s v => b s [v] rfl, fun base _ _ => ?_⟩
  obtain ⟨fd', F', _, _, FD⟩ := flaw_ok (P := P) (w := w) (base := base) E
  have : fd' = fd := FunD.uniq FD F
  rw [← this]
  exact F'
end Lk54
open PySem PySem.W PySem.Calls PyProof.Rows
theorem law_end_k54 (hmain : ∀ ns : List Int, ns.length ≤ 63 → ∃ S', F.flaw [.im (.list (ns.map PyData.int))] ⟨[], []⟩ = .ok (.im (.bool true)) S') : PySem.Challenge.rw_hingelayer_k54_whole_stabbed_stretches.Holds := by
  w_on; o_law
  refine HandSHeadRun.head_any (r := OpenLaw.row PySem.Challenge.rw_hingelayer_k54_whole_stabbed_stretches) (q := view (OpenLaw.row PySem.Challenge.rw_hingelayer_k54_whole_stabbed_stretches).prog [27]) (H := Lk54.hk) (ob := Lk54.ob) (M := 2000) (loose := Lk54.names) (d := HandSHeadRun.topDef (OpenLaw.row PySem.Challenge.rw_hingelayer_k54_whole_stabbed_stretches).prog 27) (kwd := []) Lk54.ob_eq
    (by kernel_rfl) (fun s => by kernel_rfl) Lk54.run (by kernel_rfl) (by kernel_rfl) (by kernel_rfl) (by rfl) (by first | assumption | decide +kernel) (by decide +kernel) ⟨rfl, rfl, rfl, rfl, rfl, by decide +kernel⟩ ?hw ?hc
  case hw => w_witness2
  case hc =>
    refine L2.walk_ofE (l := PySem.Challenge.rw_hingelayer_k54_whole_stabbed_stretches) (n := 63) (k := 8) (x := "script") (CX := L2.CX0) rfl (by decide) (by kernel_rfl) ⟨rfl, by decide, by decide⟩ ?F (fun _ _ _ _ z => z)
    intro w mg fa h Y G hmg0
    obtain ⟨K, KX, c⟩ := Y
    have hmg : mg ("law" : PySem.Str) = some (.ref fa) := by
      have e : (HandSHeadRun.topDef (OpenLaw.row PySem.Challenge.rw_hingelayer_k54_whole_stabbed_stretches).prog 27).name = ("law" : PySem.Str) := by kernel_rfl
      rw [← e]
      exact hmg0
    obtain ⟨fd, hb, hF⟩ := Lk54.facts (P := (PySem.Challenge.rw_hingelayer_k54_whole_stabbed_stretches).prog) (w := w) KX G hmg c
    exact ⟨K, fd, MP.spD K F.flaw, KX, hb, fun H a ns hl _ hS => MP.law_sp hS (hmain ns hl), hF⟩
theorem PySem.Challenge.cw_hingelayer_k54_whole_stabbed_stretches_holds : PySem.Challenge.rw_hingelayer_k54_whole_stabbed_stretches.Holds := by
  exact law_end_k54 fun ns _ => MP.law_true ns
