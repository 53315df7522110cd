import PyProof.Rows.All
import Wide.All
import OpenK.AllK
import Wide.FinOn
import HandS.ForMost
import HandS.More
import HandS.Flow
import HandS.Style
import HandS.Zip
import HandS.Wide
import HandS.Defaults
import HandS.Head0
import HandS.Head1
import HandS.Head2
import HandS.HeadEnd
import HandS.HeadHook1
import HandS.HeadHook2
import HandS.Exc
import PyProof.FitsInt
import HandS.IsInst
import HandS.Sort
import PySem.Challenge.RW_clockfolds_k02_whole_calendar_walked
set_option Elab.async false
set_option linter.all false
set_option maxRecDepth 100000
set_option maxHeartbeats 4000000
namespace PV
open PySem PySem.Spec PyProof.Rows L2

/-! ## values -/
inductive D where
  | non | bl (b : Bool) | int (i : Int) | str (x : Str) | tup (l : List D) | lst (l : List D) | ref (a : Addr) | scr (l : List Int) | rng (i j : Int)

def KTup (K : PySem.W.Frag) (a : Addr) (xs : List V) : Prop := ∃ (o : Obj) (its : Array Value) (n : Nat), K.lookup a = some o ∧ o.cls = .type "tuple" ∧ o.data = .seq its n ∧ its.size ≤ sizeLine ∧ Vals xs its.toList
def KLst (K : PySem.W.Frag) (a : Addr) (xs : List V) : Prop := ∃ (o : Obj) (its : Array Value) (n : Nat), K.lookup a = some o ∧ o.cls = .type "list" ∧ o.dict = none ∧ o.data = .seq its n ∧ its.size ≤ sizeLine ∧ Vals xs its.toList

mutual
inductive Rep (K : PySem.W.Frag) (F : Addr → Prop) (H : Hp) : V → D → Prop
  | non : Rep K F H .non .non
  | bl (b : Bool) : Rep K F H (.bl b) (.bl b)
  | int (i : Int) : Rep K F H (.int i) (.int i)
  | str (x : Str) : Rep K F H (.str x) (.str x)
  | ref (a : Addr) : Rep K F H (.ref a) (.ref a)
  | tup {a : Addr} {vs : List V} {ds : List D} : F a → H a = some (.tup vs) → Reps K F H vs ds → Rep K F H (.ref a) (.tup ds)
  | tupK {a : Addr} {vs : List V} {ds : List D} : KTup K a vs → Reps K F H vs ds → Rep K F H (.ref a) (.tup ds)
  | lst {a : Addr} {vs : List V} {ds : List D} : F a → H a = some (.lst vs) → Reps K F H vs ds → Rep K F H (.ref a) (.lst ds)
  | scr {a : Addr} {o : Obj} {ns : List Int} : F a → H a = some (.frz o (.lst (ns.map V.int))) → Rep K F H (.ref a) (.scr ns)
  | scrK {a : Addr} {ns : List Int} : KLst K a (ns.map V.int) → Rep K F H (.ref a) (.scr ns)
  | rng {a : Addr} {i j : Int} : F a → H a = some (.rng i j) → Rep K F H (.ref a) (.rng i j)
inductive Reps (K : PySem.W.Frag) (F : Addr → Prop) (H : Hp) : List V → List D → Prop
  | nil : Reps K F H [] []
  | cons {v : V} {d : D} {vs : List V} {ds : List D} : Rep K F H v d → Reps K F H vs ds → Reps K F H (v :: vs) (d :: ds)
end

/-- F's objects stand -/
structure Ext (F : Addr → Prop) (H : Hp) (F' : Addr → Prop) (H' : Hp) : Prop where
  sub : ∀ a, F a → F' a
  kp : ∀ a o, F a → H a = some o → H' a = some o
theorem Ext.refl (F : Addr → Prop) (H : Hp) : Ext F H F H := ⟨fun _ h => h, fun _ _ _ e => e⟩
theorem Ext.trans {F F1 F2 : Addr → Prop} {H H1 H2 : Hp} (a : Ext F H F1 H1) (b : Ext F1 H1 F2 H2) : Ext F H F2 H2 :=
  ⟨fun x h => b.sub x (a.sub x h), fun x o h e => b.kp x o (a.sub x h) (a.kp x o h e)⟩

section
variable {K : PySem.W.Frag} {F F' : Addr → Prop} {H H' : Hp}
mutual
theorem Rep.mono (e : Ext F H F' H') {v : V} {d : D} : Rep K F H v d → Rep K F' H' v d
  | .non => .non
  | .bl b => .bl b
  | .int i => .int i
  | .str x => .str x
  | .ref a => .ref a
  | .tup f h r => .tup (e.sub _ f) (e.kp _ _ f h) (Reps.mono e r)
  | .tupK h r => .tupK h (Reps.mono e r)
  | .lst f h r => .lst (e.sub _ f) (e.kp _ _ f h) (Reps.mono e r)
  | .scr f h => .scr (e.sub _ f) (e.kp _ _ f h)
  | .scrK h => .scrK h
  | .rng f h => .rng (e.sub _ f) (e.kp _ _ f h)
theorem Reps.mono (e : Ext F H F' H') {vs : List V} {ds : List D} : Reps K F H vs ds → Reps K F' H' vs ds
  | .nil => .nil
  | .cons r t => .cons (Rep.mono e r) (Reps.mono e t)
end
theorem Reps.length {vs : List V} {ds : List D} : Reps K F H vs ds → vs.length = ds.length
  | .nil => rfl
  | .cons _ t => congrArg (· + 1) (Reps.length t)
theorem Reps.get {ds : List D} : ∀ {vs : List V} {i : Nat} {d : D}, Reps K F H vs ds → ds[i]? = some d → ∃ v, vs[i]? = some v ∧ Rep K F H v d := by
  induction ds with
  | nil => intro vs i d _ e; simp at e
  | cons x r ih =>
    intro vs i d h e
    cases h with
    | cons hv ht =>
      cases i with
      | zero => simp at e; subst e; exact ⟨_, rfl, hv⟩
      | succ i => simpa using ih ht (by simpa using e)
theorem Reps.getV {vs : List V} : ∀ {ds : List D} {i : Nat} {v : V}, Reps K F H vs ds → vs[i]? = some v → ∃ d, ds[i]? = some d ∧ Rep K F H v d := by
  induction vs with
  | nil => intro ds i d _ e; simp at e
  | cons x r ih =>
    intro ds i d h e
    cases h with
    | cons hv ht =>
      cases i with
      | zero => simp at e; subst e; exact ⟨_, rfl, hv⟩
      | succ i => simpa using ih ht (by simpa using e)
theorem Reps.append {ds es : List D} : ∀ {vs ws : List V}, Reps K F H vs ds → Reps K F H ws es → Reps K F H (vs ++ ws) (ds ++ es) := by
  induction ds with
  | nil => intro vs ws h q; cases h; exact q
  | cons x r ih => intro vs ws h q; cases h with | cons a b => exact .cons a (ih b q)
theorem Reps.take {ds : List D} : ∀ {vs : List V} (n : Nat), Reps K F H vs ds → Reps K F H (vs.take n) (ds.take n) := by
  induction ds with
  | nil => intro vs n h; cases h; simp; exact .nil
  | cons x r ih => intro vs n h; cases h with | cons a b => cases n with
    | zero => exact .nil
    | succ n => exact .cons a (ih n b)
theorem Reps.drop {ds : List D} : ∀ {vs : List V} (n : Nat), Reps K F H vs ds → Reps K F H (vs.drop n) (ds.drop n) := by
  induction ds with
  | nil => intro vs n h; cases h; simp; exact .nil
  | cons x r ih => intro vs n h; cases h with | cons a b => cases n with
    | zero => exact .cons a b
    | succ n => exact ih n b
theorem Reps.ints {ds : List Int} : Reps K F H (ds.map V.int) (ds.map D.int) := by
  induction ds with
  | nil => exact .nil
  | cons x r ih => exact .cons (.int x) ih
theorem Reps.of_ints {ns : List Int} : ∀ {vs : List V}, Reps K F H vs (ns.map D.int) → vs = ns.map V.int := by
  induction ns with
  | nil => intro vs h; cases h; rfl
  | cons x r ih => intro vs h; cases h with | cons a b => cases a; rw [List.map_cons, ih b]
theorem Reps.set {ds : List D} : ∀ {vs : List V} (n : Nat) {v : V} {d : D}, Rep K F H v d → Reps K F H vs ds → Reps K F H (vs.set n v) (ds.set n d) := by
  induction ds with
  | nil => intro vs n v d q h; cases h; exact .nil
  | cons x r ih => intro vs n v d q h; cases h with | cons a b => cases n with
    | zero => exact .cons q b
    | succ n => exact .cons a (ih n q b)
theorem Reps.eraseIdx {ds : List D} : ∀ {vs : List V} (n : Nat), Reps K F H vs ds → Reps K F H (vs.eraseIdx n) (ds.eraseIdx n) := by
  induction ds with
  | nil => intro vs n h; cases h; exact .nil
  | cons x r ih => intro vs n h; cases h with | cons a b => cases n with
    | zero => exact b
    | succ n => exact .cons a (ih n b)
theorem Rep.int_inv {v : V} {i : Int} (h : Rep K F H v (.int i)) : v = .int i := by cases h; rfl
theorem Rep.bl_inv {v : V} {b : Bool} (h : Rep K F H v (.bl b)) : v = .bl b := by cases h; rfl
theorem Rep.str_inv {v : V} {x : Str} (h : Rep K F H v (.str x)) : v = .str x := by cases h; rfl
theorem Rep.non_inv {v : V} (h : Rep K F H v .non) : v = .non := by cases h; rfl
theorem Rep.ref_inv {v : V} {a : Addr} (h : Rep K F H v (.ref a)) : v = .ref a := by cases h; rfl
theorem Rep.tup_inv {v : V} {ds : List D} (h : Rep K F H v (.tup ds)) : ∃ a vs, v = .ref a ∧ SqT K H a vs ∧ Reps K F H vs ds := by
  cases h with
  | tup f h r => exact ⟨_, _, rfl, SqT.of h, r⟩
  | tupK h r => exact ⟨_, _, rfl, .inr h, r⟩
theorem Rep.lst_inv {v : V} {ds : List D} (h : Rep K F H v (.lst ds)) : ∃ a vs, v = .ref a ∧ H a = some (.lst vs) ∧ F a ∧ Reps K F H vs ds := by
  cases h with
  | lst f h r => exact ⟨_, _, rfl, h, f, r⟩
theorem Rep.scr_inv {v : V} {ns : List Int} (h : Rep K F H v (.scr ns)) : ∃ a, v = .ref a ∧ SqL K H a (ns.map V.int) := by
  cases h with
  | scr f h => exact ⟨_, rfl, .inl (.inr ⟨_, h⟩)⟩
  | scrK h => exact ⟨_, rfl, .inr h⟩
end

/-! ## slots -/
structure LSt where
  wide : List Int
  cells : List Int
  rest : Int
  turn : Int
inductive Sl where
  | emp | p (d : D) | st (S : LSt) | ml (l : List D)
abbrev Env := List Sl

def stKvs (b c : Addr) (S : LSt) : List (Key × V) := [(Sum.inr ("wide" : Str), V.ref b), (Sum.inr ("cells" : Str), V.ref c), (Sum.inr ("rest" : Str), V.int S.rest), (Sum.inr ("turn" : Str), V.int S.turn)]
def stH (F : Addr → Prop) (H : Hp) (P : Addr → Prop) (a : Addr) (S : LSt) : Prop := ∃ b c, P a ∧ P b ∧ F c ∧ a ≠ b ∧
  H a = some (.dK (stKvs b c S)) ∧ H b = some (.lst (S.wide.map V.int)) ∧ H c = some (.lst (S.cells.map V.int))
inductive SlR (K : PySem.W.Frag) (F : Addr → Prop) (H : Hp) (P : Addr → Prop) : V → Sl → Prop
  | p {v : V} {d : D} : Rep K F H v d → SlR K F H P v (.p d)
  | st {a : Addr} {S : LSt} : stH F H P a S → SlR K F H P (.ref a) (.st S)
  | ml {a : Addr} {vs : List V} {ds : List D} : P a → H a = some (.lst vs) → Reps K F H vs ds → SlR K F H P (.ref a) (.ml ds)
theorem SlR.mono {K : PySem.W.Frag} {F F' P P' : Addr → Prop} {H H' : Hp} (e : Ext F H F' H') (k : ∀ a, P a → P' a ∧ H' a = H a) {v : V} {s : Sl} (h : SlR K F H P v s) : SlR K F' H' P' v s := by
  cases h with
  | p r => exact .p (r.mono e)
  | st h =>
    obtain ⟨b, c, pa, pb, pc, n1, ha, hb, hc⟩ := h
    exact .st ⟨b, c, (k _ pa).1, (k _ pb).1, e.sub _ pc, n1, by rw [(k _ pa).2]; exact ha, by rw [(k _ pb).2]; exact hb, e.kp _ _ pc hc⟩
  | ml pa h r => exact .ml (k _ pa).1 (by rw [(k _ pa).2]; exact h) (r.mono e)

/-- the function's ground: its entry heap, what was frozen, what it may write, where its shared argument stands -/
structure FC where
  F0 : Addr → Prop
  H0 : Hp
  fp0 : Addr → Prop
  io : Option (Nat × V)

structure W (K : PySem.W.Frag) (c : FC) (F : Addr → Prop) (ow : Addr → Option Nat) (H : Hp) (σ : L2.St) (δ : Env) : Prop where
  len : σ.length = δ.length
  sl : ∀ i s, δ[i]? = some s → s = .emp ∨ ∃ v, σ[i]? = some (some v) ∧ SlR K F H (fun a => ow a = some i) v s
  df : ∀ a i, ow a = some i → ¬ F a ∧ H a ≠ none ∧ (c.fp0 a ∨ c.H0 a = none)
  ft : ∀ a, F a → H a ≠ none ∧ (c.F0 a ∨ c.fp0 a ∨ c.H0 a = none)
  kp : ∀ a o, c.H0 a = some o → ¬ c.fp0 a → H a = some o
  io : ∀ j a, c.io = some (j, a) → σ[j]? = some (some a)

section
variable {K : PySem.W.Frag} {c : FC} {F F' : Addr → Prop} {ow ow' : Addr → Option Nat} {H H' : Hp} {σ : L2.St} {δ : Env}
theorem W.pur (w : W K c F ow H σ δ) {i : Nat} {d : D} (h : δ[i]? = some (.p d)) : ∃ v, σ[i]? = some (some v) ∧ Rep K F H v d := by
  rcases w.sl i _ h with z | ⟨v, e, r⟩
  · cases z
  · cases r with | p r => exact ⟨v, e, r⟩
theorem W.fresh (w : W K c F ow H σ δ) {p : Addr} (h : H p = none) : ow p = none ∧ ¬ F p ∧ (c.fp0 p ∨ c.H0 p = none) := by
  refine ⟨?_, fun f => (w.ft p f).1 h, ?_⟩
  · cases q : ow p with
    | none => rfl
    | some i => exact absurd h (w.df p i q).2.1
  · by_cases z : c.fp0 p
    · exact .inl z
    · cases q : c.H0 p with
      | none => exact .inr rfl
      | some o => rw [w.kp p o q z] at h; cases h
/-- a new object, frozen -/
theorem Ext.new (w : W K c F ow H σ δ) {p : Addr} {o : HO} (h : H p = none) : Ext F H (fun a => F a ∨ a = p) (upd H p o) :=
  ⟨fun _ f => .inl f, fun a u f e => by rw [upd_ne (ne_of_none e h)]; exact e⟩
theorem W.new (w : W K c F ow H σ δ) {p : Addr} {o : HO} (h : H p = none) : W K c (fun a => F a ∨ a = p) ow (upd H p o) σ δ where
  len := w.len
  sl := fun i s e => (w.sl i s e).imp id fun ⟨v, q, r⟩ => ⟨v, q, r.mono (Ext.new w h) fun a z => ⟨z, upd_ne fun z' => by subst z'; exact (w.df _ _ z).2.1 h⟩⟩
  df := fun a i z => ⟨fun f => f.elim (w.df a i z).1 fun e => by subst e; exact (w.df _ _ z).2.1 h, by rw [upd_ne (fun e => by subst e; exact (w.df _ _ z).2.1 h)]; exact (w.df a i z).2.1, (w.df a i z).2.2⟩
  ft := fun a f => by
    by_cases e : a = p
    · subst e; rw [upd_same]; exact ⟨by simp, .inr (w.fresh h).2.2⟩
    · rw [upd_ne e]; exact w.ft a (f.resolve_right e)
  kp := fun a u e z => by
    have q := w.kp a u e z
    rw [upd_ne (ne_of_none q h)]; exact q
  io := w.io
/-- a slot is given a frozen value -/
theorem W.set (w : W K c F ow H σ δ) {i : Nat} {v : V} {d : D} (r : Rep K F H v d) (hio : ∀ a, c.io ≠ some (i, a)) : W K c F ow H (σ.set i (some v)) (δ.set i (.p d)) where
  len := by simp [w.len]
  sl := fun j s e => by
    by_cases hj : i = j
    · subst hj
      have hl : i < δ.length := by
        rcases Nat.lt_or_ge i δ.length with z | z
        · exact z
        · rw [List.getElem?_eq_none (by simpa using z)] at e; cases e
      rw [List.getElem?_set_self hl] at e
      cases e
      exact .inr ⟨v, List.getElem?_set_self (by rw [w.len]; exact hl), .p r⟩
    · rw [List.getElem?_set_ne hj] at e
      rw [List.getElem?_set_ne hj]
      exact w.sl j s e
  df := w.df
  ft := w.ft
  kp := w.kp
  io := fun j a e => by
    rw [List.getElem?_set_ne (fun z => by subst z; exact hio a e)]
    exact w.io j a e
end

/-! ## outcomes -/
inductive R (α : Type) where
  | ok (a : α) (δ : Env) | bad
def R.bind {α β : Type} : R α → (α → Env → R β) → R β
  | .ok a δ, k => k a δ
  | .bad, _ => .bad
@[simp] theorem R.bind_ok {α β : Type} (a : α) (δ : Env) (k : α → Env → R β) : (R.ok a δ).bind k = k a δ := rfl
@[simp] theorem R.bind_bad {α β : Type} (k : α → Env → R β) : (R.bad : R α).bind k = .bad := rfl
inductive SRes where
  | nx (δ : Env) | rt (d : D) (δ : Env) | bk (δ : Env) | ct (δ : Env) | bad
def SRes.seq : SRes → (Env → SRes) → SRes
  | .nx δ, g => g δ
  | r, _ => r
@[simp] theorem SRes.seq_nx (δ : Env) (g : Env → SRes) : (SRes.nx δ).seq g = g δ := rfl
@[simp] theorem SRes.seq_rt (d : D) (δ : Env) (g : Env → SRes) : (SRes.rt d δ).seq g = .rt d δ := rfl
@[simp] theorem SRes.seq_bk (δ : Env) (g : Env → SRes) : (SRes.bk δ).seq g = .bk δ := rfl
@[simp] theorem SRes.seq_ct (δ : Env) (g : Env → SRes) : (SRes.ct δ).seq g = .ct δ := rfl
@[simp] theorem SRes.seq_bad (g : Env → SRes) : SRes.bad.seq g = .bad := rfl

abbrev RepF (α β : Type) := (Addr → Prop) → Hp → β → α → Prop
def Go {α β : Type} (K : PySem.W.Frag) (c : FC) (rep : RepF α β) (F : Addr → Prop) (H : Hp) (σ : L2.St) (r : R α) (Q : β → Hp → Prop) : Prop :=
  match r with
  | .ok d δ' => ∀ F' ow' H' v, Ext F H F' H' → W K c F' ow' H' σ δ' → rep F' H' v d → Q v H'
  | .bad => False
def tG {α β : Type} (K : PySem.W.Frag) (c : FC) (rep : RepF α β) (f : Env → R α) : L2.St → Hp → (β → Hp → Prop) → Prop :=
  fun σ H Q => ∃ F ow δ, W K c F ow H σ δ ∧ Go K c rep F H σ (f δ) Q
abbrev repB : RepF Bool Bool := fun _ _ b b' => b = b'
abbrev tD (K : PySem.W.Frag) (c : FC) (f : Env → R D) : TE := tG K c (Rep K) f
abbrev tBn (K : PySem.W.Frag) (c : FC) (f : Env → R Bool) : TT := tG K c repB f
abbrev tAr (K : PySem.W.Frag) (c : FC) (f : Env → R (List D)) : TA := tG K c (Reps K) f

def GoS (K : PySem.W.Frag) (c : FC) (F : Addr → Prop) (H : Hp) (r : SRes) (Dn : Ends) : Prop :=
  match r with
  | .nx δ' => ∀ F' ow' H' σ', Ext F H F' H' → W K c F' ow' H' σ' δ' → Dn.nx σ' H'
  | .rt d δ' => ∀ F' ow' H' σ' v, Ext F H F' H' → W K c F' ow' H' σ' δ' → Rep K F' H' v d → Dn.rt v H'
  | .bk δ' => ∀ F' ow' H' σ', Ext F H F' H' → W K c F' ow' H' σ' δ' → Dn.bk σ' H'
  | .ct δ' => ∀ F' ow' H' σ', Ext F H F' H' → W K c F' ow' H' σ' δ' → Dn.ct σ' H'
  | .bad => False
def tSt (K : PySem.W.Frag) (c : FC) (f : Env → SRes) : TS := fun Dn σ H => ∃ F ow δ, W K c F ow H σ δ ∧ GoS K c F H (f δ) Dn

section
variable {K : PySem.W.Frag} {c : FC} {F F' : Addr → Prop} {H H' : Hp} {σ : L2.St}
theorem Go.mono {α β : Type} {rep : RepF α β} {r : R α} {Q : β → Hp → Prop} (e : Ext F H F' H') (h : Go K c rep F H σ r Q) : Go K c rep F' H' σ r Q := by
  cases r with
  | ok d δ => exact fun F2 ow2 H2 v e2 w2 r2 => h F2 ow2 H2 v (e.trans e2) w2 r2
  | bad => exact h
theorem Go.imp {α β : Type} {rep : RepF α β} {r : R α} {Q Q' : β → Hp → Prop} (i : ∀ v H, Q v H → Q' v H) (h : Go K c rep F H σ r Q) : Go K c rep F H σ r Q' := by
  cases r with
  | ok d δ => exact fun F2 ow2 H2 v e2 w2 r2 => i _ _ (h F2 ow2 H2 v e2 w2 r2)
  | bad => exact h
theorem GoS.mono {r : SRes} {Dn : Ends} (e : Ext F H F' H') (h : GoS K c F H r Dn) : GoS K c F' H' r Dn := by
  cases r with
  | nx δ => exact fun F2 ow2 H2 s2 e2 w2 => h F2 ow2 H2 s2 (e.trans e2) w2
  | rt d δ => exact fun F2 ow2 H2 s2 v e2 w2 r2 => h F2 ow2 H2 s2 v (e.trans e2) w2 r2
  | bk δ => exact fun F2 ow2 H2 s2 e2 w2 => h F2 ow2 H2 s2 (e.trans e2) w2
  | ct δ => exact fun F2 ow2 H2 s2 e2 w2 => h F2 ow2 H2 s2 (e.trans e2) w2
  | bad => exact h
/-- first one part, then what follows, in one state more -/
theorem Go.bind {α β α' β' : Type} {rep : RepF α β} {rep' : RepF α' β'} {r : R α} {k : α → Env → R α'} {Q : β' → Hp → Prop} (h : Go K c rep' F H σ (r.bind k) Q) :
    Go K c rep F H σ r fun v H1 => ∃ F1 ow1 d δ1, Ext F H F1 H1 ∧ W K c F1 ow1 H1 σ δ1 ∧ rep F1 H1 v d ∧ r = .ok d δ1 ∧ Go K c rep' F1 H1 σ (k d δ1) Q := by
  cases r with
  | ok d δ => exact fun F2 ow2 H2 v e2 w2 r2 => ⟨F2, ow2, d, δ, e2, w2, r2, rfl, Go.mono e2 h⟩
  | bad => exact h
end

/-! ## judgements -/
theorem PE.imp {X : Cx} {e : Expr} {t t' : TE} (h : PE X e t) (i : ∀ σ H Q, t' σ H Q → t σ H Q) : PE X e t' := ⟨fun pins s σ H Q I q => h.run pins s σ H Q I (i σ H Q q)⟩
theorem PT.imp {X : Cx} {e : Expr} {t t' : TT} (h : PT X e t) (i : ∀ σ H Q, t' σ H Q → t σ H Q) : PT X e t' := ⟨fun pins s σ H Q I q => h.run pins s σ H Q I (i σ H Q q)⟩
theorem PW.imp {X : Cx} {e : Expr} {t t' : TT} (h : PW X e t) (i : ∀ σ H Q, t' σ H Q → t σ H Q) : PW X e t' := ⟨fun w pins s σ H Q I q => h.run w pins s σ H Q I (i σ H Q q)⟩
theorem PA.imp {X : Cx} {e : List Expr} {t t' : TA} (h : PA X e t) (i : ∀ σ H Q, t' σ H Q → t σ H Q) : PA X e t' := ⟨fun pos pins s σ H Q I q => h.run pos pins s σ H Q I (i σ H Q q)⟩
theorem PS.imp {X : Cx} {e : Stmt} {t t' : TS} (h : PS X e t) (i : ∀ D σ H, t' D σ H → t D σ H) : PS X e t' := ⟨fun pins s σ H D I q => h.run pins s σ H D I (i D σ H q)⟩
theorem PSs.imp {X : Cx} {e : List Stmt} {t t' : TS} (h : PSs X e t) (i : ∀ D σ H, t' D σ H → t D σ H) : PSs X e t' := ⟨fun pins s σ H D I q => h.run pins s σ H D I (i D σ H q)⟩

abbrev DE (X : Cx) (c : FC) (e : Expr) (f : Env → R D) : Prop := PE X e (tD X.K c f)
abbrev DT (X : Cx) (c : FC) (e : Expr) (f : Env → R Bool) : Prop := PT X e (tBn X.K c f)
abbrev DW (X : Cx) (c : FC) (e : Expr) (f : Env → R Bool) : Prop := PW X e (tBn X.K c f)
abbrev DA (X : Cx) (c : FC) (es : List Expr) (f : Env → R (List D)) : Prop := PA X es (tAr X.K c f)
abbrev DS (X : Cx) (c : FC) (s : Stmt) (f : Env → SRes) : Prop := PS X s (tSt X.K c f)
abbrev DSs (X : Cx) (c : FC) (s : List Stmt) (f : Env → SRes) : Prop := PSs X s (tSt X.K c f)

section
variable {X : Cx} {c : FC} {a b e : Expr} {fa fb : Env → R D} {pos : Pos}
/-! ### names, constants -/
def dV (i : Nat) (δ : Env) : R D := match δ[i]? with
  | some (.p d) => .ok d δ
  | _ => .bad
def dC (d : D) (δ : Env) : R D := .ok d δ
theorem de_var (i : Nat) (h : PE X e (tVar i)) : DE X c e (dV i) := PE.imp h fun σ H Q ⟨F, ow, δ, w, g⟩ => by
  unfold dV at g
  split at g
  · rename_i d q
    obtain ⟨v, ev, r⟩ := w.pur q
    exact ⟨v, ev, g F ow H v (Ext.refl _ _) w r⟩
  · exact g.elim
theorem de_con {v : V} {d : D} (h : PE X e (tC v)) (r : ∀ F H, Rep X.K F H v d) : DE X c e (dC d) := PE.imp h fun σ H Q ⟨F, ow, δ, w, g⟩ => g F ow H v (Ext.refl _ _) w (r F H)
theorem de_int {i : Int} {j : Nat} {p : Pos} : DE X c (.Constant (.int i) j p) (dC (.int i)) := de_con pe_int fun _ _ => .int i
theorem de_bl {i : Bool} {j : Nat} {p : Pos} : DE X c (.Constant (.bool i) j p) (dC (.bl i)) := de_con pe_bl fun _ _ => .bl i
theorem de_non {j : Nat} {p : Pos} : DE X c (.Constant .none j p) (dC .non) := de_con pe_non fun _ _ => .non
theorem de_str {x : Str} {j : Nat} {p : Pos} : DE X c (.Constant (.str x) j p) (dC (.str x)) := de_con pe_str fun _ _ => .str x

/-! ### two-place operators -/
def dOp (g : D → D → Option D) (fa fb : Env → R D) (δ : Env) : R D := (fa δ).bind fun x δ1 => (fb δ1).bind fun y δ2 => match g x y with
  | some z => .ok z δ2
  | none => .bad
/-- an operation that makes nothing: r by values, g by data -/
def OpD (K : PySem.W.Frag) (r : R2) (g : D → D → Option D) : Prop := ∀ (c : FC) (F : Addr → Prop) (ow : Addr → Option Nat) (H : Hp) (σ : L2.St) (δ : Env) (x y : D) (v u : V) (z : D) (Q : VK), W K c F ow H σ δ → Rep K F H v x → Rep K F H u y → g x y = some z →
  Go K c (Rep K) F H σ (.ok z δ) Q → r v u H Q
theorem op_imp {r : R2} {g : D → D → Option D} (ho : OpD X.K r g) (σ : L2.St) (H : Hp) (Q : VK) (h : tD X.K c (dOp g fa fb) σ H Q) : tOp r (tD X.K c fa) (tD X.K c fb) σ H Q := by
  obtain ⟨F, ow, δ, w, g1⟩ := h
  refine ⟨F, ow, δ, w, Go.imp (fun v H1 h1 => ?_) (Go.bind (rep := Rep X.K) g1)⟩
  obtain ⟨F1, ow1, d, δ1, e1, w1, r1, _, g2⟩ := h1
  refine ⟨F1, ow1, δ1, w1, Go.imp (fun u H2 h2 => ?_) (Go.bind (rep := Rep X.K) g2)⟩
  obtain ⟨F2, ow2, d2, δ2, e2, w2, r2, _, g3⟩ := h2
  cases q : g d d2 with
  | none => rw [q] at g3; exact g3.elim
  | some z =>
    rw [q] at g3
    exact ho c F2 ow2 H2 σ δ2 d d2 v u z Q w2 (r1.mono e2) r2 q g3
theorem de_op {op : Operator} {r : R2} {g : D → D → Option D} (hr : OpR X (binaryOp op) r) (ho : OpD X.K r g) (ha : DE X c a fa) (hb : DE X c b fb) : DE X c (.BinOp a op b pos) (dOp g fa fb) :=
  PE.imp (pe_op hr ha hb) (op_imp ho)
end
end PV

namespace PV
open PySem PySem.Spec PyProof.Rows L2

/-! ## data as the library's -/
mutual
def D.py : D → Option PyData
  | .non => some .none
  | .bl b => some (.bool b)
  | .int i => some (.int i)
  | .str x => some (.str x)
  | .tup l => (D.pys l).map .tuple
  | .lst l => (D.pys l).map .list
  | .ref _ => none
  | .scr _ => none
  | .rng _ _ => none
def D.pys : List D → Option (List PyData)
  | [] => some []
  | x :: r => (D.py x).bind fun a => (D.pys r).map fun b => a :: b
end
section
variable {K : PySem.W.Frag} {F : Addr → Prop} {H : Hp}
mutual
theorem Rep.dp : ∀ {d : D} {v : V} {p : PyData}, Rep K F H v d → d.py = some p → Dp K H v p
  | .non, _, _, h, e => by cases h; cases e; exact .non
  | .bl b, _, _, h, e => by cases h; cases e; exact .bl b
  | .int i, _, _, h, e => by cases h; cases e; exact .int i
  | .str x, _, _, h, e => by cases h; cases e; exact .str x
  | .tup l, v, p, h, e => by
    obtain ⟨a, vs, rfl, hq, hr⟩ := Rep.tup_inv h
    have e' : (D.pys l).map PyData.tuple = some p := by rw [D.py] at e; exact e
    cases q : D.pys l with
    | none => rw [q] at e'; cases e'
    | some ps => rw [q] at e'; cases e'; exact .tup hq (Reps.dp hr q)
  | .lst l, v, p, h, e => by
    obtain ⟨a, vs, rfl, hq, _, hr⟩ := Rep.lst_inv h
    have e' : (D.pys l).map PyData.list = some p := by rw [D.py] at e; exact e
    cases q : D.pys l with
    | none => rw [q] at e'; cases e'
    | some ps => rw [q] at e'; cases e'; exact .lst (SqL.of hq) (Reps.dp hr q)
  | .ref _, _, _, _, e => by rw [D.py] at e; cases e
  | .scr _, _, _, _, e => by rw [D.py] at e; cases e
  | .rng _ _, _, _, _, e => by rw [D.py] at e; cases e
theorem Reps.dp : ∀ {ds : List D} {vs : List V} {ps : List PyData}, Reps K F H vs ds → D.pys ds = some ps → DpAll K H vs ps
  | [], _, _, h, e => by cases h; rw [D.pys] at e; cases e; exact .nil
  | x :: r, _, ps, h, e => by
    cases h with
    | cons hx hr =>
      rw [D.pys] at e
      cases q : D.py x with
      | none => rw [q] at e; cases e
      | some a =>
        cases q2 : D.pys r with
        | none => rw [q, q2] at e; cases e
        | some b => rw [q, q2] at e; cases e; exact .cons (Rep.dp hx q) (Reps.dp hr q2)
end
end

/-! ## operators -/
def gAdd : D → D → Option D
  | .int i, .int j => some (.int (i + j))
  | .lst a, .lst b => if a.length + b.length ≤ 16000000 then some (.lst (a ++ b)) else none
  | .tup a, .tup b => if a.length + b.length ≤ 16000000 ∧ a ≠ [] ∧ b ≠ [] then some (.tup (a ++ b)) else none
  | .str a, .str b => if a.length + b.length ≤ 16000000 then some (.str (a ++ b)) else none
  | _, _ => none
instance decNil {α : Type} (l : List α) : Decidable (l = []) := match l with
  | [] => isTrue rfl
  | _ :: _ => isFalse (fun h => by cases h)
def gSub : D → D → Option D
  | .int i, .int j => some (.int (i - j))
  | _, _ => none
def gMul : D → D → Option D
  | .int i, .int j => if (i.natAbs < 18446744073709551616 ∨ j.natAbs < 18446744073709551616) ∨ i.natAbs.log2 + j.natAbs.log2 < 1000000 then some (.int (i * j)) else none
  | .lst a, .int j => if 0 ≤ j ∧ j < 16000000 ∧ a.length * j.toNat ≤ 16000000 then some (.lst (List.replicate j.toNat a).flatten) else none
  | _, _ => none
def gDiv : D → D → Option D
  | .int i, .int j => if 0 < j ∧ j.natAbs.log2 < 9000 then some (.int (i / j)) else none
  | _, _ => none
def gMod : D → D → Option D
  | .int i, .int j => if 0 < j then some (.int (i % j)) else none
  | _, _ => none
def gPow : D → D → Option D
  | .int i, .int j => if 0 ≤ j ∧ j ≤ 1000000 ∧ i.natAbs < 18446744073709551616 then some (.int (i ^ j.toNat)) else none
  | _, _ => none
theorem line16 : (16000000 : Nat) ≤ sizeLine := by decide
theorem line16' : sizeLine = 16777216 := by decide
section
variable {K : PySem.W.Frag}
/-- a scalar comes out -/
theorem go_val {c : FC} {F : Addr → Prop} {ow : Addr → Option Nat} {H : Hp} {σ : L2.St} {δ : Env} {z : D} {v : V} {Q : VK} (w : W K c F ow H σ δ) (r : Rep K F H v z) (g : Go K c (Rep K) F H σ (.ok z δ) Q) : Q v H := g F ow H v (Ext.refl _ _) w r
theorem go_new {c : FC} {F : Addr → Prop} {ow : Addr → Option Nat} {H : Hp} {σ : L2.St} {δ : Env} {z : D} {o : HO} {Q : VK} (w : W K c F ow H σ δ) (g : Go K c (Rep K) F H σ (.ok z δ) Q) (r : ∀ p, H p = none → Rep K (fun a => F a ∨ a = p) (upd H p o) (.ref p) z) :
    ∀ p, H p = none → Q (.ref p) (upd H p o) := fun p hp => g _ ow _ _ (Ext.new w hp) (w.new hp) (r p hp)
theorem new_lst {c : FC} {F : Addr → Prop} {ow : Addr → Option Nat} {H : Hp} {σ : L2.St} {δ : Env} {vs : List V} {ds : List D} {Q : VK} (w : W K c F ow H σ δ) (r : Reps K F H vs ds) (g : Go K c (Rep K) F H σ (.ok (.lst ds) δ) Q) :
    ∀ p, H p = none → Q (.ref p) (upd H p (.lst vs)) := go_new w g fun p hp => .lst (.inr rfl) upd_same (r.mono (Ext.new w hp))
theorem new_tup {c : FC} {F : Addr → Prop} {ow : Addr → Option Nat} {H : Hp} {σ : L2.St} {δ : Env} {vs : List V} {ds : List D} {Q : VK} (w : W K c F ow H σ δ) (r : Reps K F H vs ds) (g : Go K c (Rep K) F H σ (.ok (.tup ds) δ) Q) :
    ∀ p, H p = none → Q (.ref p) (upd H p (.tup vs)) := go_new w g fun p hp => .tup (.inr rfl) upd_same (r.mono (Ext.new w hp))
def rAddP (K : PySem.W.Frag) : R2 := fun x y H Q => (rI0 fun i j => .int (i + j)) x y H Q ∨ rCat x y H Q ∨ rCatT K x y H Q ∨ (∃ i j, x = .str i ∧ y = .str j ∧ i.length + j.length ≤ sizeLine ∧ Q (.str (i ++ j)) H)
theorem opr_add {X : Cx} : OpR X (binaryOp .Add) (rAddP X.K) := op_add.or (op_cat.or (op_catT.or op_add_str))
theorem opd_add : OpD K (rAddP K) gAdd := by
  intro c F ow H σ δ x y v u z Q w rx ry e g
  unfold gAdd at e
  split at e
  · cases e; cases rx; cases ry
    exact .inl ⟨_, _, rfl, rfl, go_val w (.int _) g⟩
  · split at e
    · rename_i hz
      cases e
      obtain ⟨p, vs, rfl, hp, _, r1⟩ := rx.lst_inv
      obtain ⟨q, us, rfl, hq, _, r2⟩ := ry.lst_inv
      have := line16
      have l1 := r1.length
      have l2 := r2.length
      exact .inr (.inl ⟨p, q, vs, us, rfl, rfl, hp, hq, by omega, new_lst w (r1.append r2) g⟩)
    · cases e
  · split at e
    · rename_i a b hz
      cases e
      obtain ⟨p, vs, rfl, hp, r1⟩ := rx.tup_inv
      obtain ⟨q, us, rfl, hq, r2⟩ := ry.tup_inv
      have := line16
      have l1 := r1.length
      have l2 := r2.length
      refine .inr (.inr (.inl ⟨p, q, vs, us, rfl, rfl, hp, hq, fun h => ?_, by omega, fun h => ?_, fun _ => new_tup w (r1.append r2) g⟩))
      · subst h; cases a with
        | nil => exact hz.2.1 rfl
        | cons _ _ => cases r1
      · subst h; cases b with
        | nil => exact absurd rfl hz.2.2
        | cons _ _ => cases r2
    · cases e
  · split at e
    · rename_i a b hz
      cases e; cases rx; cases ry
      have := line16
      exact .inr (.inr (.inr ⟨_, _, rfl, rfl, by omega, go_val w (.str _) g⟩))
    · cases e
  · cases e
theorem opd_sub : OpD K (rI0 fun i j => .int (i - j)) gSub := by
  intro c F ow H σ δ x y v u z Q w rx ry e g
  unfold gSub at e
  split at e
  · cases e; cases rx; cases ry; exact ⟨_, _, rfl, rfl, go_val w (.int _) g⟩
  · cases e
def rMulP : R2 := fun x y H Q => (rI CMul fun i j => .int (i * j)) x y H Q ∨ (rI CMulW fun i j => .int (i * j)) x y H Q ∨ rRep x y H Q
theorem opr_mul {X : Cx} : OpR X (binaryOp .Mult) rMulP := op_mul.or (op_mulW.or op_rep)
theorem opd_mul : OpD K rMulP gMul := by
  intro c F ow H σ δ x y v u z Q w rx ry e g
  unfold gMul at e
  split at e
  · split at e
    · rename_i i j hz
      cases e; cases rx; cases ry
      rcases hz with hz | hz
      · refine .inl ⟨_, _, rfl, rfl, ?_, go_val w (.int _) g⟩
        unfold CMul
        omega
      · exact .inr (.inl ⟨_, _, rfl, rfl, hz, go_val w (.int _) g⟩)
    · cases e
  · split at e
    · rename_i a j hz
      cases e; cases ry
      obtain ⟨p, vs, rfl, hp, _, r1⟩ := rx.lst_inv
      have := line16
      have l1 := r1.length
      refine .inr (.inr ⟨p, j, vs, rfl, rfl, hp, by omega, by omega, by rw [l1]; omega, new_lst w ?_ g⟩)
      generalize j.toNat = n
      induction n with
      | zero => exact .nil
      | succ n ih => simp only [List.replicate_succ, List.flatten_cons]; exact r1.append ih
    · cases e
  · cases e
theorem opd_div : OpD K (rI CDivW fun i j => .int (i / j)) gDiv := by
  intro c F ow H σ δ x y v u z Q w rx ry e g
  unfold gDiv at e
  split at e
  · split at e
    · rename_i hz; cases e; cases rx; cases ry; exact ⟨_, _, rfl, rfl, hz, go_val w (.int _) g⟩
    · cases e
  · cases e
theorem opd_mod : OpD K (rI (fun _ j => 0 < j) fun i j => .int (i % j)) gMod := by
  intro c F ow H σ δ x y v u z Q w rx ry e g
  unfold gMod at e
  split at e
  · split at e
    · rename_i hz; cases e; cases rx; cases ry; exact ⟨_, _, rfl, rfl, hz, go_val w (.int _) g⟩
    · cases e
  · cases e
theorem opd_pow : OpD K (rI CPow fun i j => .int (i ^ j.toNat)) gPow := by
  intro c F ow H σ δ x y v u z Q w rx ry e g
  unfold gPow at e
  split at e
  · split at e
    · rename_i hz; cases e; cases rx; cases ry; exact ⟨_, _, rfl, rfl, ⟨hz.1, hz.2.1, by omega⟩, go_val w (.int _) g⟩
    · cases e
  · cases e

/-! ### comparisons -/
def gCmp (f : Int → Int → Bool) : D → D → Option D
  | .int i, .int j => some (.bl (f i j))
  | _, _ => none
theorem opd_cmp (f : Int → Int → Bool) : OpD K (rI0 fun i j => .bl (f i j)) (gCmp f) := by
  intro c F ow H σ δ x y v u z Q w rx ry e g
  unfold gCmp at e
  split at e
  · cases e; cases rx; cases ry; exact ⟨_, _, rfl, rfl, go_val w (.bl _) g⟩
  · cases e
def gEqB : D → D → Option Bool
  | .int i, .int j => some (decide (i = j))
  | .bl i, .bl j => some (decide (i = j))
  | .str i, .str j => some (decide (i = j))
  | x, y => match x.py, y.py with
    | some p, some q => if SeqAt.shaped p = true ∧ SeqAt.shaped q = true then some (PyData.eqv p q) else none
    | _, _ => none
def gEq (neg : Bool) (x y : D) : Option D := (gEqB x y).map fun b => .bl (if neg then !b else b)
def rEqP (K : PySem.W.Frag) : R2 := fun x y H Q => rEq x y H Q ∨ rEqD K x y H Q
def rNeP (K : PySem.W.Frag) : R2 := fun x y H Q => rNe x y H Q ∨ rNeD K x y H Q
theorem opr_eq {X : Cx} (hu : X.A.units + 64 < cLine) : OpR X (compareOp .Eq) (rEqP X.K) := op_eq.or (op_eqD hu)
theorem opr_ne {X : Cx} (hu : X.A.units + 64 < cLine) : OpR X (compareOp .NotEq) (rNeP X.K) := op_ne.or (op_neD hu)
theorem eqd_pre {c : FC} {F : Addr → Prop} {ow : Addr → Option Nat} {H : Hp} {σ : L2.St} {δ : Env} {x y : D} {v u : V} {b : Bool} (rx : Rep K F H v x) (ry : Rep K F H u y) (e : gEqB x y = some b) :
    (scal v u = true ∧ decide (v = u) = b) ∨ ∃ p q, Dp K H v p ∧ Dp K H u q ∧ SeqAt.shaped p = true ∧ SeqAt.shaped q = true ∧ PyData.eqv p q = b := by
  unfold gEqB at e
  split at e
  · cases e; cases rx; cases ry; exact .inl ⟨rfl, by simp⟩
  · cases e; cases rx; cases ry; exact .inl ⟨rfl, by simp⟩
  · cases e; cases rx; cases ry; exact .inl ⟨rfl, by simp⟩
  · split at e
    · rename_i p q hp hq
      split at e
      · rename_i hz; cases e; exact .inr ⟨p, q, rx.dp hp, ry.dp hq, hz.1, hz.2, rfl⟩
      · cases e
    · cases e
theorem opd_eq : OpD K (rEqP K) (gEq false) := by
  intro c F ow H σ δ x y v u z Q w rx ry e g
  unfold gEq at e
  cases q : gEqB x y with
  | none => rw [q] at e; cases e
  | some b =>
    rw [q] at e; cases e
    rcases eqd_pre (c := c) (ow := ow) (σ := σ) (δ := δ) rx ry q with ⟨h1, h2⟩ | ⟨p, q', h1, h2, h3, h4, h5⟩
    · exact .inl ⟨h1, by rw [h2]; exact go_val w (.bl _) g⟩
    · exact .inr ⟨p, q', h1, h2, h3, h4, by rw [h5]; exact go_val w (.bl _) g⟩
theorem opd_ne : OpD K (rNeP K) (gEq true) := by
  intro c F ow H σ δ x y v u z Q w rx ry e g
  unfold gEq at e
  cases q : gEqB x y with
  | none => rw [q] at e; cases e
  | some b =>
    rw [q] at e; cases e
    rcases eqd_pre (c := c) (ow := ow) (σ := σ) (δ := δ) rx ry q with ⟨h1, h2⟩ | ⟨p, q', h1, h2, h3, h4, h5⟩
    · exact .inl ⟨h1, by rw [h2]; exact go_val w (.bl _) g⟩
    · exact .inr ⟨p, q', h1, h2, h3, h4, by rw [h5]; exact go_val w (.bl _) g⟩
def D.isNon : D → Bool
  | .non => true
  | _ => false
theorem Rep.isNon {F : Addr → Prop} {H : Hp} {v : V} {d : D} (r : Rep K F H v d) : decide (v = .non) = d.isNon := by
  cases r <;> rfl
/-- is: None on the right, or two bools -/
def gIs (neg : Bool) : D → D → Option D
  | x, .non => some (.bl (if neg then !x.isNon else x.isNon))
  | .bl a, .bl b => some (.bl (if neg then !decide (a = b) else decide (a = b)))
  | _, _ => none
def rIsP : R2 := fun x y H Q => (y = .non ∧ Q (.bl (decide (x = .non))) H) ∨ rIsB x y H Q
def rIsNP : R2 := fun x y H Q => (y = .non ∧ Q (.bl (!decide (x = .non))) H) ∨ rNotB x y H Q
theorem opr_is {X : Cx} : OpR X (compareOp .Is) rIsP := op_isN.or op_isBl
theorem opr_isnot {X : Cx} : OpR X (compareOp .IsNot) rIsNP := op_notN.or op_notBl
theorem opd_is : OpD K rIsP (gIs false) := by
  intro c F ow H σ δ x y v u z Q w rx ry e g
  unfold gIs at e
  split at e
  · cases e; cases ry
    refine .inl ⟨rfl, ?_⟩
    rw [rx.isNon]; exact go_val w (.bl _) g
  · cases e; cases rx; cases ry
    exact .inr ⟨_, _, rfl, rfl, go_val w (.bl _) g⟩
  · cases e
theorem opd_isnot : OpD K rIsNP (gIs true) := by
  intro c F ow H σ δ x y v u z Q w rx ry e g
  unfold gIs at e
  split at e
  · cases e; cases ry
    refine .inl ⟨rfl, ?_⟩
    rw [rx.isNon]; exact go_val w (.bl _) g
  · cases e; cases rx; cases ry
    exact .inr ⟨_, _, rfl, rfl, go_val w (.bl _) g⟩
  · cases e
end
section
variable {X : Cx} {c : FC} {a b e : Expr} {fa fb fc : Env → R D} {pos : Pos}
theorem de_add (ha : DE X c a fa) (hb : DE X c b fb) : DE X c (.BinOp a .Add b pos) (dOp gAdd fa fb) := de_op opr_add opd_add ha hb
theorem de_sub (ha : DE X c a fa) (hb : DE X c b fb) : DE X c (.BinOp a .Sub b pos) (dOp gSub fa fb) := de_op op_sub opd_sub ha hb
theorem de_mul (ha : DE X c a fa) (hb : DE X c b fb) : DE X c (.BinOp a .Mult b pos) (dOp gMul fa fb) := de_op opr_mul opd_mul ha hb
theorem de_div (ha : DE X c a fa) (hb : DE X c b fb) : DE X c (.BinOp a .FloorDiv b pos) (dOp gDiv fa fb) := de_op op_fdivW opd_div ha hb
theorem de_mod (ha : DE X c a fa) (hb : DE X c b fb) : DE X c (.BinOp a .Mod b pos) (dOp gMod fa fb) := de_op op_mod opd_mod ha hb
theorem de_pow (ha : DE X c a fa) (hb : DE X c b fb) : DE X c (.BinOp a .Pow b pos) (dOp gPow fa fb) := de_op op_pow opd_pow ha hb
abbrev gLt := gCmp fun i j => decide (i < j)
abbrev gLe := gCmp fun i j => decide (i ≤ j)
abbrev gGt := gCmp fun i j => decide (j < i)
abbrev gGe := gCmp fun i j => decide (j ≤ i)
/-- a comparison as a value; as a test -/
theorem de_cmp {op : CmpOp} {r : R2} {g : D → D → Option D} (hr : OpR X (compareOp op) r) (ho : OpD X.K r g) (ha : DE X c a fa) (hb : DE X c b fb) (hm : behindInMarks op b = false) : DE X c (.Compare a [op] [b] pos) (dOp g fa fb) :=
  PE.imp (pe_cmpR hr ha hb hm) (op_imp ho)
def dTst (f : Env → R D) (δ : Env) : R Bool := (f δ).bind fun x δ1 => match x with
  | .bl b => .ok b δ1
  | _ => .bad
theorem tst_imp {t : TE} {f : Env → R D} (i : ∀ σ H Q, tD X.K c f σ H Q → t σ H Q) (σ : L2.St) (H : Hp) (Q : Bool → Hp → Prop) (h : tBn X.K c (dTst f) σ H Q) : tTest t σ H Q := by
  obtain ⟨F, ow, δ, w, g1⟩ := h
  refine i σ H _ ⟨F, ow, δ, w, Go.imp (fun v H1 h1 => ?_) (Go.bind (rep := Rep X.K) g1)⟩
  obtain ⟨F1, ow1, d, δ1, e1, w1, r1, _, g2⟩ := h1
  cases d with
  | bl b => cases r1; exact ⟨b, rfl, g2 F1 ow1 H1 b (Ext.refl _ _) w1 rfl⟩
  | _ => exact g2.elim
theorem dt_cmp {op : CmpOp} {r : R2} {g : D → D → Option D} (hr : OpR X (compareOp op) r) (ho : OpD X.K r g) (ha : DE X c a fa) (hb : DE X c b fb) (hm : behindInMarks op b = false) : DT X c (.Compare a [op] [b] pos) (dTst (dOp g fa fb)) :=
  PT.imp (pt_cmpR hr ha hb hm) (tst_imp (op_imp ho))
def dChain (g g' : D → D → Option D) (fa fb fc : Env → R D) (δ : Env) : R D := (fa δ).bind fun x δ1 => (fb δ1).bind fun y δ2 => match g x y with
  | some (.bl true) => (fc δ2).bind fun z δ3 => match g' y z with
    | some d => .ok d δ3
    | none => .bad
  | some (.bl false) => .ok (.bl false) δ2
  | _ => .bad
theorem chain_imp {r r' : R2} {g g' : D → D → Option D} (ho : OpD X.K r g) (ho' : OpD X.K r' g') (σ : L2.St) (H : Hp) (Q : VK) (h : tD X.K c (dChain g g' fa fb fc) σ H Q) : tChain r r' (tD X.K c fa) (tD X.K c fb) (tD X.K c fc) σ H Q := by
  obtain ⟨F, ow, δ, w, g1⟩ := h
  refine ⟨F, ow, δ, w, Go.imp (fun v H1 h1 => ?_) (Go.bind (rep := Rep X.K) g1)⟩
  obtain ⟨F1, ow1, d, δ1, e1, w1, r1, _, g2⟩ := h1
  refine ⟨F1, ow1, δ1, w1, Go.imp (fun u H2 h2 => ?_) (Go.bind (rep := Rep X.K) g2)⟩
  obtain ⟨F2, ow2, d2, δ2, e2, w2, r2, _, g3⟩ := h2
  split at g3
  · rename_i q
    refine ho c F2 ow2 H2 σ δ2 d d2 v u (.bl true) _ w2 (r1.mono e2) r2 q ?_
    intro F3 ow3 H3 x e3 w3 r3
    cases r3
    refine ⟨true, rfl, ?_⟩
    rw [if_pos rfl]
    refine ⟨F3, ow3, δ2, w3, Go.imp (fun u4 H4 h4 => ?_) (Go.bind (rep := Rep X.K) (Go.mono e3 g3))⟩
    obtain ⟨F4, ow4, d4, δ4, e4, w4, r4, _, g4⟩ := h4
    split at g4
    · rename_i d5 q5
      exact ho' c F4 ow4 H4 σ δ4 d2 d4 u u4 d5 Q w4 (r2.mono (e3.trans e4)) r4 q5 g4
    · exact g4.elim
  · rename_i q
    refine ho c F2 ow2 H2 σ δ2 d d2 v u (.bl false) _ w2 (r1.mono e2) r2 q ?_
    intro F3 ow3 H3 x e3 w3 r3
    cases r3
    refine ⟨false, rfl, ?_⟩
    rw [if_neg Bool.false_ne_true]
    exact g3 F3 ow3 H3 _ e3 w3 (.bl false)
  · exact g3.elim
theorem de_chain {op op' : CmpOp} {r r' : R2} {g g' : D → D → Option D} (hr : OpR X (compareOp op) r) (ho : OpD X.K r g) (hr' : OpR X (compareOp op') r') (ho' : OpD X.K r' g') (ha : DE X c a fa) (hb : DE X c b fb) {d : Expr} (hd : DE X c d fc)
    (hm : lastMarks [op, op'] [b, d] = false := by with_unfolding_all rfl) : DE X c (.Compare a [op, op'] [b, d] pos) (dChain g g' fa fb fc) := PE.imp (pe_chain hr hr' ha hb hd hm) (chain_imp ho ho')
theorem dt_chain {op op' : CmpOp} {r r' : R2} {g g' : D → D → Option D} (hr : OpR X (compareOp op) r) (ho : OpD X.K r g) (hr' : OpR X (compareOp op') r') (ho' : OpD X.K r' g') (ha : DE X c a fa) (hb : DE X c b fb) {d : Expr} (hd : DE X c d fc)
    (hm : lastMarks [op, op'] [b, d] = false := by with_unfolding_all rfl) : DT X c (.Compare a [op, op'] [b, d] pos) (dTst (dChain g g' fa fb fc)) := PT.imp (pt_chain hr hr' ha hb hd hm) (tst_imp (chain_imp ho ho'))

/-! ### truth, and, or, not, if .. else -/
def D.tru : D → Option Bool
  | .non => some false
  | .bl b => some b
  | .int i => some (i != 0)
  | .str x => if x.length ≤ 16000000 then some ((x.length : Int) != 0) else none
  | .tup l => some (!l.isEmpty)
  | .lst l => some (!l.isEmpty)
  | .scr l => some (!l.isEmpty)
  | .ref _ => none
  | .rng _ _ => none
theorem Rep.tru {K : PySem.W.Frag} {F : Addr → Prop} {H : Hp} {v : V} {d : D} {k : Bool} (r : Rep K F H v d) (e : d.tru = some k) : TruV K v H k := by
  have em : ∀ {vs : List V} {ds : List D}, Reps K F H vs ds → vs.isEmpty = ds.isEmpty := fun h => by cases h <;> rfl
  cases d with
  | non => cases r; cases e; rfl
  | bl b => cases r; cases e; rfl
  | int i => cases r; cases e; rfl
  | str x =>
    cases r
    have e' : (if x.length ≤ 16000000 then some ((x.length : Int) != 0) else none) = some k := e
    by_cases h : x.length ≤ 16000000
    · rw [if_pos h] at e'; cases e'; exact ⟨Nat.le_trans h line16, rfl⟩
    · rw [if_neg h] at e'; cases e'
  | tup l => obtain ⟨a, vs, rfl, h, q⟩ := r.tup_inv; cases e; exact .inr (.inl ⟨vs, h, by rw [em q]⟩)
  | lst l => obtain ⟨a, vs, rfl, h, _, q⟩ := r.lst_inv; cases e; exact .inl ⟨vs, SqL.of h, by rw [em q]⟩
  | scr l => obtain ⟨a, rfl, h⟩ := r.scr_inv; cases e; exact .inl ⟨_, h, by cases l <;> rfl⟩
  | ref _ => cases e
  | rng _ _ => cases e
def dTru (f : Env → R D) (δ : Env) : R Bool := (f δ).bind fun x δ1 => match x.tru with
  | some b => .ok b δ1
  | none => .bad
theorem dt_tru {f : Env → R D} (h : DE X c e f) (he : ∀ whole, isTrue e X.env whole = (do let v ← whole; standAt e.pos; holding [v] (truthy v)) := by intro _; rfl) : DT X c e (dTru f) :=
  PT.imp (pt_truth h he) fun σ H Q ⟨F, ow, δ, w, g1⟩ => ⟨F, ow, δ, w, Go.imp (fun v H1 h1 => by
    obtain ⟨F1, ow1, d, δ1, e1, w1, r1, _, g2⟩ := h1
    split at g2
    · rename_i b q
      exact ⟨b, r1.tru q, g2 F1 ow1 H1 b (Ext.refl _ _) w1 rfl⟩
    · exact g2.elim) (Go.bind (rep := Rep X.K) g1)⟩
def dAnd (f g : Env → R Bool) (δ : Env) : R Bool := (f δ).bind fun b δ1 => if b = true then g δ1 else .ok false δ1
def dOr (f g : Env → R Bool) (δ : Env) : R Bool := (f δ).bind fun b δ1 => if b = true then .ok true δ1 else g δ1
def dNot (f : Env → R Bool) (δ : Env) : R Bool := (f δ).bind fun b δ1 => .ok (!b) δ1
section
variable {f g : Env → R Bool} {rest : List Expr}
theorem dw_and1 (ha : DT X c a f) : DW X c (.BoolOp .And [a] pos) f := pw_and1 ha
theorem dw_or1 (ha : DT X c a f) : DW X c (.BoolOp .Or [a] pos) f := pw_or1 ha
theorem dw_and (ha : DT X c a f) (hb : DW X c (.BoolOp .And (b :: rest) pos) g) : DW X c (.BoolOp .And (a :: b :: rest) pos) (dAnd f g) :=
  PW.imp (pw_and ha hb) fun σ H Q ⟨F, ow, δ, w, g1⟩ => ⟨F, ow, δ, w, Go.imp (fun v H1 h1 => by
    obtain ⟨F1, ow1, d, δ1, e1, w1, r1, _, g2⟩ := h1
    cases r1
    cases v
    · rw [if_neg Bool.false_ne_true]; rw [if_neg Bool.false_ne_true] at g2; exact g2 F1 ow1 H1 false (Ext.refl _ _) w1 rfl
    · rw [if_pos rfl]; rw [if_pos rfl] at g2; exact ⟨F1, ow1, δ1, w1, g2⟩) (Go.bind (rep := repB) g1)⟩
theorem dw_or (ha : DT X c a f) (hb : DW X c (.BoolOp .Or (b :: rest) pos) g) : DW X c (.BoolOp .Or (a :: b :: rest) pos) (dOr f g) :=
  PW.imp (pw_or ha hb) fun σ H Q ⟨F, ow, δ, w, g1⟩ => ⟨F, ow, δ, w, Go.imp (fun v H1 h1 => by
    obtain ⟨F1, ow1, d, δ1, e1, w1, r1, _, g2⟩ := h1
    cases r1
    cases v
    · rw [if_neg Bool.false_ne_true]; rw [if_neg Bool.false_ne_true] at g2; exact ⟨F1, ow1, δ1, w1, g2⟩
    · rw [if_pos rfl]; rw [if_pos rfl] at g2; exact g2 F1 ow1 H1 true (Ext.refl _ _) w1 rfl) (Go.bind (rep := repB) g1)⟩
theorem dt_bool (h : DW X c e f) : DT X c e f := PW.pt h
theorem dt_not (ha : DT X c a f) : DT X c (.UnaryOp .Not a pos) (dNot f) :=
  PT.imp (pt_not ha) fun σ H Q ⟨F, ow, δ, w, g1⟩ => ⟨F, ow, δ, w, Go.imp (fun v H1 h1 => by
    obtain ⟨F1, ow1, d, δ1, e1, w1, r1, _, g2⟩ := h1
    cases r1
    exact g2 F1 ow1 H1 _ (Ext.refl _ _) w1 rfl) (Go.bind (rep := repB) g1)⟩
end
def dAndV (fa fb : Env → R D) (δ : Env) : R D := (fa δ).bind fun x δ1 => match x with
  | .bl true => fb δ1
  | .bl false => .ok (.bl false) δ1
  | _ => .bad
def dOrV (fa fb : Env → R D) (δ : Env) : R D := (fa δ).bind fun x δ1 => match x with
  | .bl false => fb δ1
  | .bl true => .ok (.bl true) δ1
  | _ => .bad
def dNotV (fa : Env → R D) (δ : Env) : R D := (fa δ).bind fun x δ1 => match x with
  | .bl b => .ok (.bl (!b)) δ1
  | _ => .bad
theorem de_one {op : BoolOp} {f : Env → R D} (h : DE X c a f) : DE X c (.BoolOp op [a] pos) f := pe_one h
theorem de_and {rest : List Expr} (ha : DE X c a fa) (hb : DE X c (.BoolOp .And (b :: rest) pos) fb) : DE X c (.BoolOp .And (a :: b :: rest) pos) (dAndV fa fb) :=
  PE.imp (pe_and ha hb) fun σ H Q ⟨F, ow, δ, w, g1⟩ => ⟨F, ow, δ, w, Go.imp (fun v H1 h1 => by
    obtain ⟨F1, ow1, d, δ1, e1, w1, r1, _, g2⟩ := h1
    split at g2
    · cases r1; refine ⟨true, rfl, ?_⟩; rw [if_pos rfl]; exact ⟨F1, ow1, δ1, w1, g2⟩
    · cases r1; refine ⟨false, rfl, ?_⟩; rw [if_neg Bool.false_ne_true]; exact g2 F1 ow1 H1 _ (Ext.refl _ _) w1 (.bl false)
    · exact g2.elim) (Go.bind (rep := Rep X.K) g1)⟩
theorem de_or {rest : List Expr} (ha : DE X c a fa) (hb : DE X c (.BoolOp .Or (b :: rest) pos) fb) : DE X c (.BoolOp .Or (a :: b :: rest) pos) (dOrV fa fb) :=
  PE.imp (pe_or ha hb) fun σ H Q ⟨F, ow, δ, w, g1⟩ => ⟨F, ow, δ, w, Go.imp (fun v H1 h1 => by
    obtain ⟨F1, ow1, d, δ1, e1, w1, r1, _, g2⟩ := h1
    split at g2
    · cases r1; refine ⟨false, rfl, ?_⟩; rw [if_neg Bool.false_ne_true]; exact ⟨F1, ow1, δ1, w1, g2⟩
    · cases r1; refine ⟨true, rfl, ?_⟩; rw [if_pos rfl]; exact g2 F1 ow1 H1 _ (Ext.refl _ _) w1 (.bl true)
    · exact g2.elim) (Go.bind (rep := Rep X.K) g1)⟩
theorem de_not (ha : DE X c a fa) : DE X c (.UnaryOp .Not a pos) (dNotV fa) :=
  PE.imp (pe_not ha) fun σ H Q ⟨F, ow, δ, w, g1⟩ => ⟨F, ow, δ, w, Go.imp (fun v H1 h1 => by
    obtain ⟨F1, ow1, d, δ1, e1, w1, r1, _, g2⟩ := h1
    split at g2
    · cases r1; exact ⟨_, rfl, g2 F1 ow1 H1 _ (Ext.refl _ _) w1 (.bl _)⟩
    · exact g2.elim) (Go.bind (rep := Rep X.K) g1)⟩
def dIf (t : Env → R Bool) (fa fb : Env → R D) (δ : Env) : R D := (t δ).bind fun b δ1 => if b = true then fa δ1 else fb δ1
theorem de_if {t : Env → R Bool} (ht : DT X c e t) (ha : DE X c a fa) (hb : DE X c b fb) : DE X c (.IfExp e a b pos) (dIf t fa fb) :=
  PE.imp (pe_ifExp ht ha hb) fun σ H Q ⟨F, ow, δ, w, g1⟩ => ⟨F, ow, δ, w, Go.imp (fun v H1 h1 => by
    obtain ⟨F1, ow1, d, δ1, e1, w1, r1, _, g2⟩ := h1
    cases r1
    cases v
    · rw [if_neg Bool.false_ne_true]; rw [if_neg Bool.false_ne_true] at g2; exact ⟨F1, ow1, δ1, w1, g2⟩
    · rw [if_pos rfl]; rw [if_pos rfl] at g2; exact ⟨F1, ow1, δ1, w1, g2⟩) (Go.bind (rep := repB) g1)⟩
def dUn (g : D → Option D) (fa : Env → R D) (δ : Env) : R D := (fa δ).bind fun x δ1 => match g x with
  | some z => .ok z δ1
  | none => .bad
def gNeg : D → Option D
  | .int i => some (.int (-i))
  | _ => none
theorem de_neg (ha : DE X c a fa) : DE X c (.UnaryOp .USub a pos) (dUn gNeg fa) :=
  PE.imp (pe_un un_neg ha) fun σ H Q ⟨F, ow, δ, w, g1⟩ => ⟨F, ow, δ, w, Go.imp (fun v H1 h1 => by
    obtain ⟨F1, ow1, d, δ1, e1, w1, r1, _, g2⟩ := h1
    cases d with
    | int i => cases r1; exact ⟨i, rfl, g2 F1 ow1 H1 _ (Ext.refl _ _) w1 (.int _)⟩
    | _ => exact g2.elim) (Go.bind (rep := Rep X.K) g1)⟩

/-! ### argument lists, displays -/
def dNil (δ : Env) : R (List D) := .ok [] δ
def dCons (f : Env → R D) (g : Env → R (List D)) (δ : Env) : R (List D) := (f δ).bind fun x δ1 => (g δ1).bind fun xs δ2 => .ok (x :: xs) δ2
theorem da_nil : DA X c [] dNil := PA.imp pa_nil fun σ H Q ⟨F, ow, δ, w, g1⟩ => g1 F ow H [] (Ext.refl _ _) w .nil
theorem da_cons {es : List Expr} {g : Env → R (List D)} (ha : DE X c e fa) (hr : DA X c es g) (hs : starEach (e :: es) X.env = (false, eval e X.env) :: starEach es X.env := by rfl) : DA X c (e :: es) (dCons fa g) :=
  PA.imp (pa_cons ha hr hs) fun σ H Q ⟨F, ow, δ, w, g1⟩ => ⟨F, ow, δ, w, Go.imp (fun v H1 h1 => by
    obtain ⟨F1, ow1, d, δ1, e1, w1, r1, _, g2⟩ := h1
    refine ⟨F1, ow1, δ1, w1, Go.imp (fun vs H2 h2 => ?_) (Go.bind (rep := Reps X.K) g2)⟩
    obtain ⟨F2, ow2, ds, δ2, e2, w2, r2, _, g3⟩ := h2
    exact g3 F2 ow2 H2 (v :: vs) (Ext.refl _ _) w2 (.cons (r1.mono e2) r2)) (Go.bind (rep := Rep X.K) g1)⟩
def dSeq (k : List D → D) (g : Env → R (List D)) (δ : Env) : R D := (g δ).bind fun xs δ1 => if xs.length ≤ 16000000 then .ok (k xs) δ1 else .bad
theorem de_tup {es : List Expr} {g : Env → R (List D)} {x1 : Nat} (h : DA X c es g) : DE X c (.Tuple es x1 pos) (dSeq .tup g) :=
  PE.imp (pe_tup h) fun σ H Q ⟨F, ow, δ, w, g1⟩ => ⟨F, ow, δ, w, Go.imp (fun v H1 h1 => by
    obtain ⟨F1, ow1, d, δ1, e1, w1, r1, _, g2⟩ := h1
    split at g2
    · rename_i hz
      exact ⟨by rw [r1.length]; exact Nat.le_trans hz line16, new_tup w1 r1 g2⟩
    · exact g2.elim) (Go.bind (rep := Reps X.K) g1)⟩
theorem de_lst {es : List Expr} {g : Env → R (List D)} (h : DA X c es g) : DE X c (.List es pos) (dSeq .lst g) :=
  PE.imp (pe_lst h) fun σ H Q ⟨F, ow, δ, w, g1⟩ => ⟨F, ow, δ, w, Go.imp (fun v H1 h1 => by
    obtain ⟨F1, ow1, d, δ1, e1, w1, r1, _, g2⟩ := h1
    split at g2
    · rename_i hz
      exact ⟨by rw [r1.length]; exact Nat.le_trans hz line16, new_lst w1 r1 g2⟩
    · exact g2.elim) (Go.bind (rep := Reps X.K) g1)⟩

/-! ### subscripts, slices -/
def gIx : D → D → Option D
  | .lst l, .int i => atI l i
  | .tup l, .int i => atI l i
  | _, _ => none
theorem Reps.at {K : PySem.W.Frag} {F : Addr → Prop} {H : Hp} {vs : List V} {ds : List D} {i : Int} {z : D} (r : Reps K F H vs ds) (e : atI ds i = some z) : ∃ v, atI vs i = some v ∧ Rep K F H v z := by
  unfold atI at e ⊢
  rw [← r.length] at e
  cases q : ixN vs.length i with
  | none => rw [q] at e; cases e
  | some j =>
    rw [q] at e
    obtain ⟨v, h1, h2⟩ := Reps.get r (show ds[j]? = some z from e)
    exact ⟨v, h1, h2⟩
theorem opd_ix {K : PySem.W.Frag} : OpD K (rIx K) gIx := by
  intro c F ow H σ δ x y v u z Q w rx ry e g
  unfold gIx at e
  split at e
  · cases ry
    obtain ⟨p, vs, rfl, hp, _, r1⟩ := rx.lst_inv
    obtain ⟨v, h1, h2⟩ := r1.at e
    exact .inl ⟨p, vs, _, v, rfl, rfl, SqL.of hp, h1, go_val w h2 g⟩
  · cases ry
    obtain ⟨p, vs, rfl, hp, r1⟩ := rx.tup_inv
    obtain ⟨v, h1, h2⟩ := r1.at e
    exact .inr (.inl ⟨p, vs, _, v, rfl, rfl, hp, h1, go_val w h2 g⟩)
  · cases e
theorem de_ix (ha : DE X c a fa) (hb : DE X c b fb) (hs : PlainIx b) : DE X c (.Subscript a b pos) (dOp gIx fa fb) := PE.imp (pe_ix ix_seq ha hb hs) (op_imp opd_ix)
/-- a part of a slice -/
abbrev repO : RepF (Option Int) (Option Int) := fun _ _ a b => a = b
abbrev DO (X : Cx) (c : FC) (e : Option Expr) (f : Env → R (Option Int)) : Prop := PO X e (tG X.K c repO f)
def dNo (δ : Env) : R (Option Int) := .ok none δ
def dPart (f : Env → R D) (δ : Env) : R (Option Int) := (f δ).bind fun x δ1 => match x with
  | .int i => .ok (some i) δ1
  | _ => .bad
theorem PO.imp {e : Option Expr} {t t' : TO} (h : PO X e t) (i : ∀ σ H Q, t' σ H Q → t σ H Q) : PO X e t' := ⟨fun pins s σ H Q I q => h.run pins s σ H Q I (i σ H Q q)⟩
theorem do_none : DO X c none dNo := PO.imp po_none fun σ H Q ⟨F, ow, δ, w, g1⟩ => g1 F ow H none (Ext.refl _ _) w rfl
theorem do_some (h : DE X c e fa) : DO X c (some e) (dPart fa) :=
  PO.imp (po_some h) fun σ H Q ⟨F, ow, δ, w, g1⟩ => ⟨F, ow, δ, w, Go.imp (fun v H1 h1 => by
    obtain ⟨F1, ow1, d, δ1, e1, w1, r1, _, g2⟩ := h1
    cases d with
    | int i => cases r1; exact ⟨i, rfl, g2 F1 ow1 H1 _ (Ext.refl _ _) w1 rfl⟩
    | _ => exact g2.elim) (Go.bind (rep := Rep X.K) g1)⟩
def cutD (xs : List D) (lo hi : Option Int) : List D := (xs.drop (HT.sIx xs.length 0 lo)).take (HT.sIx xs.length xs.length hi - HT.sIx xs.length 0 lo)
theorem Reps.cut {K : PySem.W.Frag} {F : Addr → Prop} {H : Hp} {vs : List V} {ds : List D} (lo hi : Option Int) (r : Reps K F H vs ds) : Reps K F H (cutV vs lo hi) (cutD ds lo hi) := by
  unfold cutV cutD
  rw [r.length]
  exact (r.drop _).take _
def gSl : D → Option Int → Option Int → Option D
  | .lst l, lo, hi => some (.lst (cutD l lo hi))
  | .tup l, lo, hi => if HT.sIx l.length 0 lo = 0 ∧ HT.sIx l.length l.length hi = l.length then none else some (.tup (cutD l lo hi))
  | _, _, _ => none
def dSl (f : Env → R D) (lo hi : Env → R (Option Int)) (δ : Env) : R D := (f δ).bind fun x δ1 => (lo δ1).bind fun l δ2 => (hi δ2).bind fun h δ3 => match gSl x l h with
  | some z => .ok z δ3
  | none => .bad
theorem de_sl {lo hi : Option Expr} {fl fh : Env → R (Option Int)} {p2 : Pos} (he : DE X c e fa) (hl : DO X c lo fl) (hh : DO X c hi fh) : DE X c (.Subscript e (.Slice lo hi none p2) pos) (dSl fa fl fh) :=
  PE.imp (pe_slice (SlR.or sl_list sl_tup) he hl hh) fun σ H Q ⟨F, ow, δ, w, g1⟩ => ⟨F, ow, δ, w, Go.imp (fun v H1 h1 => by
    obtain ⟨F1, ow1, d, δ1, e1, w1, r1, _, g2⟩ := h1
    refine ⟨F1, ow1, δ1, w1, Go.imp (fun l H2 h2 => ?_) (Go.bind (rep := repO) g2)⟩
    obtain ⟨F2, ow2, l', δ2, e2, w2, r2, _, g3⟩ := h2
    cases r2
    refine ⟨F2, ow2, δ2, w2, Go.imp (fun u H3 h3 => ?_) (Go.bind (rep := repO) g3)⟩
    obtain ⟨F3, ow3, u', δ3, e3, w3, r3, _, g4⟩ := h3
    cases r3
    have r := r1.mono (e2.trans e3)
    split at g4
    · rename_i z q
      unfold gSl at q
      split at q
      · cases q
        obtain ⟨p, vs, rfl, hp, _, r4⟩ := r.lst_inv
        exact .inl ⟨p, vs, rfl, SqL.of hp, new_lst w3 (r4.cut _ _) g4⟩
      · split at q
        · cases q
        · rename_i hn
          cases q
          obtain ⟨p, vs, rfl, hp, r4⟩ := r.tup_inv
          exact .inr ⟨p, vs, rfl, hp, by rw [r4.length]; exact hn, new_tup w3 (r4.cut _ _) g4⟩
      · cases q
    · exact g4.elim) (Go.bind (rep := Rep X.K) g1)⟩

/-! ### built-ins by values -/
def dCall (g : List D → Option D) (f : Env → R (List D)) (δ : Env) : R D := (f δ).bind fun xs δ1 => match g xs with
  | some z => .ok z δ1
  | none => .bad
def CallD (K : PySem.W.Frag) (r : List V → Hp → VK → Prop) (g : List D → Option D) : Prop := ∀ (c : FC) (F : Addr → Prop) (ow : Addr → Option Nat) (H : Hp) (σ : L2.St) (δ : Env) (xs : List D) (vs : List V) (z : D) (Q : VK), W K c F ow H σ δ → Reps K F H vs xs → g xs = some z →
  Go K c (Rep K) F H σ (.ok z δ) Q → r vs H Q
theorem call_imp {r : List V → Hp → VK → Prop} {g : List D → Option D} {f : Env → R (List D)} (ho : CallD X.K r g) (σ : L2.St) (H : Hp) (Q : VK) (h : tD X.K c (dCall g f) σ H Q) : tCB r (tAr X.K c f) σ H Q := by
  obtain ⟨F, ow, δ, w, g1⟩ := h
  refine ⟨F, ow, δ, w, Go.imp (fun v H1 h1 => ?_) (Go.bind (rep := Reps X.K) g1)⟩
  obtain ⟨F1, ow1, d, δ1, e1, w1, r1, _, g2⟩ := h1
  cases q : g d with
  | none => rw [q] at g2; exact g2.elim
  | some z => rw [q] at g2; exact ho c F1 ow1 H1 σ δ1 d v z Q w1 r1 q g2
theorem de_callB {x : Str} {id : String} {r : List V → Hp → VK → Prop} {g : List D → Option D} {p : Pos} {es : List Expr} {f : Env → R (List D)} (hr : CallR X (.builtin id) r) (ho : CallD X.K r g) (hg : Gl X x) (hm : X.mg x = none) (hv : bootBuiltins x = some (.builtin id)) (ha : DA X c (e :: es) f)
    (hn : x ≠ "__name__" := by decide) (hdb : (x == ("__debug__" : Str)) = false := by decide) (he : starEach (e :: es) X.env = (false, eval e X.env) :: starEach es X.env := by rfl) (hpl : (backTo pos (starEach es X.env)).any (·.1) = false := by rfl) :
    DE X c (.Call (.Name x p) (e :: es) [] pos) (dCall g f) := PE.imp (pe_callB hr hg hm hv ha hn hdb he hpl) (call_imp ho)
theorem de_callT {x : Str} {id : String} {r : List V → Hp → VK → Prop} {g : List D → Option D} {p : Pos} {es : List Expr} {f : Env → R (List D)} (hr : CallR X (.type id) r) (ho : CallD X.K r g) (hg : Gl X x) (hm : X.mg x = none) (hv : bootBuiltins x = some (.type id)) (ha : DA X c (e :: es) f)
    (hn : x ≠ "__name__" := by decide) (hdb : (x == ("__debug__" : Str)) = false := by decide) (he : starEach (e :: es) X.env = (false, eval e X.env) :: starEach es X.env := by rfl) (hpl : (backTo pos (starEach es X.env)).any (·.1) = false := by rfl) :
    DE X c (.Call (.Name x p) (e :: es) [] pos) (dCall g f) := PE.imp (pe_callTy hr hg hm hv ha hn hdb he hpl) (call_imp ho)
def gInt : List D → Option D
  | [.int i] => some (.int i)
  | [.bl b] => some (.int (if b then 1 else 0))
  | _ => none
def gAbs : List D → Option D
  | [.int i] => some (.int (if i < 0 then -i else i))
  | _ => none
def gMin : List D → Option D
  | [.int i, .int j] => some (.int (if j < i then j else i))
  | _ => none
def gMax : List D → Option D
  | [.int i, .int j] => some (.int (if j > i then j else i))
  | _ => none
def gLen : List D → Option D
  | [.lst l] => some (.int l.length)
  | [.tup l] => some (.int l.length)
  | [.scr l] => some (.int l.length)
  | [.str x] => if x.length ≤ 16000000 then some (.int x.length) else none
  | _ => none
def D.ints : List D → Option (List Int)
  | [] => some []
  | .int i :: r => (D.ints r).map (i :: ·)
  | _ => none
def gSum : List D → Option D
  | [.lst l] => (D.ints l).map fun ns => .int ns.sum
  | _ => none
section
variable {K : PySem.W.Frag}
theorem cd_int : CallD K (fun xs H Q => (∃ i, xs = [.int i] ∧ Q (.int i) H) ∨ ∃ k, xs = [.bl k] ∧ Q (.int (if k then 1 else 0)) H) gInt := by
  intro c F ow H σ δ xs vs z Q w r e g
  unfold gInt at e
  split at e
  · cases e; cases r with | cons a b => cases a; cases b; exact .inl ⟨_, rfl, go_val w (.int _) g⟩
  · cases e; cases r with | cons a b => cases a; cases b; exact .inr ⟨_, rfl, go_val w (.int _) g⟩
  · cases e
theorem cd_abs : CallD K (fun xs H Q => ∃ i, xs = [.int i] ∧ Q (.int (if i < 0 then -i else i)) H) gAbs := by
  intro c F ow H σ δ xs vs z Q w r e g
  unfold gAbs at e
  split at e
  · cases e; cases r with | cons a b => cases a; cases b; exact ⟨_, rfl, go_val w (.int _) g⟩
  · cases e
theorem cd_min : CallD K (fun xs H Q => ∃ i j, xs = [.int i, .int j] ∧ Q (.int (if j < i then j else i)) H) gMin := by
  intro c F ow H σ δ xs vs z Q w r e g
  unfold gMin at e
  split at e
  · cases e; cases r with | cons a b => cases a; cases b with | cons a b => cases a; cases b; exact ⟨_, _, rfl, go_val w (.int _) g⟩
  · cases e
theorem cd_max : CallD K (fun xs H Q => ∃ i j, xs = [.int i, .int j] ∧ Q (.int (if j > i then j else i)) H) gMax := by
  intro c F ow H σ δ xs vs z Q w r e g
  unfold gMax at e
  split at e
  · cases e; cases r with | cons a b => cases a; cases b with | cons a b => cases a; cases b; exact ⟨_, _, rfl, go_val w (.int _) g⟩
  · cases e
theorem cd_len : CallD K (fun xs H Q => ∃ x n, xs = [x] ∧ LenV K x H n ∧ Q (.int n) H) gLen := by
  intro c F ow H σ δ xs vs z Q w r e g
  unfold gLen at e
  split at e
  · cases e; cases r with | cons a b => cases b; obtain ⟨p, us, rfl, hp, _, r1⟩ := a.lst_inv; exact ⟨_, _, rfl, .inl ⟨us, SqL.of hp, r1.length.symm⟩, go_val w (.int _) g⟩
  · cases e; cases r with | cons a b => cases b; obtain ⟨p, us, rfl, hp, r1⟩ := a.tup_inv; exact ⟨_, _, rfl, .inr ⟨us, hp, r1.length.symm⟩, go_val w (.int _) g⟩
  · cases e; cases r with | cons a b => cases b; obtain ⟨p, rfl, hp⟩ := a.scr_inv; exact ⟨_, _, rfl, .inl ⟨_, hp, by rw [List.length_map]⟩, go_val w (.int _) g⟩
  · split at e
    · rename_i hz; cases e; cases r with | cons a b => cases a; cases b; exact ⟨_, _, rfl, ⟨Nat.le_trans hz line16, rfl⟩, go_val w (.int _) g⟩
    · cases e
  · cases e
theorem D.ints_eq : ∀ {l : List D} {ns : List Int}, D.ints l = some ns → l = ns.map D.int
  | [], ns, e => by unfold D.ints at e; cases e; rfl
  | .int i :: r, ns, e => by
    unfold D.ints at e
    cases q : D.ints r with
    | none => rw [q] at e; cases e
    | some m => rw [q] at e; cases e; rw [D.ints_eq q]; rfl
  | .non :: _, _, e | .bl _ :: _, _, e | .str _ :: _, _, e | .tup _ :: _, _, e | .lst _ :: _, _, e | .ref _ :: _, _, e | .scr _ :: _, _, e => by unfold D.ints at e; cases e
theorem D.ints_map (ns : List Int) : D.ints (ns.map D.int) = some ns := by
  induction ns with
  | nil => rfl
  | cons x r ih => rw [List.map_cons, D.ints, ih]; rfl
theorem cd_sum : CallD K (rSum K) gSum := by
  intro c F ow H σ δ xs vs z Q w r e g
  unfold gSum at e
  split at e
  · rename_i l
    cases q : D.ints l with
    | none => rw [q] at e; cases e
    | some ns =>
      rw [q] at e; cases e
      rw [D.ints_eq q] at r
      cases r with | cons a b => cases b; obtain ⟨p, us, rfl, hp, _, r1⟩ := a.lst_inv; rw [r1.of_ints] at hp; exact ⟨p, ns, rfl, SqL.of hp, go_val w (.int _) g⟩
  · cases e
end
end
end PV

namespace PV
open PySem PySem.Spec PyProof.Rows L2

/-! ## functions -/
structure FnA (P : Program) (w : World) (K : PySem.W.Frag) (mg : Str → Option Value) (base : Heap) (CX : CXT) (k : Nat) (f : Addr) (fd : FuncData) (ps : List Str) (sp : Sp) : Prop where
  len : ∀ vs H Q E, sp vs H Q E → vs.length = ps.length
  run : ∀ (A : Around) (outer : List PySem.Env) (s : Shared) (H : Hp) (args : Args) (us : List Value) (vs : List V) (Q : VK) (E : XK), A.guards = some [] → Room k A → Env0 P w K mg base A outer s H → BindsTo s fd args (ps.zip us) → Vals vs us → sp vs H Q E →
    codeAny (model P w) A (.call (.ref f) args) (CR CX outer P w H s Q E) s
theorem FnA.up {P : Program} {w : World} {K : PySem.W.Frag} {mg : Str → Option Value} {base : Heap} {CX : CXT} {j k : Nat} {f : Addr} {fd : FuncData} {ps : List Str} {sp : Sp} (h : FnA P w K mg base CX j f fd ps sp) (hjk : j ≤ k) : FnA P w K mg base CX k f fd ps sp :=
  ⟨h.len, fun A outer s H args us vs Q E hg hr => h.run A outer s H args us vs Q E hg (hr.mono hjk)⟩
theorem guards_deeper {A : Around} {env : PySem.Env} (h : A.guards = some []) : (A.deeper env).guards = some [] := h

/-- a def of the text by its body -/
theorem fnA_body {P : Program} {w : World} {K : PySem.W.Frag} {mg : Str → Option Value} {base : Heap} {CX : CXT} {x qual : Str} {params : Arguments} {body : List Stmt} {scope : Scope} {dvs : List V} {kws : List (Str × V)} {f : Addr} {fd : FuncData} {N ps : List Str} {k : Nat} {sp : Sp}
    (Fd : FunD K x qual params body scope dvs kws f fd) (S : FnScope N ps scope) (len : ∀ vs H Q E, sp vs H Q E → vs.length = ps.length)
    (hbody : ∀ (cdv : Value) (A : Around) (outer : List PySem.Env) (s : Shared) (H : Hp) (vs : List V) (Q : VK) (E : XK), (A.deeper (envOfC qual scope s.heap.objs.size f cdv)).guards = some [] → Room k (A.deeper (envOfC qual scope s.heap.objs.size f cdv)) → sp vs H Q E →
      ∃ t, PSs (cxOf CX P w K mg base N qual scope f cdv A outer s H E) body t ∧ t { nx := fun _ H' => Q .non H', rt := Q } (L2.start N vs) H) : FnA P w K mg base CX (k + 1) f fd ps sp := by
  obtain ⟨oc, od, dV, kV, doc, pm, an, cdv, ct, osl, hfd, lk, hcd, _, _⟩ := Fd.ex
  subst hfd
  refine ⟨len, fun A outer s H args us vs Q E hg hr en hb rv hs => ?_⟩
  have hlen := len _ _ _ _ hs
  have kin : K.In s.heap := en.mod.kin.keeps fun b o q => (en.bs b o q).1
  have nolim : s.heap.NoLimit := en.mod.nolimit.keeps fun b o q => (en.bs b o q).1
  have kinds : ∀ y ∈ ps.zip us, scope.names.lookup y.1 = some .local ∨ (scope.names.lookup y.1 = some .cell ∧ ((cellsFrom (s.heap.objs.size + 1) scope.names []).lookup y.1).isSome = true) := by
    rintro ⟨n, v⟩ hy
    exact (S.par n (List.of_mem_zip hy).1).imp id fun q => ⟨q, PySem.W.cellsFrom_some _ _ _ (.inl q)⟩
  refine codeAny_call_function hr.depth (kin _ _ lk) rfl S.co S.gen rfl (PySem.W.codeRec_of kin hcd) (hb _ _ _ _ ?_)
  refine wpAny_newFunctionEnv_cells S.kind kinds fun env heq s1 inc => ?_
  subst heq
  refine ⟨nolim.keeps inc.toInCall.keep, codeAny_func ?_⟩
  obtain ⟨t, ht, hq⟩ := hbody cdv A outer s H vs Q E (guards_deeper hg) (hr.deeper _) hs
  have I0 := inv_start (CX := CX) (P := P) (w := w) (mg := mg) (base := base) (N := N) (E := E) S hr.hd en hlen rv inc
  refine wpAny_mono (ht.run [] s1 (L2.start N vs) H _ I0 hq) (fun fl s' r => ?_) fun _ _ z => z
  have done : ∀ {τ : L2.St} {H' : Hp} {v : V} {u : Value}, Inv (cxOf CX P w K mg base N qual scope f cdv A outer s H E) [] τ H' s' → RelV v u → Q v H' → CE outer P w H s Q u s' :=
    fun J ru q => ⟨_, _, J.os, J.bare, J.base, J.hok, ru, q⟩
  cases fl with
  | next => obtain ⟨τ, H', J, q⟩ := r; exact done (v := V.non) (u := Value.none) J rfl q
  | ret u => obtain ⟨v, τ, H', J, ru, q⟩ := r; exact done J ru q
  | brk => obtain ⟨_, _, _, q⟩ := r; exact q.elim
  | cont => obtain ⟨_, _, _, q⟩ := r; exact q.elim

section
variable {X : Cx} {CX : CXT} {k : Nat} {f : Addr} {fd : FuncData} {ps : List Str} {sp : Sp} {dvs : List V} {ds : List Value} {E : XK} {x : Str} {p pos : Pos} {e : Expr} {es : List Expr} {t : TA}
theorem runA {pins : List (Addr × Obj)} {σ : L2.St} {H : Hp} {s : Shared} {Q : VK} {us : List Value} {vs : List V} (Fn : FnA X.prog X.w X.K X.mg X.base CX k f fd ps sp) (hg : X.A.guards = some []) (hr : Room k X.A) (hb : Binds X.K fd ps ds) (hd : Vals dvs ds) (hx : Passes CX X E)
    (I : Inv X pins σ H s) (rv : Vals vs us) (h : sp (vs ++ dvs) H Q E) : wpAny (model X.prog X.w) X.A (call (.ref f) us) (EP X pins σ Q) X.xe s := by
  have rr := rv.append hd
  have hl : (us ++ ds).length = ps.length := rr.length.symm.trans (Fn.len _ _ _ _ h)
  refine wpAny_call (codeAny_mono (Fn.run X.A X.stack s H ⟨us, []⟩ (us ++ ds) (vs ++ dvs) Q E hg hr I.env0 (hb s us I.kIn hl) rr h) ?_)
  intro out s' hq
  match out, hq with
  | .error e, hq => exact hx pins σ H s e s' I hq
  | .ok (.ret u), hq => exact I.after hq
theorem callA (Fn : FnA X.prog X.w X.K X.mg X.base CX k f fd ps sp) (hgu : X.A.guards = some []) (hr : Room k X.A) (hg : Gl X x) (hm : X.mg x = some (.ref f)) (hk : PySem.W.keepIn X.K (.ref f) = true) (hb : Binds X.K fd ps ds) (hd : Vals dvs ds) (hx : Passes CX X E)
    (ha : PA X (e :: es) t) (hdb : (x == ("__debug__" : Str)) = false := by decide) (he : starEach (e :: es) X.env = (false, eval e X.env) :: starEach es X.env := by rfl) (hpl : (backTo pos (starEach es X.env)).any (·.1) = false := by rfl) :
    PE X (.Call (.Name x p) (e :: es) [] pos) (tCall sp dvs E t) := by
  constructor
  intro pins s σ H Q I h
  refine wpAny_Call_Name_kw (ld_glob I hg hm ?_ hdb)
  refine PySem.W.callWith_K (h₀ := X.base) I.ok.mod.kin hk (thn (ha.run pos pins s σ H _ I h) ?_) he hpl
  rintro us s1 ⟨vs, H1, I1, rv, q⟩
  exact ⟨I1.kIn, runA Fn hgu hr hb hd hx I1 rv q⟩
theorem callA0 (Fn : FnA X.prog X.w X.K X.mg X.base CX k f fd ps sp) (hgu : X.A.guards = some []) (hr : Room k X.A) (hg : Gl X x) (hm : X.mg x = some (.ref f)) (hk : PySem.W.keepIn X.K (.ref f) = true) (hb : Binds X.K fd ps ds) (hd : Vals dvs ds) (hx : Passes CX X E)
    (hdb : (x == ("__debug__" : Str)) = false := by decide) : PE X (.Call (.Name x p) [] [] pos) (tCall sp dvs E tNil) := by
  constructor
  intro pins s σ H Q I h
  exact wpAny_Call_Name_kw (ld_glob I hg hm (PySem.W.callWith_K0 I.kIn hk (runA (us := []) Fn hgu hr hb hd hx I .nil h)) hdb)
end

/-! ### keywords -/
/-- the places of the parameters in positional values followed by keyword values -/
def pick {α : Type} (ix : List Nat) (l : List α) : List α := ix.filterMap (l[·]?)
structure KwB (K : PySem.W.Frag) (fd : FuncData) (ps : List Str) (n : Nat) (ks : List Str) (ix : List Nat) : Prop where
  len : ix.length = ps.length
  bnd : ∀ i ∈ ix, i < n + ks.length
  to : ∀ (s : Shared) (us ws : List Value), K.In s.heap → us.length = n → ws.length = ks.length → BindsTo s fd ⟨us, ks.zip ws⟩ (ps.zip (pick ix (us ++ ws)))
theorem pick_length {α : Type} {ix : List Nat} {l : List α} (h : ∀ i ∈ ix, i < l.length) : (pick ix l).length = ix.length := by
  induction ix with
  | nil => rfl
  | cons i r ih =>
    have hi := h i (List.mem_cons_self)
    unfold pick
    rw [List.filterMap_cons, List.getElem?_eq_getElem hi]
    show (pick r l).length + 1 = r.length + 1
    rw [ih fun j hj => h j (List.mem_cons_of_mem _ hj)]
theorem pick_vals {ix : List Nat} {vs : List V} {us : List Value} (r : Vals vs us) : Vals (pick ix vs) (pick ix us) := by
  induction ix with
  | nil => exact .nil
  | cons i t ih =>
    unfold pick
    rw [List.filterMap_cons, List.filterMap_cons]
    cases q : vs[i]? with
    | none => rw [r.none_of q]; exact ih
    | some v => obtain ⟨u, hu, ru⟩ := r.get q; rw [hu]; exact .cons ru ih
theorem pick_reps {K : PySem.W.Frag} {F : Addr → Prop} {H : Hp} {ix : List Nat} {vs : List V} {ds : List D} (r : Reps K F H vs ds) : Reps K F H (pick ix vs) (pick ix ds) := by
  induction ix with
  | nil => exact .nil
  | cons i t ih =>
    unfold pick
    rw [List.filterMap_cons, List.filterMap_cons]
    cases q : ds[i]? with
    | none =>
      have : vs[i]? = none := by rw [List.getElem?_eq_none_iff] at q ⊢; rw [r.length]; exact q
      rw [this]; exact ih
    | some d => obtain ⟨v, hv, rv⟩ := r.get q; rw [hv]; exact .cons rv ih
def tCallP (n m : Nat) (ix : List Nat) (sp : Sp) (E : XK) (t tk : TA) : TE := fun σ H Q => t σ H fun vs H1 => tk σ H1 fun zs H2 => vs.length = n ∧ zs.length = m ∧ sp (pick ix (vs ++ zs)) H2 Q E
section
variable {X : Cx} {CX : CXT} {k n : Nat} {f : Addr} {fd : FuncData} {ps ks : List Str} {ix : List Nat} {sp : Sp} {E : XK} {x : Str} {p pos : Pos} {e : Expr} {es : List Expr} {kws : List Keyword} {t tk : TA}
theorem runAK {pins : List (Addr × Obj)} {σ : L2.St} {H : Hp} {s : Shared} {Q : VK} {us ws : List Value} {vs zs : List V} (Fn : FnA X.prog X.w X.K X.mg X.base CX k f fd ps sp) (hg : X.A.guards = some []) (hr : Room k X.A) (hb : KwB X.K fd ps n ks ix) (hx : Passes CX X E)
    (I : Inv X pins σ H s) (rv : Vals vs us) (rz : Vals zs ws) (l1 : vs.length = n) (l2 : zs.length = ks.length) (h : sp (pick ix (vs ++ zs)) H Q E) : wpAny (model X.prog X.w) X.A (call (.ref f) us (ks.zip ws)) (EP X pins σ Q) X.xe s := by
  have e1 : us.length = n := rv.length.symm.trans l1
  have e2 : ws.length = ks.length := rz.length.symm.trans l2
  refine wpAny_call (codeAny_mono (Fn.run X.A X.stack s H ⟨us, ks.zip ws⟩ (pick ix (us ++ ws)) (pick ix (vs ++ zs)) Q E hg hr I.env0 (hb.to s us ws I.kIn e1 e2) (pick_vals (rv.append rz)) h) ?_)
  intro out s' hq
  match out, hq with
  | .error e, hq => exact hx pins σ H s e s' I hq
  | .ok (.ret u), hq => exact I.after hq
theorem callAK (Fn : FnA X.prog X.w X.K X.mg X.base CX k f fd ps sp) (hgu : X.A.guards = some []) (hr : Room k X.A) (hg : Gl X x) (hm : X.mg x = some (.ref f)) (hk : PySem.W.keepIn X.K (.ref f) = true) (hb : KwB X.K fd ps n ks ix) (hx : Passes CX X E)
    (ha : PA X (e :: es) t) (hkw : PK X kws tk) (hall : (backToKw pos (keywordEach kws X.env)).all (·.1.isSome) = true := by rfl) (hks : (backToKw pos (keywordEach kws X.env)).filterMap (·.1) = ks := by rfl)
    (hdb : (x == ("__debug__" : Str)) = false := by decide) (he : starEach (e :: es) X.env = (false, eval e X.env) :: starEach es X.env := by rfl)
    (hpl : ((backTo pos (starEach (e :: es) X.env)).any (·.1) || (backToKw pos (keywordEach kws X.env)).any (·.1.isNone)) = false := by rfl) : PE X (.Call (.Name x p) (e :: es) kws pos) (tCallP n ks.length ix sp E t tk) := by
  constructor
  intro pins s σ H Q I h
  refine wpAny_Call_Name_kw (ld_glob I hg hm ?_ hdb)
  refine PySem.W.callWith_KW (h₀ := X.base) I.ok.mod.kin hk hall (thn (ha.run pos pins s σ H _ I h) ?_) hpl he
  rintro us s1 ⟨vs, H1, I1, rv, q⟩
  refine thn (hkw.run pos pins s1 σ H1 _ I1 q) ?_
  rintro ws s2 ⟨zs, H2, I2, rz, l1, l2, q2⟩
  rw [hks]
  exact ⟨I2.kIn, runAK Fn hgu hr hb hx I2 rv rz l1 l2 q2⟩
theorem callAK0 (Fn : FnA X.prog X.w X.K X.mg X.base CX k f fd ps sp) (hgu : X.A.guards = some []) (hr : Room k X.A) (hg : Gl X x) (hm : X.mg x = some (.ref f)) (hk : PySem.W.keepIn X.K (.ref f) = true) (hb : KwB X.K fd ps 0 ks ix) (hx : Passes CX X E)
    (hkw : PK X kws tk) (hall : (backToKw pos (keywordEach kws X.env)).all (·.1.isSome) = true := by rfl) (hks : (backToKw pos (keywordEach kws X.env)).filterMap (·.1) = ks := by rfl)
    (hdb : (x == ("__debug__" : Str)) = false := by decide) (hpl : ((backTo pos (starEach [] X.env)).any (·.1) || (backToKw pos (keywordEach kws X.env)).any (·.1.isNone)) = false := by rfl) : PE X (.Call (.Name x p) [] kws pos) (tCallP 0 ks.length ix sp E tNil tk) := by
  constructor
  intro pins s σ H Q I h
  refine wpAny_Call_Name_kw (ld_glob I hg hm ?_ hdb)
  refine PySem.W.callWith_KW0 (h₀ := X.base) I.ok.mod.kin hk hall (thn (hkw.run pos pins s σ H _ I h) ?_) hpl
  rintro ws s2 ⟨zs, H2, I2, rz, l1, l2, q2⟩
  rw [hks]
  exact ⟨I2.kIn, runAK (us := []) (vs := []) Fn hgu hr hb hx I2 .nil rz rfl l2 q2⟩
end

/-! ## the promise of a pure function -/
/-- data and the shared slot in; a value (frozen, or new and one's own) and the shared slot out -/
abbrev Mir := List D → Sl → Option (Sl × Sl)
def ArgR (K : PySem.W.Frag) (F : Addr → Prop) (H : Hp) (P : Addr → Prop) (io : Option Nat) (vs : List V) (ds : List D) (s : Sl) : Prop := match io with
  | none => Reps K F H vs ds ∧ s = .emp
  | some j => Reps K F H (vs.eraseIdx j) ds ∧ ∃ v, vs[j]? = some v ∧ SlR K F H P v s
def spF (K : PySem.W.Frag) (n : Nat) (io : Option Nat) (M : Mir) : Sp := fun vs H Q _ => vs.length = n ∧ ∃ (F P : Addr → Prop) (ds : List D) (s : Sl), ArgR K F H P io vs ds s ∧ (∀ a, P a → ¬ F a ∧ H a ≠ none) ∧ (∀ a, F a → H a ≠ none) ∧
  ∃ r s', M ds s = some (r, s') ∧ ∀ (F' P' P2 : Addr → Prop) (H' : Hp) (v : V), Ext F H F' H' → (∀ a o, H a = some o → ¬ P a → H' a = some o) → (∀ a, F' a → H' a ≠ none ∧ (F a ∨ P a ∨ H a = none)) →
    (∀ a, P' a → ¬ F' a ∧ H' a ≠ none ∧ (P a ∨ H a = none)) → (∀ a, P2 a → ¬ F' a ∧ H' a ≠ none ∧ H a = none ∧ ¬ P' a) →
    (∀ j, io = some j → ∀ u, vs[j]? = some u → SlR K F' H' P' u s') → SlR K F' H' P2 v r → Q v H'

/-- the names' slots at the entry -/
def mkEnv (io : Option Nat) (ds : List D) (s : Sl) (n : Nat) : Env :=
  let a := match io with
    | none => ds.map Sl.p
    | some j => (ds.map Sl.p).take j ++ s :: (ds.map Sl.p).drop j
  a ++ List.replicate (n - a.length) .emp
def ioOut (io : Option Nat) (δ : Env) : Option Sl := match io with
  | none => some .emp
  | some j => match δ[j]? with
    | some .emp => none
    | x => x
def fnMir (io : Option Nat) (b : Env → SRes) (n : Nat) : Mir := fun ds s => match b (mkEnv io ds s n) with
  | .rt d δ => (ioOut io δ).map fun s' => (.p d, s')
  | .nx δ => (ioOut io δ).map fun s' => (.p .non, s')
  | _ => none
def FC.at (c : FC) : Option Nat := c.io.map (·.1)

section
variable {K : PySem.W.Frag} {F P : Addr → Prop} {H : Hp}
def argList (io : Option Nat) (ds : List D) (s : Sl) : Env := match io with
  | none => ds.map Sl.p
  | some j => (ds.map Sl.p).take j ++ s :: (ds.map Sl.p).drop j
theorem arg_get {io : Option Nat} {vs : List V} {ds : List D} {s : Sl} (h : ArgR K F H P io vs ds s) (hj : ∀ j, io = some j → j < vs.length) : (argList io ds s).length = vs.length ∧
    ∀ i x, (argList io ds s)[i]? = some x → ∃ v, vs[i]? = some v ∧ SlR K F H (fun a => P a ∧ io = some i) v x := by
  cases io with
  | none =>
    obtain ⟨h, _⟩ := h
    refine ⟨by simp [argList, h.length], fun i x e => ?_⟩
    simp only [argList, List.getElem?_map] at e
    cases q : ds[i]? with
    | none => rw [q] at e; cases e
    | some d => rw [q] at e; cases e; obtain ⟨v, hv, r⟩ := h.get q; exact ⟨v, hv, .p r⟩
  | some j =>
    obtain ⟨h, v0, hv0, r0⟩ := h
    have lj := hj j rfl
    have ll := h.length
    rw [List.length_eraseIdx_of_lt lj] at ll
    have lt : ((ds.map Sl.p).take j).length = j := by rw [List.length_take, List.length_map]; omega
    refine ⟨by simp only [argList, List.length_append, List.length_cons, List.length_drop, List.length_map, lt]; omega, fun i x e => ?_⟩
    simp only [argList] at e
    rcases Nat.lt_trichotomy i j with z | z | z
    · rw [List.getElem?_append_left (by rw [lt]; exact z), List.getElem?_take_of_lt z, List.getElem?_map] at e
      cases q : ds[i]? with
      | none => rw [q] at e; cases e
      | some d =>
        rw [q] at e; cases e
        obtain ⟨v, hv, r⟩ := h.get q
        rw [List.getElem?_eraseIdx_of_lt z] at hv
        exact ⟨v, hv, .p r⟩
    · subst z
      rw [List.getElem?_append_right (by rw [lt]; exact Nat.le_refl _), lt, Nat.sub_self] at e
      cases e
      exact ⟨v0, hv0, r0.mono (Ext.refl _ _) fun a pa => ⟨⟨pa, rfl⟩, rfl⟩⟩
    · rw [List.getElem?_append_right (by rw [lt]; omega), lt] at e
      obtain ⟨m, hm⟩ : ∃ m, i - j = m + 1 := ⟨i - j - 1, by omega⟩
      rw [hm, List.getElem?_cons_succ, List.getElem?_drop, List.getElem?_map] at e
      cases q : ds[j + m]? with
      | none => rw [q] at e; cases e
      | some d =>
        rw [q] at e; cases e
        obtain ⟨v, hv, r⟩ := h.get q
        rw [List.getElem?_eraseIdx_of_ge (by omega)] at hv
        rw [show j + m + 1 = i by omega] at hv
        exact ⟨v, hv, .p r⟩
end

open Classical in
/-- a def of the text keeps the promise of its denotation -/
theorem fnA_mir {P : Program} {w : World} {K : PySem.W.Frag} {mg : Str → Option Value} {base : Heap} {CX : CXT} {x qual : Str} {params : Arguments} {body : List Stmt} {scope : Scope} {dvs : List V} {kws : List (Str × V)} {f : Addr} {fd : FuncData} {N ps : List Str} {k : Nat}
    (Fd : FunD K x qual params body scope dvs kws f fd) (S : FnScope N ps scope) (io : Option Nat) (hio : ∀ j, io = some j → j < ps.length) (hps : ps.length ≤ N.length) (fb : Env → SRes)
    (hb : ∀ (cdv : Value) (A : Around) (outer : List PySem.Env) (s : Shared) (H : Hp) (E : XK) (c : FC), (A.deeper (envOfC qual scope s.heap.objs.size f cdv)).guards = some [] → Room k (A.deeper (envOfC qual scope s.heap.objs.size f cdv)) → c.at = io →
      DSs (cxOf CX P w K mg base N qual scope f cdv A outer s H E) c body fb) : FnA P w K mg base CX (k + 1) f fd ps (spF K ps.length io (fnMir io fb N.length)) := by
  refine fnA_body Fd S (fun vs H Q E h => h.1) fun cdv A outer s H vs Q E hg hr hs => ?_
  obtain ⟨hl, F, Pp, ds, sl, arg, hP, hF, r, s', hM, post⟩ := hs
  have lj : ∀ j, io = some j → j < vs.length := fun j e => by rw [hl]; exact hio j e
  refine ⟨tSt K ⟨F, H, Pp, io.map fun j => (j, vs.getD j .non)⟩ fb, hb cdv A outer s H E _ hg hr (by cases io <;> rfl), F, fun a => if Pp a then io else none, mkEnv io ds sl N.length, ?_, ?_⟩
  · obtain ⟨al, ag⟩ := arg_get arg lj
    have me : mkEnv io ds sl N.length = argList io ds sl ++ List.replicate (N.length - (argList io ds sl).length) .emp := by cases io <;> rfl
    have sl0 : (L2.start N vs).length = N.length := by unfold L2.start; rw [List.length_append, List.length_map, List.length_replicate]; omega
    have sg : ∀ i v, vs[i]? = some v → (L2.start N vs)[i]? = some (some v) := fun i v e => by
      unfold L2.start
      have := (List.getElem?_eq_some_iff.mp e).1
      rw [List.getElem?_append_left (by rw [List.length_map]; exact this), List.getElem?_map, e]; rfl
    refine ⟨?_, fun i y e => ?_, fun a i e => ?_, fun a f => ⟨hF a f, .inl f⟩, fun a o e _ => e, fun j a e => ?_⟩
    · rw [sl0, me, List.length_append, List.length_replicate, al]; omega
    · rw [me] at e
      rcases Nat.lt_or_ge i (argList io ds sl).length with z | z
      · rw [List.getElem?_append_left z] at e
        obtain ⟨v, hv, rr⟩ := ag i y e
        refine .inr ⟨v, sg i v hv, rr.mono (Ext.refl _ _) fun a ⟨pa, ei⟩ => ⟨by show (if Pp a then io else none) = some i; rw [if_pos pa, ei], rfl⟩⟩
      · rw [List.getElem?_append_right z] at e
        left
        rw [List.getElem?_replicate] at e
        split at e <;> cases e
        rfl
    · have pa : Pp a := by
        by_cases q : Pp a
        · exact q
        · rw [if_neg q] at e; cases e
      exact ⟨(hP a pa).1, (hP a pa).2, .inl pa⟩
    · cases io with
      | none => cases e
      | some j0 =>
        cases e
        have := lj j rfl
        exact sg j _ (by rw [List.getD_eq_getElem?_getD, List.getElem?_eq_getElem this]; rfl)
  · have fin : ∀ (d : D) (δ' : Env), (ioOut io δ').map (fun s' => (Sl.p d, s')) = some (r, s') → ∀ F' ow' H' σ' v, Ext F H F' H' → W K ⟨F, H, Pp, io.map fun j => (j, vs.getD j .non)⟩ F' ow' H' σ' δ' → Rep K F' H' v d → Q v H' := by
      intro d δ' e F' ow' H' σ' v ex w' rv
      cases q : ioOut io δ' with
      | none => rw [q] at e; cases e
      | some s2 =>
        rw [q] at e
        cases e
        refine post F' (fun a => ∃ j, io = some j ∧ ow' a = some j) (fun _ => False) H' v ex (fun a o e1 e2 => w'.kp a o e1 e2) (fun a f => w'.ft a f) (fun a ⟨j, _, e2⟩ => w'.df a j e2) (fun _ z => z.elim) (fun j ej u hu => ?_) (.p rv)
        subst ej
        have e3 := w'.io j u (by show some (j, vs.getD j .non) = some (j, u); rw [List.getD_eq_getElem?_getD, hu]; rfl)
        have q' : δ'[j]? = some s' ∧ s' ≠ Sl.emp := by
          unfold ioOut at q
          dsimp only at q
          split at q
          · cases q
          · rename_i hne; exact ⟨q, fun z => hne (by rw [q, z])⟩
        rcases w'.sl j s' q'.1 with z | ⟨v2, e4, r4⟩
        · exact absurd z q'.2
        · rw [e3] at e4; cases e4
          exact r4.mono (Ext.refl _ _) fun a ea => ⟨⟨j, rfl, ea⟩, rfl⟩
    unfold fnMir at hM
    cases q : fb (mkEnv io ds sl N.length) with
    | nx δ' => rw [q] at hM; exact fun F' ow' H' σ' ex w' => fin .non δ' hM F' ow' H' σ' .non ex w' .non
    | rt d δ' => rw [q] at hM; exact fun F' ow' H' σ' v ex w' rv => fin d δ' hM F' ow' H' σ' v ex w' rv
    | bk _ => rw [q] at hM; cases hM
    | ct _ => rw [q] at hM; cases hM
    | bad => rw [q] at hM; cases hM

/-! ## calls -/
def dCallF (n : Nat) (M : Mir) (dd : List D) (f : Env → R (List D)) (δ : Env) : R D := (f δ).bind fun ds δ1 => if (ds ++ dd).length = n then (match M (ds ++ dd) .emp with
  | some (.p d, _) => .ok d δ1
  | _ => .bad) else .bad
section
variable {X : Cx} {c : FC} {CX : CXT} {k n : Nat} {fa : Addr} {fd : FuncData} {ps : List Str} {M : Mir} {dvs : List V} {dd : List D} {dsv : List Value} {E : XK} {x : Str} {p pos : Pos} {e : Expr} {es : List Expr} {f g : Env → R (List D)}
/-- behind a call: the world again -/
theorem W.after {K : PySem.W.Frag} {c : FC} {F F' : Addr → Prop} {ow : Addr → Option Nat} {H H' : Hp} {σ : L2.St} {δ : Env} (w : W K c F ow H σ δ) (ex : Ext F H F' H') (kp : ∀ a o, H a = some o → H' a = some o) (ff : ∀ a, F' a → H' a ≠ none ∧ (F a ∨ H a = none)) : W K c F' ow H' σ δ where
  len := w.len
  sl := fun i s e => (w.sl i s e).imp id fun ⟨v, q, r⟩ => ⟨v, q, r.mono ex fun a z => ⟨z, by
    have := (w.df a i z).2.1
    cases q : H a with
    | none => exact absurd q this
    | some o => exact kp a o q⟩⟩
  df := fun a i z => ⟨fun f => (ff a f).2.elim (w.df a i z).1 (w.df a i z).2.1, by
    have := (w.df a i z).2.1
    cases q : H a with
    | none => exact absurd q this
    | some o => rw [kp a o q]; simp, (w.df a i z).2.2⟩
  ft := fun a f => ⟨(ff a f).1, (ff a f).2.elim (fun q => (w.ft a q).2) fun q => .inr (w.fresh q).2.2⟩
  kp := fun a o e z => kp a o (w.kp a o e z)
  io := w.io
theorem call_pure {K : PySem.W.Frag} {F : Addr → Prop} {ow : Addr → Option Nat} {H : Hp} {σ : L2.St} {δ : Env} {vs : List V} {ds : List D} {Q : VK} {d : D} {s' : Sl} (w : W K c F ow H σ δ) (r : Reps K F H vs ds) (hl : ds.length = n) (hM : M ds .emp = some (.p d, s')) (g : Go K c (Rep K) F H σ (.ok d δ) Q) :
    spF K n none M vs H Q E := by
  refine ⟨r.length.trans hl, F, fun _ => False, ds, .emp, ⟨r, rfl⟩, fun _ z => z.elim, fun a f => (w.ft a f).1, _, _, hM, fun F' P' P2 H' v ex kp ff pp p2 _ rv => ?_⟩
  cases rv with
  | p rv => exact g F' ow H' v ex (w.after ex (fun a o q => kp a o q fun z => z) fun a f => ⟨(ff a f).1, (ff a f).2.imp id fun q => q.elim (fun z => z.elim) id⟩) rv
theorem de_call (hn : ps.length = n) (Fn : FnA X.prog X.w X.K X.mg X.base CX k fa fd ps (spF X.K n none M)) (hgu : X.A.guards = some []) (hr : Room k X.A) (hg : Gl X x) (hm : X.mg x = some (.ref fa)) (hk : PySem.W.keepIn X.K (.ref fa) = true) (hb : Binds X.K fd ps dsv) (hd : Vals dvs dsv) (hx : Passes CX X E) (hdd : ∀ F H, Reps X.K F H dvs dd)
    (ha : DA X c (e :: es) f) (hdb : (x == ("__debug__" : Str)) = false := by decide) (he : starEach (e :: es) X.env = (false, eval e X.env) :: starEach es X.env := by rfl) (hpl : (backTo pos (starEach es X.env)).any (·.1) = false := by rfl) :
    DE X c (.Call (.Name x p) (e :: es) [] pos) (dCallF n M dd f) :=
  PE.imp (callA Fn hgu hr hg hm hk hb hd hx ha hdb he hpl) fun σ H Q ⟨F, ow, δ, w, g1⟩ => ⟨F, ow, δ, w, Go.imp (fun v H1 h1 => by
    obtain ⟨F1, ow1, ds, δ1, e1, w1, r1, _, g2⟩ := h1
    split at g2
    · rename_i hl
      split at g2
      · rename_i d s' hM
        exact call_pure w1 (r1.append (hdd F1 H1)) hl hM g2
      · exact g2.elim
    · exact g2.elim) (Go.bind (rep := Reps X.K) g1)⟩
theorem de_call0 (hn : ps.length = n) (Fn : FnA X.prog X.w X.K X.mg X.base CX k fa fd ps (spF X.K n none M)) (hgu : X.A.guards = some []) (hr : Room k X.A) (hg : Gl X x) (hm : X.mg x = some (.ref fa)) (hk : PySem.W.keepIn X.K (.ref fa) = true) (hb : Binds X.K fd ps dsv) (hd : Vals dvs dsv) (hx : Passes CX X E) (hdd : ∀ F H, Reps X.K F H dvs dd)
    (hdb : (x == ("__debug__" : Str)) = false := by decide) : DE X c (.Call (.Name x p) [] [] pos) (dCallF n M dd dNil) :=
  PE.imp (callA0 Fn hgu hr hg hm hk hb hd hx hdb) fun σ H Q ⟨F, ow, δ, w, g1⟩ => by
    unfold dCallF dNil at g1
    rw [R.bind_ok] at g1
    split at g1
    · rename_i hl
      split at g1
      · rename_i d s' hM
        exact call_pure (E := E) w (by simpa using hdd F H) (by simpa using hl) (by simpa using hM) g1
      · exact g1.elim
    · exact g1.elim
/-- keywords -/
abbrev DK (X : Cx) (c : FC) (es : List Keyword) (f : Env → R (List D)) : Prop := PK X es (tAr X.K c f)
theorem PK.imp {X : Cx} {e : List Keyword} {t t' : TA} (h : PK X e t) (i : ∀ σ H Q, t' σ H Q → t σ H Q) : PK X e t' := ⟨fun pos pins s σ H Q I q => h.run pos pins s σ H Q I (i σ H Q q)⟩
theorem dk_nil : DK X c [] dNil := PK.imp pk_nil fun σ H Q ⟨F, ow, δ, w, g1⟩ => g1 F ow H [] (Ext.refl _ _) w .nil
theorem dk_cons {nm : Option Str} {kpos : Pos} {kws : List Keyword} {fe : Env → R D} (ha : DE X c e fe) (hr : DK X c kws g) : DK X c (⟨nm, e, kpos⟩ :: kws) (dCons fe g) :=
  PK.imp (pk_cons ha hr) fun σ H Q ⟨F, ow, δ, w, g1⟩ => ⟨F, ow, δ, w, Go.imp (fun v H1 h1 => by
    obtain ⟨F1, ow1, d, δ1, e1, w1, r1, _, g2⟩ := h1
    refine ⟨F1, ow1, δ1, w1, Go.imp (fun vs H2 h2 => ?_) (Go.bind (rep := Reps X.K) g2)⟩
    obtain ⟨F2, ow2, ds, δ2, e2, w2, r2, _, g3⟩ := h2
    exact g3 F2 ow2 H2 (v :: vs) (Ext.refl _ _) w2 (.cons (r1.mono e2) r2)) (Go.bind (rep := Rep X.K) g1)⟩
def dCallK (n m l : Nat) (ix : List Nat) (M : Mir) (f g : Env → R (List D)) (δ : Env) : R D := (f δ).bind fun ds δ1 => (g δ1).bind fun zs δ2 => if ds.length = m ∧ zs.length = l ∧ (pick ix (ds ++ zs)).length = n then (match M (pick ix (ds ++ zs)) .emp with
  | some (.p d, _) => .ok d δ2
  | _ => .bad) else .bad
theorem callk_imp {m : Nat} {ix : List Nat} {ks : List Str} (σ : L2.St) (H : Hp) (Q : VK) (h : tD X.K c (dCallK n m ks.length ix M f g) σ H Q) : tCallP m ks.length ix (spF X.K n none M) E (tAr X.K c f) (tAr X.K c g) σ H Q := by
  obtain ⟨F, ow, δ, w, g1⟩ := h
  refine ⟨F, ow, δ, w, Go.imp (fun v H1 h1 => ?_) (Go.bind (rep := Reps X.K) g1)⟩
  obtain ⟨F1, ow1, ds, δ1, e1, w1, r1, _, g2⟩ := h1
  refine ⟨F1, ow1, δ1, w1, Go.imp (fun u H2 h2 => ?_) (Go.bind (rep := Reps X.K) g2)⟩
  obtain ⟨F2, ow2, zs, δ2, e2, w2, r2, _, g3⟩ := h2
  split at g3
  · rename_i hl
    split at g3
    · rename_i d s' hM
      exact ⟨by rw [r1.length]; exact hl.1, by rw [r2.length]; exact hl.2.1, call_pure w2 (pick_reps ((r1.mono e2).append r2)) hl.2.2 hM g3⟩
    · exact g3.elim
  · exact g3.elim
theorem de_callK {m : Nat} {ix : List Nat} {ks : List Str} {kws : List Keyword} (Fn : FnA X.prog X.w X.K X.mg X.base CX k fa fd ps (spF X.K n none M)) (hgu : X.A.guards = some []) (hr : Room k X.A) (hg : Gl X x) (hm : X.mg x = some (.ref fa)) (hk : PySem.W.keepIn X.K (.ref fa) = true) (hb : KwB X.K fd ps m ks ix) (hx : Passes CX X E)
    (ha : DA X c (e :: es) f) (hkw : DK X c kws g) (hall : (backToKw pos (keywordEach kws X.env)).all (·.1.isSome) = true := by rfl) (hks : (backToKw pos (keywordEach kws X.env)).filterMap (·.1) = ks := by rfl)
    (hdb : (x == ("__debug__" : Str)) = false := by decide) (he : starEach (e :: es) X.env = (false, eval e X.env) :: starEach es X.env := by rfl)
    (hpl : ((backTo pos (starEach (e :: es) X.env)).any (·.1) || (backToKw pos (keywordEach kws X.env)).any (·.1.isNone)) = false := by rfl) : DE X c (.Call (.Name x p) (e :: es) kws pos) (dCallK n m ks.length ix M f g) :=
  PE.imp (callAK Fn hgu hr hg hm hk hb hx ha hkw hall hks hdb he hpl) callk_imp
theorem de_callK0 {ix : List Nat} {ks : List Str} {kws : List Keyword} (Fn : FnA X.prog X.w X.K X.mg X.base CX k fa fd ps (spF X.K n none M)) (hgu : X.A.guards = some []) (hr : Room k X.A) (hg : Gl X x) (hm : X.mg x = some (.ref fa)) (hk : PySem.W.keepIn X.K (.ref fa) = true) (hb : KwB X.K fd ps 0 ks ix) (hx : Passes CX X E)
    (hkw : DK X c kws g) (hall : (backToKw pos (keywordEach kws X.env)).all (·.1.isSome) = true := by rfl) (hks : (backToKw pos (keywordEach kws X.env)).filterMap (·.1) = ks := by rfl)
    (hdb : (x == ("__debug__" : Str)) = false := by decide) (hpl : ((backTo pos (starEach [] X.env)).any (·.1) || (backToKw pos (keywordEach kws X.env)).any (·.1.isNone)) = false := by rfl) : DE X c (.Call (.Name x p) [] kws pos) (dCallK n 0 ks.length ix M dNil g) :=
  PE.imp (callAK0 Fn hgu hr hg hm hk hb hx hkw hall hks hdb hpl) fun σ H Q h => by
    obtain ⟨F, ow, δ, w, g1⟩ := h
    have h2 := callk_imp (E := E) (f := dNil) σ H Q ⟨F, ow, δ, w, g1⟩
    obtain ⟨F, ow, δ, w, g2⟩ := h2
    exact g2 F ow H [] (Ext.refl _ _) w .nil

/-! ### a call with the shared argument: slot i, handed on as parameter j -/
abbrev DAS (X : Cx) (c : FC) (j i : Nat) (es : List Expr) (f : Env → R (List D)) : Prop := PA X es fun σ H Q => tG X.K c (fun F H (vs : List V) (ds : List D) => Reps X.K F H (vs.eraseIdx j) ds ∧ ∃ v, vs[j]? = some v ∧ σ[i]? = some (some v)) f σ H Q
def dHere (i : Nat) (f : Env → R (List D)) (δ : Env) : R (List D) := match δ[i]? with
  | some .emp => .bad
  | none => .bad
  | some _ => f δ
theorem das_here {i : Nat} (hv : PE X e (tVar i)) (hr : DA X c es f) (hs : starEach (e :: es) X.env = (false, eval e X.env) :: starEach es X.env := by rfl) : DAS X c 0 i (e :: es) (dHere i f) :=
  PA.imp (pa_cons hv hr hs) fun σ H Q ⟨F, ow, δ, w, g1⟩ => by
    unfold dHere at g1
    have go : ∀ s, δ[i]? = some s → s ≠ .emp → Go X.K c (fun F H (vs : List V) (ds : List D) => Reps X.K F H (vs.eraseIdx 0) ds ∧ ∃ v, vs[0]? = some v ∧ σ[i]? = some (some v)) F H σ (f δ) Q → tCons (tVar i) (tAr X.K c f) σ H Q := fun s e1 e2 g => by
      rcases w.sl i s e1 with z | ⟨v, ev, _⟩
      · exact absurd z e2
      · refine ⟨v, ev, F, ow, δ, w, ?_⟩
        cases q : f δ with
        | bad => rw [q] at g; exact g
        | ok ds δ1 => rw [q] at g; exact fun F' ow' H' vs ex w' r => g F' ow' H' (v :: vs) ex w' ⟨r, v, rfl, ev⟩
    cases q : δ[i]? with
    | none => rw [q] at g1; exact g1.elim
    | some s =>
      rw [q] at g1
      cases s with
      | emp => exact g1.elim
      | p d => exact go _ q (by simp) g1
      | st S => exact go _ q (by simp) g1
      | ml l => exact go _ q (by simp) g1
theorem das_next {i j : Nat} {fe : Env → R D} (he : DE X c e fe) (hr : DAS X c j i es f) (hs : starEach (e :: es) X.env = (false, eval e X.env) :: starEach es X.env := by rfl) : DAS X c (j + 1) i (e :: es) (dCons fe f) :=
  PA.imp (pa_cons he hr hs) fun σ H Q ⟨F, ow, δ, w, g1⟩ => ⟨F, ow, δ, w, Go.imp (fun v H1 h1 => by
    obtain ⟨F1, ow1, d, δ1, e1, w1, r1, _, g2⟩ := h1
    refine ⟨F1, ow1, δ1, w1, Go.imp (fun vs H2 h2 => ?_) (Go.bind (rep := fun F H (vs : List V) (ds : List D) => Reps X.K F H (vs.eraseIdx j) ds ∧ ∃ v, vs[j]? = some v ∧ σ[i]? = some (some v)) g2)⟩
    obtain ⟨F2, ow2, ds, δ2, e2, w2, ⟨r2, v2, h3, h4⟩, _, g3⟩ := h2
    exact g3 F2 ow2 H2 (v :: vs) (Ext.refl _ _) w2 ⟨.cons (r1.mono e2) r2, v2, h3, h4⟩) (Go.bind (rep := Rep X.K) g1)⟩
open Classical in
/-- the shared slot is another one behind the call -/
theorem W.afterS {K : PySem.W.Frag} {c : FC} {F F' P' : Addr → Prop} {ow : Addr → Option Nat} {H H' : Hp} {σ : L2.St} {δ : Env} {i : Nat} {v : V} {s' : Sl} (w : W K c F ow H σ δ) (ex : Ext F H F' H') (kp : ∀ a o, H a = some o → ¬ ow a = some i → H' a = some o) (ff : ∀ a, F' a → H' a ≠ none ∧ (F a ∨ ow a = some i ∨ H a = none))
    (pp : ∀ a, P' a → ¬ F' a ∧ H' a ≠ none ∧ (ow a = some i ∨ H a = none)) (hv : σ[i]? = some (some v)) (hs : SlR K F' H' P' v s') : W K c F' (fun a => if P' a then some i else if ow a = some i then none else ow a) H' σ (δ.set i s') where
  len := by simpa using w.len
  sl := fun k s e => by
    by_cases hk : i = k
    · subst hk
      have hl : i < δ.length := by rw [← w.len]; exact (List.getElem?_eq_some_iff.mp hv).1
      rw [List.getElem?_set_self hl] at e
      cases e
      exact .inr ⟨v, hv, hs.mono (Ext.refl _ _) fun a pa => ⟨by rw [if_pos pa], rfl⟩⟩
    · rw [List.getElem?_set_ne hk] at e
      refine (w.sl k s e).imp id fun ⟨u, q, r⟩ => ⟨u, q, r.mono ex fun a z => ?_⟩
      have n1 : ¬ ow a = some i := fun q => by rw [z] at q; exact hk (Option.some.inj q).symm
      have n2 : ¬ P' a := fun q => (pp a q).2.2.elim n1 (w.df a k z).2.1
      refine ⟨by rw [if_neg n2, if_neg n1]; exact z, ?_⟩
      cases q : H a with
      | none => exact absurd q (w.df a k z).2.1
      | some o => exact kp a o q n1
  df := fun a k e => by
    by_cases h1 : P' a
    · refine ⟨(pp a h1).1, (pp a h1).2.1, (pp a h1).2.2.elim (fun q => (w.df a i q).2.2) fun q => (w.fresh q).2.2⟩
    · rw [if_neg h1] at e
      by_cases h2 : ow a = some i
      · rw [if_pos h2] at e; cases e
      · rw [if_neg h2] at e
        obtain ⟨d1, d2, d3⟩ := w.df a k e
        refine ⟨fun f => (ff a f).2.elim d1 fun q => q.elim h2 d2, ?_, d3⟩
        cases q : H a with
        | none => exact absurd q d2
        | some o => rw [kp a o q h2]; simp
  ft := fun a f => ⟨(ff a f).1, (ff a f).2.elim (fun q => (w.ft a q).2) fun q => .inr (q.elim (fun z => (w.df a i z).2.2) fun z => (w.fresh z).2.2)⟩
  kp := fun a o e z => kp a o (w.kp a o e z) fun q => (w.df a i q).2.2.elim z fun n => by rw [n] at e; cases e
  io := w.io
def dCallS (n i j : Nat) (M : Mir) (f : Env → R (List D)) (δ : Env) : R D := (f δ).bind fun ds δ1 => if ds.length + 1 = n then (match δ1[i]? with
  | some .emp => .bad
  | none => .bad
  | some s => match M ds s with
    | some (.p d, s') => .ok d (δ1.set i s')
    | _ => .bad) else .bad
open Classical in
theorem de_callS {i j : Nat} (hn : ps.length = n) (hj : j < n) (Fn : FnA X.prog X.w X.K X.mg X.base CX k fa fd ps (spF X.K n (some j) M)) (hgu : X.A.guards = some []) (hr : Room k X.A) (hg : Gl X x) (hm : X.mg x = some (.ref fa)) (hk : PySem.W.keepIn X.K (.ref fa) = true) (hb : Binds X.K fd ps []) (hx : Passes CX X E)
    (ha : DAS X c j i (e :: es) f) (hdb : (x == ("__debug__" : Str)) = false := by decide) (he : starEach (e :: es) X.env = (false, eval e X.env) :: starEach es X.env := by rfl) (hpl : (backTo pos (starEach es X.env)).any (·.1) = false := by rfl) :
    DE X c (.Call (.Name x p) (e :: es) [] pos) (dCallS n i j M f) :=
  PE.imp (callA Fn hgu hr hg hm hk hb .nil hx ha hdb he hpl) fun σ H Q ⟨F, ow, δ, w, g1⟩ => ⟨F, ow, δ, w, Go.imp (fun vs H1 h1 => by
    obtain ⟨F1, ow1, ds, δ1, e1, w1, ⟨r1, v, hvj, hvi⟩, _, g2⟩ := h1
    have ln : vs.length = n ∨ ¬ ds.length + 1 = n := by
      have l1 := r1.length
      have l2 : j < vs.length := (List.getElem?_eq_some_iff.mp hvj).1
      rw [List.length_eraseIdx_of_lt l2] at l1
      omega
    split at g2
    · rename_i hl
      have go : ∀ s, δ1[i]? = some s → s ≠ .emp → (match M ds s with
          | some (.p d, s') => Go X.K c (Rep X.K) F1 H1 σ (.ok d (δ1.set i s')) Q
          | _ => False) → spF X.K n (some j) M (vs ++ []) H1 Q E := fun s q ne g => by
        rw [List.append_nil]
        rcases w1.sl i s q with z | ⟨u, hu, rs⟩
        · exact absurd z ne
        rw [hvi] at hu; cases hu
        split at g
        · rename_i d s' hM
          refine ⟨ln.resolve_right (fun z => z hl), F1, fun a => ow1 a = some i, ds, s, ⟨r1, v, hvj, rs⟩, fun a z => ⟨(w1.df a i z).1, (w1.df a i z).2.1⟩, fun a f => (w1.ft a f).1, _, _, hM, fun F' P' P2 H' v' ex kp ff pp p2 hio rv => ?_⟩
          cases rv with
          | p rv => exact g F' _ H' v' ex (w1.afterS ex kp ff pp hvi (hio j rfl v hvj)) rv
        · exact g.elim
      cases q : δ1[i]? with
      | none => rw [q] at g2; exact g2.elim
      | some s =>
        rw [q] at g2
        have rest : s ≠ .emp → Go X.K c (Rep X.K) F1 H1 σ (match M ds s with
            | some (.p d, s') => R.ok d (δ1.set i s')
            | _ => .bad) Q → spF X.K n (some j) M (vs ++ []) H1 Q E := fun ne g => by
          refine go s q ne ?_
          split at g
          · exact g
          · exact g.elim
        cases s with
        | emp => exact g2.elim
        | p d => exact rest (by simp) g2
        | st S => exact rest (by simp) g2
        | ml l => exact rest (by simp) g2
    · exact g2.elim) (Go.bind (rep := fun F H (vs : List V) (ds : List D) => Reps X.K F H (vs.eraseIdx j) ds ∧ ∃ v, vs[j]? = some v ∧ σ[i]? = some (some v)) g1)⟩

/-! ### x = f(..) where f hands back a thing of one's own -/
def dSetF (i n : Nat) (M : Mir) (f : Env → R (List D)) (δ : Env) : SRes := match f δ with
  | .ok ds δ1 => if ds.length = n then (match M ds .emp with
    | some (r, _) => .nx (δ1.set i r)
    | none => .bad) else .bad
  | .bad => .bad
open Classical in
theorem W.setS {K : PySem.W.Frag} {c : FC} {F P2 : Addr → Prop} {ow : Addr → Option Nat} {H : Hp} {σ : L2.St} {δ : Env} {i : Nat} {v : V} {r : Sl} (w : W K c F ow H σ δ) (hio : ∀ a, c.io ≠ some (i, a)) (p2 : ∀ a, P2 a → ¬ F a ∧ H a ≠ none ∧ ow a = none ∧ (c.fp0 a ∨ c.H0 a = none)) (hs : SlR K F H P2 v r) :
    W K c F (fun a => if P2 a then some i else ow a) H (σ.set i (some v)) (δ.set i r) where
  len := by simpa using w.len
  sl := fun k s e => by
    by_cases hk : i = k
    · subst hk
      have hl : i < δ.length := by
        rcases Nat.lt_or_ge i δ.length with z | z
        · exact z
        · rw [List.getElem?_eq_none (by simpa using z)] at e; cases e
      rw [List.getElem?_set_self hl] at e
      cases e
      exact .inr ⟨v, List.getElem?_set_self (by rw [w.len]; exact hl), hs.mono (Ext.refl _ _) fun a pa => ⟨by rw [if_pos pa], rfl⟩⟩
    · rw [List.getElem?_set_ne hk] at e
      rw [List.getElem?_set_ne hk]
      refine (w.sl k s e).imp id fun ⟨u, q, r⟩ => ⟨u, q, r.mono (Ext.refl _ _) fun a z => ⟨?_, rfl⟩⟩
      rw [if_neg fun q => by rw [(p2 a q).2.2.1] at z; cases z]; exact z
  df := fun a k e => by
    by_cases h1 : P2 a
    · exact ⟨(p2 a h1).1, (p2 a h1).2.1, (p2 a h1).2.2.2⟩
    · rw [if_neg h1] at e; exact w.df a k e
  ft := w.ft
  kp := w.kp
  io := fun j a e => by
    rw [List.getElem?_set_ne (fun z => by subst z; exact hio a e)]
    exact w.io j a e
theorem FC.io_ne {c : FC} {i : Nat} (h : c.at ≠ some i) : ∀ a, c.io ≠ some (i, a) := fun a e => h (by unfold FC.at; rw [e]; rfl)
theorem ds_setF {i : Nat} {y : Str} {pos' spos : Pos} (hn : ps.length = n) (Fn : FnA X.prog X.w X.K X.mg X.base CX k fa fd ps (spF X.K n none M)) (hgu : X.A.guards = some []) (hr : Room k X.A) (hg : Gl X x) (hm : X.mg x = some (.ref fa)) (hk : PySem.W.keepIn X.K (.ref fa) = true) (hb : Binds X.K fd ps []) (hx : Passes CX X E)
    (hi : c.at ≠ some i) (hN : X.N.Nodup) (hiN : X.N[i]? = some y) (hloc : Loc X.env.scope y)
    (ha : DA X c (e :: es) f) (hdb : (x == ("__debug__" : Str)) = false := by decide) (he : starEach (e :: es) X.env = (false, eval e X.env) :: starEach es X.env := by rfl) (hpl : (backTo pos (starEach es X.env)).any (·.1) = false := by rfl)
    (hsw : swapsWith (.Call (.Name x p) (e :: es) [] pos) (some (.Name y pos')) spos.line X.env = pure false := by rfl) (hf : X.fn y = true ∨ X.env.scope.names.lookup y = some .local := by first | exact .inl rfl | exact .inr rfl | assumption) :
    DS X c (.Assign [.Name y pos'] (.Call (.Name x p) (e :: es) [] pos) spos) (dSetF i n M f) :=
  PS.imp (ps_set (i := i) hN hiN hloc (callA Fn hgu hr hg hm hk hb .nil hx ha hdb he hpl) hsw hf) fun Dn σ H ⟨F, ow, δ, w, g1⟩ => by
    refine ⟨F, ow, δ, w, ?_⟩
    unfold dSetF at g1
    cases q : f δ with
    | bad => rw [q] at g1; exact g1
    | ok ds δ1 =>
      rw [q] at g1
      dsimp only at g1
      intro F1 ow1 H1 vs ex1 w1 r1
      split at g1
      · rename_i hl
        split at g1
        · rename_i r s' hM
          rw [List.append_nil]
          refine ⟨r1.length.trans hl, F1, fun _ => False, ds, .emp, ⟨r1, rfl⟩, fun _ z => z.elim, fun a f => (w1.ft a f).1, _, _, hM, fun F' P' P2 H' v ex kp ff pp p2 _ rv => ?_⟩
          have w2 := w1.after ex (fun a o q => kp a o q fun z => z) fun a f => ⟨(ff a f).1, (ff a f).2.imp id fun q => q.elim (fun z => z.elim) id⟩
          exact g1 F' _ H' _ (ex1.trans ex) (w2.setS (FC.io_ne hi) (fun a pa => ⟨(p2 a pa).1, (p2 a pa).2.1, (w1.fresh (p2 a pa).2.2.1).1, (w1.fresh (p2 a pa).2.2.1).2.2⟩) rv)
        · exact g1.elim
      · exact g1.elim
end
end PV

namespace PV
open PySem PySem.Spec PyProof.Rows L2

/-! ## statements -/
section
variable {X : Cx} {c : FC} {e : Expr} {fe : Env → R D} {s : Stmt} {rest : List Stmt} {f g : Env → SRes} {pos : Pos}
def sNext (δ : Env) : SRes := .nx δ
def sSeq (f g : Env → SRes) (δ : Env) : SRes := (f δ).seq g
theorem dss_nil : DSs X c [] sNext := PSs.imp pss_nil fun Dn σ H ⟨F, ow, δ, w, g1⟩ => g1 F ow H σ (Ext.refl _ _) w
theorem dss_one (h : DS X c s f) : DSs X c [s] f := pss_one h
theorem dss_cons (h : DS X c s f) (hr : DSs X c rest g) : DSs X c (s :: rest) (sSeq f g) :=
  PSs.imp (pss_cons h hr) fun Dn σ H ⟨F, ow, δ, w, g1⟩ => by
    refine ⟨F, ow, δ, w, ?_⟩
    unfold sSeq at g1
    cases q : f δ with
    | nx δ1 => rw [q] at g1; exact fun F' ow' H' σ' ex w' => ⟨F', ow', δ1, w', GoS.mono ex g1⟩
    | rt d δ1 => rw [q] at g1; exact g1
    | bk δ1 => rw [q] at g1; exact g1
    | ct δ1 => rw [q] at g1; exact g1
    | bad => rw [q] at g1; exact g1
def sRet (fe : Env → R D) (δ : Env) : SRes := match fe δ with
  | .ok d δ1 => .rt d δ1
  | .bad => .bad
theorem ds_ret (h : DE X c e fe) : DS X c (.Return (some e) pos) (sRet fe) :=
  PS.imp (ps_ret h) fun Dn σ H ⟨F, ow, δ, w, g1⟩ => by
    refine ⟨F, ow, δ, w, ?_⟩
    unfold sRet at g1
    cases q : fe δ with
    | ok d δ1 => rw [q] at g1; exact fun F' ow' H' v ex w' r => g1 F' ow' H' σ v ex w' r
    | bad => rw [q] at g1; exact g1
def sRetN (δ : Env) : SRes := .rt .non δ
theorem ds_retN : DS X c (.Return none pos) sRetN := PS.imp ps_retN fun Dn σ H ⟨F, ow, δ, w, g1⟩ => g1 F ow H σ .non (Ext.refl _ _) w .non
def sBk (δ : Env) : SRes := .bk δ
def sCt (δ : Env) : SRes := .ct δ
def sBad (_ : Env) : SRes := .bad
theorem ds_pass : DS X c (.Pass pos) sNext := PS.imp ps_pass fun Dn σ H ⟨F, ow, δ, w, g1⟩ => g1 F ow H σ (Ext.refl _ _) w
theorem ds_break : DS X c (.Break pos) sBk := PS.imp ps_break fun Dn σ H ⟨F, ow, δ, w, g1⟩ => g1 F ow H σ (Ext.refl _ _) w
theorem ds_cont : DS X c (.Continue pos) sCt := PS.imp ps_continue fun Dn σ H ⟨F, ow, δ, w, g1⟩ => g1 F ow H σ (Ext.refl _ _) w
theorem ds_doc {x : Str} {j : Nat} {p : Pos} : DS X c (.Expr (.Constant (.str x) j p) pos) sNext := PS.imp ps_doc fun Dn σ H ⟨F, ow, δ, w, g1⟩ => g1 F ow H σ (Ext.refl _ _) w
/-- a statement that is not reached -/
theorem ds_never : DS X c s sBad := PS.imp ps_never fun Dn σ H ⟨F, ow, δ, w, g1⟩ => g1
theorem dss_never : DSs X c rest sBad := PSs.imp pss_never fun Dn σ H ⟨F, ow, δ, w, g1⟩ => g1
def sSet (i : Nat) (fe : Env → R D) (δ : Env) : SRes := match fe δ with
  | .ok d δ1 => .nx (δ1.set i (.p d))
  | .bad => .bad
theorem ds_set {i : Nat} {x : Str} {pos' : Pos} (hi : c.at ≠ some i) (hN : X.N.Nodup) (hiN : X.N[i]? = some x) (hx : Loc X.env.scope x) (he : DE X c e fe) (hs : swapsWith e (some (.Name x pos')) pos.line X.env = pure false := by rfl) (hf : X.fn x = true ∨ X.env.scope.names.lookup x = some .local := by first | exact .inl rfl | exact .inr rfl | assumption) :
    DS X c (.Assign [.Name x pos'] e pos) (sSet i fe) :=
  PS.imp (ps_set hN hiN hx he hs hf) fun Dn σ H ⟨F, ow, δ, w, g1⟩ => by
    refine ⟨F, ow, δ, w, ?_⟩
    unfold sSet at g1
    cases q : fe δ with
    | ok d δ1 => rw [q] at g1; exact fun F' ow' H' v ex w' r => g1 F' ow' H' _ ex (w'.set r (FC.io_ne hi))
    | bad => rw [q] at g1; exact g1
def sDrop (fe : Env → R D) (δ : Env) : SRes := match fe δ with
  | .ok _ δ1 => .nx δ1
  | .bad => .bad
theorem ds_expr (he : DE X c e fe) (hs : swapsWith e none pos.line X.env = pure false := by rfl) : DS X c (.Expr e pos) (sDrop fe) :=
  PS.imp (ps_expr he hs) fun Dn σ H ⟨F, ow, δ, w, g1⟩ => by
    refine ⟨F, ow, δ, w, ?_⟩
    unfold sDrop at g1
    cases q : fe δ with
    | ok d δ1 => rw [q] at g1; exact fun F' ow' H' v ex w' r => g1 F' ow' H' _ ex w'
    | bad => rw [q] at g1; exact g1
def sIf (t : Env → R Bool) (f g : Env → SRes) (δ : Env) : SRes := match t δ with
  | .ok b δ1 => if b = true then f δ1 else g δ1
  | .bad => .bad
theorem ds_if {t : Env → R Bool} {a b : List Stmt} (ht : DT X c e t) (ha : DSs X c a f) (hb : DSs X c b g) : DS X c (.If e a b pos) (sIf t f g) :=
  PS.imp (ps_if ht ha hb) fun Dn σ H ⟨F, ow, δ, w, g1⟩ => by
    refine ⟨F, ow, δ, w, ?_⟩
    unfold sIf at g1
    cases q : t δ with
    | ok b δ1 =>
      rw [q] at g1
      intro F' ow' H' v ex w' r
      subst r
      dsimp only at g1
      cases v
      · rw [if_neg Bool.false_ne_true] at g1 ⊢; exact ⟨F', ow', δ1, w', GoS.mono ex g1⟩
      · rw [if_pos rfl] at g1 ⊢; exact ⟨F', ow', δ1, w', GoS.mono ex g1⟩
    | bad => rw [q] at g1; exact g1
def sAug (i : Nat) (op : Int → Int → Int) (fe : Env → R D) (δ : Env) : SRes := match δ[i]? with
  | some (.p (.int x)) => (match fe δ with
    | .ok (.int y) δ1 => .nx (δ1.set i (.p (.int (op x y))))
    | _ => .bad)
  | _ => .bad
theorem ds_aug {i : Nat} {x : Str} {op : Operator} {fo : Int → Int → Int} {pos' : Pos} (hi : c.at ≠ some i) (hN : X.N.Nodup) (hiN : X.N[i]? = some x) (hx : Loc X.env.scope x) (he : DE X c e fe) (ho : PIp X op (ipI fo)) (hf : X.fn x = true ∨ X.env.scope.names.lookup x = some .local := by first | exact .inl rfl | exact .inr rfl | assumption) :
    DS X c (.AugAssign (.Name x pos') op e pos) (sAug i fo fe) :=
  PS.imp (ps_aug hN hiN hx he ho hf) fun Dn σ H ⟨F, ow, δ, w, g1⟩ => by
    unfold sAug at g1
    split at g1
    · rename_i a q
      obtain ⟨v, hv, rv⟩ := w.pur q
      cases rv
      refine ⟨_, hv, F, ow, δ, w, ?_⟩
      cases q2 : fe δ with
      | bad => rw [q2] at g1; exact g1.elim
      | ok d δ1 =>
        rw [q2] at g1
        intro F' ow' H' u ex w' r
        cases d with
        | int y => cases r; exact ⟨_, _, rfl, rfl, g1 F' ow' H' _ ex (w'.set (.int _) (FC.io_ne hi))⟩
        | _ => exact g1.elim
    · exact g1.elim

/-! ### targets -/
/-- a target: the slots that it writes are vs -/
def TgOk (K : PySem.W.Frag) (gT : TG) (g : D → Env → Option Env) (vs : List Nat) : Prop := ∀ (c : FC) (F : Addr → Prop) (ow : Addr → Option Nat) (H : Hp) (σ : L2.St) (δ δ' : Env) (x : V) (d : D) (Q : L2.St → Hp → Prop), (∀ i ∈ vs, c.at ≠ some i) → W K c F ow H σ δ → Rep K F H x d → g d δ = some δ' →
  (∀ σ', W K c F ow H σ' δ' → σ'.length = σ.length → (∀ i, i ∉ vs → σ'[i]? = σ[i]?) → Q σ' H) → gT x σ H Q
def tgN (i : Nat) (d : D) (δ : Env) : Option Env := some (δ.set i (.p d))
theorem tg_name {K : PySem.W.Frag} (i : Nat) : TgOk K (gName i) (tgN i) [i] := by
  intro c F ow H σ δ δ' x d Q hc w r e k
  cases e
  refine k _ (w.set r (FC.io_ne (hc i (List.mem_singleton_self i)))) (by simp) fun j hj => ?_
  exact List.getElem?_set_ne (fun z => hj (by simp [z]))
def tgsN : List Nat → List D → Env → Option Env
  | [], [], δ => some δ
  | i :: r, d :: ds, δ => tgsN r ds (δ.set i (.p d))
  | _, _, _ => none
def gNames : List Nat → TGs
  | [] => gNil
  | i :: r => gCons (gName i) (gNames r)
theorem tgs_names {K : PySem.W.Frag} : ∀ (vs : List Nat) (c : FC) (F : Addr → Prop) (ow : Addr → Option Nat) (H : Hp) (σ : L2.St) (δ δ' : Env) (xs : List V) (ds : List D) (Q : L2.St → Hp → Prop), (∀ i ∈ vs, c.at ≠ some i) → W K c F ow H σ δ → Reps K F H xs ds → tgsN vs ds δ = some δ' →
    (∀ σ', W K c F ow H σ' δ' → σ'.length = σ.length → (∀ i, i ∉ vs → σ'[i]? = σ[i]?) → Q σ' H) → gNames vs xs σ H Q := by
  intro vs
  induction vs with
  | nil =>
    intro c F ow H σ δ δ' xs ds Q hc w r e k
    cases r with
    | nil => cases e; exact ⟨rfl, k σ w rfl fun _ _ => rfl⟩
    | cons _ _ => cases e
  | cons i vs ih =>
    intro c F ow H σ δ δ' xs ds Q hc w r e k
    cases r with
    | nil => cases e
    | cons rv rr =>
      refine ⟨_, _, rfl, ih c F ow H _ _ δ' _ _ Q (fun j hj => hc j (List.mem_cons_of_mem _ hj)) (w.set rv (FC.io_ne (hc i List.mem_cons_self))) rr e fun σ' w' l n => k σ' w' (by simpa using l) fun j hj => ?_⟩
      rw [n j fun z => hj (List.mem_cons_of_mem _ z)]
      exact List.getElem?_set_ne (fun z => hj (by simp [z]))
def tgT (vs : List Nat) (d : D) (δ : Env) : Option Env := match d with
  | .tup ds => if ds.length = vs.length then tgsN vs ds δ else none
  | _ => none
theorem tg_tup {K : PySem.W.Frag} (vs : List Nat) : TgOk K (gTup K vs.length (gNames vs)) (tgT vs) vs := by
  intro c F ow H σ δ δ' x d Q hc w r e k
  unfold tgT at e
  split at e
  · split at e
    · rename_i hl
      obtain ⟨a, us, rfl, hq, rr⟩ := r.tup_inv
      exact ⟨a, us, rfl, hq, rr.length.trans hl, tgs_names vs c F ow H σ δ δ' us _ Q hc w rr e k⟩
    · cases e
  · cases e
/-- target = e -/
def sAsg (g : D → Env → Option Env) (fe : Env → R D) (δ : Env) : SRes := match fe δ with
  | .ok d δ1 => (match g d δ1 with
    | some δ2 => .nx δ2
    | none => .bad)
  | .bad => .bad
theorem ds_asg {tg : Expr} {gT : TG} {gd : D → Env → Option Env} {vs : List Nat} (hvs : ∀ i ∈ vs, c.at ≠ some i) (he : DE X c e fe) (hg : PG X tg gT) (ok : TgOk X.K gT gd vs) (hs : swapsWithSole [tg] e pos.line X.env = pure false := by rfl) (hw : swappedStores [tg] e X.env = pure none := by rfl)
    (h1 : (assignEach [tg] X.env).map (·.2) = [assign tg X.env] := by rfl) : DS X c (.Assign [tg] e pos) (sAsg gd fe) :=
  PS.imp (ps_asg he hg hs hw h1) fun Dn σ H ⟨F, ow, δ, w, g1⟩ => by
    refine ⟨F, ow, δ, w, ?_⟩
    unfold sAsg at g1
    cases q : fe δ with
    | bad => rw [q] at g1; exact g1
    | ok d δ1 =>
      rw [q] at g1
      intro F' ow' H' v ex w' r
      dsimp only at g1
      cases q2 : gd d δ1 with
      | none => rw [q2] at g1; exact g1.elim
      | some δ2 => rw [q2] at g1; exact ok c F' ow' H' σ δ1 δ2 v d _ hvs w' r q2 fun σ' w2 _ _ => g1 F' ow' H' σ' ex w2
/-- x, y = a, b with plain names -/
def sPar (vs : List Nat) (f : Env → R (List D)) (δ : Env) : SRes := match f δ with
  | .ok ds δ1 => (match tgsN vs ds δ1 with
    | some δ2 => .nx δ2
    | none => .bad)
  | .bad => .bad
theorem ds_par {i j : Nat} {x y : Str} {a b : Expr} {fa : Env → R (List D)} {px py pt : Pos} {kt k2 : Nat} {pt2 : Pos} (hi1 : c.at ≠ some i) (hi2 : c.at ≠ some j) (hc : X.calm = true) (hN : X.N.Nodup) (hi : X.N[i]? = some x) (hj : X.N[j]? = some y) (hij : i ≠ j)
    (hx : X.env.scope.names.lookup x = some .local) (hy : X.env.scope.names.lookup y = some .local) (ha : DA X c [a, b] fa)
    (hw : swappedStores [.Tuple [.Name x px, .Name y py] kt pt] (.Tuple [a, b] k2 pt2) X.env = pure (some [x, y]))
    (hs : swapsWithSole [.Tuple [.Name x px, .Name y py] kt pt] (.Tuple [a, b] k2 pt2) pos.line X.env = pure false := by rfl) :
    DS X c (.Assign [.Tuple [.Name x px, .Name y py] kt pt] (.Tuple [a, b] k2 pt2) pos) (sPar [i, j] fa) :=
  PS.imp (ps_par hc hN hi hj hij hx hy ha hw hs) fun Dn σ H ⟨F, ow, δ, w, g1⟩ => by
    refine ⟨F, ow, δ, w, ?_⟩
    unfold sPar at g1
    cases q : fa δ with
    | bad => rw [q] at g1; exact g1
    | ok d δ1 =>
      rw [q] at g1
      intro F' ow' H' vs ex w' r
      match d, r, g1 with
      | [d1, d2], .cons r1 (.cons r2 .nil), g1 => exact ⟨_, _, rfl, g1 F' ow' H' _ ex ((w'.set r1 (FC.io_ne hi1)).set r2 (FC.io_ne hi2))⟩
      | [], _, g1 => exact g1.elim
      | [_], _, g1 => exact g1.elim
      | _ :: _ :: _ :: _, _, g1 => exact g1.elim
theorem ds_par3 {i j l : Nat} {x y z : Str} {a b d : Expr} {fa : Env → R (List D)} {px py pz pt : Pos} {kt k2 : Nat} {pt2 : Pos} (hi1 : c.at ≠ some i) (hi2 : c.at ≠ some j) (hi3 : c.at ≠ some l) (hc : X.calm = true) (hN : X.N.Nodup) (hi : X.N[i]? = some x) (hj : X.N[j]? = some y) (hl : X.N[l]? = some z) (hij : i ≠ j) (hil : i ≠ l) (hjl : j ≠ l)
    (hx : X.env.scope.names.lookup x = some .local) (hy : X.env.scope.names.lookup y = some .local) (hz : X.env.scope.names.lookup z = some .local) (ha : DA X c [a, b, d] fa)
    (hw : swappedStores [.Tuple [.Name x px, .Name y py, .Name z pz] kt pt] (.Tuple [a, b, d] k2 pt2) X.env = pure (some [x, y, z]))
    (hs : swapsWithSole [.Tuple [.Name x px, .Name y py, .Name z pz] kt pt] (.Tuple [a, b, d] k2 pt2) pos.line X.env = pure false := by rfl) :
    DS X c (.Assign [.Tuple [.Name x px, .Name y py, .Name z pz] kt pt] (.Tuple [a, b, d] k2 pt2) pos) (sPar [i, j, l] fa) :=
  PS.imp (L2.ps_par3 hc hN hi hj hl hij hil hjl hx hy hz ha hw hs) fun Dn σ H ⟨F, ow, δ, w, g1⟩ => by
    refine ⟨F, ow, δ, w, ?_⟩
    unfold sPar at g1
    cases q : fa δ with
    | bad => rw [q] at g1; exact g1
    | ok d δ1 =>
      rw [q] at g1
      intro F' ow' H' vs ex w' r
      match d, r, g1 with
      | [d1, d2, d3], .cons r1 (.cons r2 (.cons r3 .nil)), g1 => exact ⟨_, _, _, rfl, g1 F' ow' H' _ ex (((w'.set r1 (FC.io_ne hi1)).set r2 (FC.io_ne hi2)).set r3 (FC.io_ne hi3))⟩
      | [], _, g1 => exact g1.elim
      | [_], _, g1 => exact g1.elim
      | [_, _], _, g1 => exact g1.elim
      | _ :: _ :: _ :: _ :: _, _, g1 => exact g1.elim

/-! ### what is walked -/
/-- the iterator J gives these items, in any later world -/
structure ItD (K : PySem.W.Frag) (J : It) (F : Addr → Prop) (H : Hp) (items : List D) : Prop where
  go : ∀ F' H' (i : Nat), Ext F H F' H' → i < items.length → J.go i H'
  yld : ∀ F' H' (i : Nat) x H2, Ext F H F' H' → i < items.length → J.yld i H' x H2 → ∃ d, items[i]? = some d ∧ ((H2 = H' ∧ Rep K F' H' x d) ∨ ∃ T o, x = .ref T ∧ H' T = none ∧ H2 = upd H' T o ∧ Rep K (fun a => F' a ∨ a = T) H2 x d)
  stop : ∀ F' H' (i : Nat), Ext F H F' H' → items.length ≤ i → J.stop i H'
def tIt (K : PySem.W.Frag) (c : FC) (f : Env → R (List D)) : TI := fun σ H Rr => ∃ F ow δ, W K c F ow H σ δ ∧ match f δ with
  | .ok items δ' => ∀ F' ow' H' J, Ext F H F' H' → W K c F' ow' H' σ δ' → ItD K J F' H' items → Rr J H'
  | .bad => False
abbrev DI (X : Cx) (c : FC) (tg iter : Expr) (f : Env → R (List D)) : Prop := PI X tg iter (tIt X.K c f)
theorem PI.imp {X : Cx} {tg e : Expr} {t t' : TI} (h : PI X tg e t) (i : ∀ σ H Q, t' σ H Q → t σ H Q) : PI X tg e t' := ⟨fun pins s σ H Q I q => h.run pins s σ H Q I (i σ H Q q)⟩
theorem itd_list {K : PySem.W.Frag} {F : Addr → Prop} {H : Hp} {a : Addr} {vs : List V} {ds : List D} (f : F a) (h : H a = some (.lst vs)) (r : Reps K F H vs ds) : ItD K (Itl K a) F H ds where
  go := fun F' H' i e hi => by
    have hi' : i < vs.length := by rw [r.length]; exact hi
    exact ⟨vs, vs[i], SqL.of (e.kp a _ f h), List.getElem?_eq_getElem hi'⟩
  yld := fun F' H' i x H2 e hi ⟨e2, k⟩ => by
    have q := k vs (SqL.of (e.kp a _ f h))
    obtain ⟨d, hd, rd⟩ := r.getV q
    exact ⟨d, hd, .inl ⟨e2, rd.mono e⟩⟩
  stop := fun F' H' i e hi => ⟨vs, SqL.of (e.kp a _ f h), by rw [r.length]; exact hi⟩
theorem itd_scr {K : PySem.W.Frag} {F : Addr → Prop} {H : Hp} {a : Addr} {ns : List Int} (h : Rep K F H (.ref a) (.scr ns)) : ItD K (Itl K a) F H (ns.map D.int) := by
  have sq : ∀ F' H', Ext F H F' H' → SqL K H' a (ns.map V.int) := fun F' H' e => by
    obtain ⟨a', e1, q⟩ := (h.mono e).scr_inv
    cases e1; exact q
  refine ⟨fun F' H' i e hi => ?_, fun F' H' i x H2 e hi ⟨e2, k⟩ => ?_, fun F' H' i e hi => ⟨_, sq F' H' e, by simpa using hi⟩⟩
  · have hi' : i < (ns.map V.int).length := by simpa using hi
    exact ⟨_, _, sq F' H' e, List.getElem?_eq_getElem hi'⟩
  · have q := k _ (sq F' H' e)
    rw [List.getElem?_map] at q
    cases q2 : ns[i]? with
    | none => rw [q2] at q; cases q
    | some n => rw [q2] at q; cases q; exact ⟨.int n, by rw [List.getElem?_map, q2]; rfl, .inl ⟨e2, .int n⟩⟩
def gLstOf : D → Option (List D)
  | .lst l => some l
  | .scr l => some (l.map D.int)
  | _ => none
/-- over a list -/
def iLst (f : Env → R D) (δ : Env) : R (List D) := (f δ).bind fun x δ1 => match gLstOf x with
  | some l => .ok l δ1
  | none => .bad
theorem di_list {tg : Expr} (h : DE X c e fe) : DI X c tg e (iLst fe) :=
  PI.imp (pi_list h) fun σ H Q ⟨F, ow, δ, w, g1⟩ => by
    refine ⟨F, ow, δ, w, ?_⟩
    unfold iLst at g1
    cases q : fe δ with
    | bad => rw [q] at g1; exact g1
    | ok d δ1 =>
      rw [q, R.bind_ok] at g1
      intro F' ow' H' v ex w' r
      cases d with
      | lst l =>
        obtain ⟨a, vs, rfl, h, f, r1⟩ := r.lst_inv
        exact ⟨a, rfl, ⟨vs, SqL.of h⟩, g1 F' ow' H' _ ex w' (itd_list f h r1)⟩
      | scr l =>
        obtain ⟨a, rfl, h⟩ := r.scr_inv
        exact ⟨a, rfl, ⟨_, h⟩, g1 F' ow' H' _ ex w' (itd_scr r)⟩
      | _ => exact g1.elim
theorem itd_range {K : PySem.W.Frag} {F : Addr → Prop} {H : Hp} {lo : Int} {n : Nat} : ItD K (Itr lo n) F H ((List.range n).map fun (i : Nat) => D.int (lo + (i : Int))) where
  go := fun F' H' i e hi => by show i < n; simpa using hi
  yld := fun F' H' i x H2 e hi ⟨e2, e3⟩ => ⟨.int (lo + i), by rw [List.getElem?_map, List.getElem?_range (by simpa using hi)]; rfl, .inl ⟨e2, by rw [e3]; exact .int _⟩⟩
  stop := fun F' H' i e hi => by show n ≤ i; simpa using hi
def gRange1 : List D → Option (List D)
  | [.int j] => if -4611686018427387904 ≤ j ∧ j < 4611686018427387904 then some ((List.range j.toNat).map fun (i : Nat) => D.int (0 + (i : Int))) else none
  | _ => none
def gRange2 : List D → Option (List D)
  | [.int i, .int j] => if -4611686018427387904 ≤ i ∧ i < 4611686018427387904 ∧ -4611686018427387904 ≤ j ∧ j < 4611686018427387904 then some ((List.range (j - i).toNat).map fun (k : Nat) => D.int (i + (k : Int))) else none
  | _ => none
def iCall (g : List D → Option (List D)) (f : Env → R (List D)) (δ : Env) : R (List D) := (f δ).bind fun xs δ1 => match g xs with
  | some l => .ok l δ1
  | none => .bad
theorem di_range1 {tg a : Expr} {fa : Env → R (List D)} {p : Pos} (hg : Gl X "range") (hm : X.mg "range" = none) (ha : DA X c [a] fa) (hs : starEach [a] X.env = [(false, eval a X.env)] := by rfl) : DI X c tg (.Call (.Name "range" p) [a] [] pos) (iCall gRange1 fa) :=
  PI.imp (pi_range1 hg hm ha hs) fun σ H Q ⟨F, ow, δ, w, g1⟩ => by
    refine ⟨F, ow, δ, w, ?_⟩
    unfold iCall at g1
    cases q : fa δ with
    | bad => rw [q] at g1; exact g1
    | ok d δ1 =>
      rw [q, R.bind_ok] at g1
      intro F' ow' H' v ex w' r
      cases q2 : gRange1 d with
      | none => rw [q2] at g1; exact g1.elim
      | some l =>
        rw [q2] at g1
        unfold gRange1 at q2
        split at q2
        · split at q2
          · rename_i hz; cases q2
            cases r with | cons a b => cases a; cases b; exact ⟨_, rfl, by omega, by omega, g1 F' ow' H' _ ex w' itd_range⟩
          · cases q2
        · cases q2
theorem di_range2 {tg a b : Expr} {fa : Env → R (List D)} {p : Pos} (hg : Gl X "range") (hm : X.mg "range" = none) (ha : DA X c [a, b] fa) (hs : starEach [a, b] X.env = [(false, eval a X.env), (false, eval b X.env)] := by rfl) (hs2 : starEach [b] X.env = [(false, eval b X.env)] := by rfl) :
    DI X c tg (.Call (.Name "range" p) [a, b] [] pos) (iCall gRange2 fa) :=
  PI.imp (pi_range2 hg hm ha hs hs2) fun σ H Q ⟨F, ow, δ, w, g1⟩ => by
    refine ⟨F, ow, δ, w, ?_⟩
    unfold iCall at g1
    cases q : fa δ with
    | bad => rw [q] at g1; exact g1
    | ok d δ1 =>
      rw [q, R.bind_ok] at g1
      intro F' ow' H' v ex w' r
      cases q2 : gRange2 d with
      | none => rw [q2] at g1; exact g1.elim
      | some l =>
        rw [q2] at g1
        unfold gRange2 at q2
        split at q2
        · split at q2
          · rename_i hz; cases q2
            cases r with | cons a b => cases a; cases b with | cons a b => cases a; cases b; exact ⟨_, _, rfl, by omega, g1 F' ow' H' _ ex w' itd_range⟩
          · cases q2
        · cases q2
/-! ### for -/
def forD (g : D → Env → Option Env) (b : Env → SRes) : List D → Env → SRes
  | [], δ => .nx δ
  | d :: ds, δ => match g d δ with
    | none => .bad
    | some δ1 => match b δ1 with
      | .nx δ2 => forD g b ds δ2
      | .ct δ2 => forD g b ds δ2
      | .bk δ2 => .nx δ2
      | .rt x δ2 => .rt x δ2
      | .bad => .bad
def sFor (f : Env → R (List D)) (g : D → Env → Option Env) (b : Env → SRes) (δ : Env) : SRes := match f δ with
  | .ok items δ1 => forD g b items δ1
  | .bad => .bad
theorem ds_for {tg iter : Expr} {body : List Stmt} {gT : TG} {gd : D → Env → Option Env} {vs : List Nat} {fi : Env → R (List D)} {b : Env → SRes} (hp : PassesOwn (model X.prog X.w) X.A X.env X.xe) (hc : X.calm = true) (hvs : ∀ i ∈ vs, c.at ≠ some i) (hi : DI X c tg iter fi) (hg : PG X tg gT) (ok : TgOk X.K gT gd vs) (hb : DSs X c body b) (hs : ∀ x, foldedSetIterable iter X.env x = pure x := by intro _; rfl) :
    DS X c (.For tg iter body [] pos) (sFor fi gd b) :=
  PS.imp (ps_for hp hc hi hg hb hs) fun Dn σ H ⟨F, ow, δ, w, g1⟩ => by
    refine ⟨F, ow, δ, w, ?_⟩
    unfold sFor at g1
    cases q : fi δ with
    | bad => rw [q] at g1; exact g1
    | ok items δ1 =>
      rw [q] at g1
      intro F1 ow1 H1 J e1 w1 it
      refine ⟨fun i m σ' H' => m + i = items.length ∧ ∃ F' ow' δ', Ext F1 H1 F' H' ∧ W X.K c F' ow' H' σ' δ' ∧ GoS X.K c F' H' (forD gd b (items.drop i) δ') Dn, ⟨items.length, rfl, F1, ow1, δ1, Ext.refl _ _, w1, GoS.mono e1 g1⟩, ?_⟩
      rintro i m σ2 H2 ⟨hm, F2, ow2, δ2, e2, w2, g2⟩
      rcases Nat.lt_or_ge i items.length with hlt | hge
      · refine .inr ⟨it.go F2 H2 i e2 hlt, fun σ' H' => ∃ F' ow' δ', Ext F1 H1 F' H' ∧ W X.K c F' ow' H' σ' δ' ∧ GoS X.K c F' H' (forD gd b (items.drop (i + 1)) δ') Dn, fun σ' H' hN => ⟨m - 1, by omega, by omega, hN⟩, fun x H3 hy => ?_⟩
        obtain ⟨d, hd, hx⟩ := it.yld F2 H2 i x H3 e2 hlt hy
        have hdrop : items.drop i = d :: items.drop (i + 1) := by
          have h1 := (List.getElem?_eq_some_iff.mp hd)
          rw [← h1.2]; exact List.drop_eq_getElem_cons h1.1
        rw [hdrop] at g2
        obtain ⟨F3, e3, w3, r3⟩ : ∃ F3, Ext F2 H2 F3 H3 ∧ W X.K c F3 ow2 H3 σ2 δ2 ∧ Rep X.K F3 H3 x d := by
          rcases hx with ⟨rfl, r⟩ | ⟨T, o, rfl, hT, rfl, r⟩
          · exact ⟨F2, Ext.refl _ _, w2, r⟩
          · exact ⟨_, Ext.new w2 hT, w2.new hT, r⟩
        unfold forD at g2
        cases q3 : gd d δ2 with
        | none => rw [q3] at g2; exact g2.elim
        | some δ3 =>
          rw [q3] at g2
          dsimp only at g2
          refine ok c F3 ow2 H3 σ2 δ2 δ3 x d _ hvs w3 r3 q3 fun σ4 w4 _ _ => ⟨F3, ow2, δ3, w4, ?_⟩
          cases q4 : b δ3 with
          | nx δ4 => rw [q4] at g2; exact fun F5 ow5 H5 σ5 e5 w5 => ⟨F5, ow5, δ4, e2.trans (e3.trans e5), w5, GoS.mono (e3.trans e5) g2⟩
          | ct δ4 => rw [q4] at g2; exact fun F5 ow5 H5 σ5 e5 w5 => ⟨F5, ow5, δ4, e2.trans (e3.trans e5), w5, GoS.mono (e3.trans e5) g2⟩
          | bk δ4 => rw [q4] at g2; exact fun F5 ow5 H5 σ5 e5 w5 => g2 F5 ow5 H5 σ5 (e3.trans e5) w5
          | rt y δ4 => rw [q4] at g2; exact fun F5 ow5 H5 σ5 v e5 w5 r5 => g2 F5 ow5 H5 σ5 v (e3.trans e5) w5 r5
          | bad => rw [q4] at g2; exact g2.elim
      · refine .inl ⟨it.stop F2 H2 i e2 hge, ?_⟩
        rw [List.drop_eq_nil_of_le hge] at g2
        exact g2 F2 ow2 H2 σ2 (Ext.refl _ _) w2

/-! ### while -/
def whileN (t : Env → R Bool) (b : Env → SRes) : Nat → Env → SRes
  | 0, _ => .bad
  | n + 1, δ => match t δ with
    | .ok true δ1 => (match b δ1 with
      | .nx δ2 => whileN t b n δ2
      | .ct δ2 => whileN t b n δ2
      | .bk δ2 => .nx δ2
      | .rt x δ2 => .rt x δ2
      | .bad => .bad)
    | .ok false δ1 => .nx δ1
    | .bad => .bad
open Classical in
noncomputable def sWhile (t : Env → R Bool) (b : Env → SRes) (δ : Env) : SRes := if h : ∃ n, whileN t b n δ ≠ .bad then whileN t b (Classical.choose h) δ else .bad
theorem whileN_mono {t : Env → R Bool} {b : Env → SRes} : ∀ (n m : Nat) (δ : Env), whileN t b n δ ≠ .bad → n ≤ m → whileN t b m δ = whileN t b n δ := by
  intro n
  induction n with
  | zero => intro m δ h; exact absurd rfl h
  | succ n ih =>
    intro m δ h hm
    obtain ⟨m, rfl⟩ : ∃ k, m = k + 1 := ⟨m - 1, by omega⟩
    unfold whileN at h ⊢
    cases q : t δ with
    | bad => rfl
    | ok x δ1 =>
      rw [q] at h
      cases x with
      | false => rfl
      | true =>
        dsimp only at h ⊢
        cases q2 : b δ1 with
        | nx δ2 => rw [q2] at h; exact ih m δ2 h (by omega)
        | ct δ2 => rw [q2] at h; exact ih m δ2 h (by omega)
        | _ => rfl
theorem sWhile_eq {t : Env → R Bool} {b : Env → SRes} {δ : Env} {r : SRes} (n : Nat) (h : whileN t b n δ = r) (hr : r ≠ .bad) : sWhile t b δ = r := by
  have ex : ∃ n, whileN t b n δ ≠ .bad := ⟨n, by rw [h]; exact hr⟩
  unfold sWhile
  rw [dif_pos ex]
  have hc := Classical.choose_spec ex
  rcases Nat.le_total n (Classical.choose ex) with z | z
  · rw [whileN_mono n _ δ (by rw [h]; exact hr) z, h]
  · rw [← whileN_mono _ n δ hc z, h]
theorem ds_while {t : Env → R Bool} {body : List Stmt} {b : Env → SRes} (hp : PassesOwn (model X.prog X.w) X.A X.env X.xe) (ht : DT X c e t) (hb : DSs X c body b) : DS X c (.While e body [] pos) (sWhile t b) :=
  PS.imp (ps_while hp ht hb) fun Dn σ H ⟨F, ow, δ, w, g1⟩ => by
    refine ⟨fun n σ' H' => ∃ F' ow' δ', W X.K c F' ow' H' σ' δ' ∧ GoS X.K c F' H' (whileN t b n δ') Dn, ?_, ?_⟩
    · unfold sWhile at g1
      split at g1
      · rename_i h
        exact ⟨_, F, ow, δ, w, g1⟩
      · exact g1.elim
    · rintro n σ1 H1 ⟨F1, ow1, δ1, w1, g2⟩
      cases n with
      | zero => exact g2.elim
      | succ n =>
        refine ⟨F1, ow1, δ1, w1, ?_⟩
        unfold whileN at g2
        cases q : t δ1 with
        | bad => rw [q] at g2; exact g2
        | ok x δ2 =>
          rw [q] at g2
          intro F3 ow3 H3 y e3 w3 r3
          subst r3
          cases y with
          | false => rw [if_neg Bool.false_ne_true]; exact g2 F3 ow3 H3 σ1 e3 w3
          | true =>
            rw [if_pos rfl]
            dsimp only at g2
            refine ⟨fun σ' H' => ∃ F' ow' δ', W X.K c F' ow' H' σ' δ' ∧ GoS X.K c F' H' (whileN t b n δ') Dn, fun σ' H' h => ⟨n, Nat.lt_succ_self n, h⟩, F3, ow3, δ2, w3, ?_⟩
            cases q4 : b δ2 with
            | nx δ4 => rw [q4] at g2; exact fun F5 ow5 H5 σ5 e5 w5 => ⟨F5, ow5, δ4, w5, GoS.mono (e3.trans e5) g2⟩
            | ct δ4 => rw [q4] at g2; exact fun F5 ow5 H5 σ5 e5 w5 => ⟨F5, ow5, δ4, w5, GoS.mono (e3.trans e5) g2⟩
            | bk δ4 => rw [q4] at g2; exact fun F5 ow5 H5 σ5 e5 w5 => g2 F5 ow5 H5 σ5 (e3.trans e5) w5
            | rt y δ4 => rw [q4] at g2; exact fun F5 ow5 H5 σ5 v e5 w5 r5 => g2 F5 ow5 H5 σ5 v (e3.trans e5) w5 r5
            | bad => rw [q4] at g2; exact g2.elim
end
end PV

namespace PV
open PySem PySem.Spec PyProof.Rows L2

/-! ## comprehensions -/
def wipeE (δ : Env) : List Nat → Env
  | [] => δ
  | v :: vs => (wipeE δ vs).set v .emp
def restE (δ0 δ : Env) : List Nat → Env
  | [] => δ
  | v :: vs => (restE δ0 δ vs).set v (match δ0[v]? with
    | some (.p d) => .p d
    | _ => .emp)
section
variable {K : PySem.W.Frag} {c c' : FC} {F F' : Addr → Prop} {ow ow' : Addr → Option Nat} {H H' : Hp} {σ : L2.St} {δ : Env}
theorem W.setE (w : W K c F ow H σ δ) (i : Nat) (o : Option V) (hio : c.at ≠ some i) : W K c F ow H (σ.set i o) (δ.set i .emp) where
  len := by simp [w.len]
  sl := fun j s e => by
    by_cases hj : i = j
    · subst hj
      rw [List.getElem?_set] at e
      simp at e
      exact .inl e.2.symm
    · rw [List.getElem?_set_ne hj] at e
      rw [List.getElem?_set_ne hj]
      exact w.sl j s e
  df := w.df
  ft := w.ft
  kp := w.kp
  io := fun j a e => by
    rw [List.getElem?_set_ne (fun z => by subst z; exact FC.io_ne hio a e)]
    exact w.io j a e
theorem W.wipe (w : W K c F ow H σ δ) : ∀ (vs : List Nat), (∀ v ∈ vs, c.at ≠ some v) → W K c F ow H (L2.wipe σ vs) (wipeE δ vs)
  | [], _ => w
  | v :: vs, h => (W.wipe w vs fun x hx => h x (List.mem_cons_of_mem _ hx)).setE v none (h v List.mem_cons_self)
structure FC.Sub (c' c : FC) : Prop where
  f0 : ∀ a, c'.F0 a → c.F0 a ∨ c.fp0 a ∨ c.H0 a = none
  p0 : ∀ a, c'.fp0 a → c.fp0 a ∨ c.H0 a = none
  n0 : ∀ a, c'.H0 a = none → c.fp0 a ∨ c.H0 a = none
  k0 : ∀ a o, c.H0 a = some o → ¬ c.fp0 a → c'.H0 a = some o ∧ ¬ c'.fp0 a
theorem W.toC (w : W K c' F ow H σ δ) (s : FC.Sub c' c) (hio : ∀ j a, c.io = some (j, a) → σ[j]? = some (some a)) : W K c F ow H σ δ where
  len := w.len
  sl := w.sl
  df := fun a i e => ⟨(w.df a i e).1, (w.df a i e).2.1, (w.df a i e).2.2.elim (s.p0 a) (s.n0 a)⟩
  ft := fun a f => ⟨(w.ft a f).1, (w.ft a f).2.elim (s.f0 a) fun q => .inr (q.elim (s.p0 a) (s.n0 a))⟩
  kp := fun a o e z => w.kp a o (s.k0 a o e z).1 (s.k0 a o e z).2
  io := hio
/-- a ground within: all that is owned may be written, but not D -/
theorem W.sub (w : W K c F ow H σ δ) (p : Addr) : FC.Sub ⟨F, H, fun a => ow a ≠ none ∧ a ≠ p, none⟩ c where
  f0 := fun a f => (w.ft a f).2
  p0 := fun a ⟨q, _⟩ => by
    cases e : ow a with
    | none => exact absurd e q
    | some i => exact (w.df a i e).2.2
  n0 := fun a e => (w.fresh e).2.2
  k0 := fun a o e z => ⟨w.kp a o e z, fun ⟨q, _⟩ => by
    cases e2 : ow a with
    | none => exact q e2
    | some i => exact (w.df a i e2).2.2.elim z fun n => by rw [n] at e; cases e⟩
theorem W.inner (w : W K c F ow H σ δ) {p : Addr} (hp : ow p = none) : W K ⟨F, H, fun a => ow a ≠ none ∧ a ≠ p, none⟩ F ow H σ δ where
  len := w.len
  sl := w.sl
  df := fun a i e => ⟨(w.df a i e).1, (w.df a i e).2.1, .inl ⟨by rw [e]; simp, fun z => by subst z; rw [hp] at e; cases e⟩⟩
  ft := fun a f => ⟨(w.ft a f).1, .inl f⟩
  kp := fun a o e _ => e
  io := fun _ _ e => by cases e
theorem W.updOut (w : W K c F ow H σ δ) {p : Addr} {o : HO} (f : ¬ F p) (h : ow p = none) (n : c.fp0 p ∨ c.H0 p = none) : W K c F ow (upd H p o) σ δ where
  len := w.len
  sl := fun i s e => (w.sl i s e).imp id fun ⟨v, q, r⟩ => ⟨v, q, r.mono ⟨fun _ z => z, fun a u g e => by rw [upd_ne (fun z => by subst z; exact f g)]; exact e⟩ fun a z => ⟨z, upd_ne fun z' => by subst z'; rw [h] at z; cases z⟩⟩
  df := fun a i e => ⟨(w.df a i e).1, by rw [upd_ne (fun z => by subst z; rw [h] at e; cases e)]; exact (w.df a i e).2.1, (w.df a i e).2.2⟩
  ft := fun a g => ⟨by rw [upd_ne (fun z => by subst z; exact f g)]; exact (w.ft a g).1, (w.ft a g).2⟩
  kp := fun a u e z => by
    rw [upd_ne (fun q => by subst q; exact n.elim z fun m => by rw [m] at e; cases e)]
    exact w.kp a u e z
  io := w.io
theorem Ext.updOut {p : Addr} {o : HO} (f : ¬ F p) : Ext F H F (upd H p o) := ⟨fun _ z => z, fun a u g e => by rw [upd_ne (fun z => by subst z; exact f g)]; exact e⟩
theorem W.freeze (w : W K c F ow H σ δ) {p : Addr} (h : ow p = none) (hp : H p ≠ none) (n : c.fp0 p ∨ c.H0 p = none) : W K c (fun a => F a ∨ a = p) ow H σ δ where
  len := w.len
  sl := fun i s e => (w.sl i s e).imp id fun ⟨v, q, r⟩ => ⟨v, q, r.mono ⟨fun _ z => .inl z, fun _ _ _ e => e⟩ fun a z => ⟨z, rfl⟩⟩
  df := fun a i e => ⟨fun g => g.elim (w.df a i e).1 fun z => by (subst z; rw [h] at e; cases e), (w.df a i e).2⟩
  ft := fun a g => g.elim (w.ft a) fun z => by subst z; exact ⟨hp, .inr n⟩
  kp := w.kp
  io := w.io
theorem wipe_get {σ : L2.St} {i : Nat} : ∀ {vs : List Nat}, i ∉ vs → (L2.wipe σ vs)[i]? = σ[i]?
  | [], _ => rfl
  | v :: vs, h => by
    show ((L2.wipe σ vs).set v none)[i]? = σ[i]?
    rw [List.getElem?_set_ne (fun z => h (by simp [z]))]
    exact wipe_get fun z => h (List.mem_cons_of_mem _ z)
theorem wipe_in {σ : L2.St} {i : Nat} (hl : i < σ.length) : ∀ {vs : List Nat}, i ∈ vs → (L2.wipe σ vs)[i]? = some none
  | v :: vs, h => by
    show ((L2.wipe σ vs).set v none)[i]? = some none
    by_cases e : v = i
    · subst e; exact List.getElem?_set_self (by rw [wipe_length]; exact hl)
    · rw [List.getElem?_set_ne e]
      exact wipe_in hl ((List.mem_cons.mp h).resolve_left fun z => e z.symm)
theorem wipe_ext {σ σ2 : L2.St} {vs : List Nat} (hl : σ2.length = σ.length) (h : ∀ i, i ∉ vs → σ2[i]? = σ[i]?) : L2.wipe σ2 vs = L2.wipe σ vs := by
  apply List.ext_getElem?
  intro i
  by_cases hi : i ∈ vs
  · rcases Nat.lt_or_ge i σ.length with z | z
    · rw [wipe_in z hi, wipe_in (by rw [hl]; exact z) hi]
    · have z2 : σ2.length ≤ i := by omega
      rw [List.getElem?_eq_none (by rw [wipe_length]; exact z2), List.getElem?_eq_none (by rw [wipe_length]; exact z)]
  · rw [wipe_get hi, wipe_get hi, h i hi]
theorem wipe_wipe {σ : L2.St} {vs : List Nat} : L2.wipe (L2.wipe σ vs) vs = L2.wipe σ vs := wipe_ext (wipe_length _ _) fun i hi => wipe_get hi
/-- back from the block: its own names are as they were -/
theorem W.rest {F1 : Addr → Prop} {ow1 : Addr → Option Nat} {H1 : Hp} {δ1 δ2 : Env} {vs : List Nat} (w1 : W K c F1 ow1 H1 σ δ1) (e : Ext F1 H1 F H) (w2 : W K c F ow H (L2.wipe σ vs) δ2) (hl : δ2.length = δ1.length) : W K c F ow H σ (restE δ1 δ2 vs) := by
  have hlen : ∀ us : List Nat, (restE δ1 δ2 us).length = δ2.length := fun us => by
    induction us with
    | nil => rfl
    | cons v us ih => simp [restE, ih]
  have out : ∀ (us : List Nat) (i : Nat), i ∉ us → (restE δ1 δ2 us)[i]? = δ2[i]? := fun us => by
    induction us with
    | nil => intro i _; rfl
    | cons v us ih =>
      intro i h
      unfold restE
      rw [List.getElem?_set_ne (fun z => h (by simp [z]))]
      exact ih i fun z => h (List.mem_cons_of_mem _ z)
  have ins : ∀ (us : List Nat) (i : Nat) (s : Sl), i ∈ us → (restE δ1 δ2 us)[i]? = some s → s = .emp ∨ ∃ d, s = .p d ∧ δ1[i]? = some (.p d) := fun us => by
    induction us with
    | nil => intro i s h; cases h
    | cons v us ih =>
      intro i s h q
      unfold restE at q
      by_cases e : v = i
      · subst e
        rw [List.getElem?_set] at q
        simp only [if_true] at q
        split at q
        · cases q
          split
          · rename_i d h2; exact .inr ⟨d, rfl, h2⟩
          · exact .inl rfl
        · cases q
      · rw [List.getElem?_set_ne e] at q
        exact ih i s ((List.mem_cons.mp h).resolve_left fun z => e z.symm) q
  refine ⟨by rw [hlen, hl]; exact w1.len, fun i s q => ?_, w2.df, w2.ft, w2.kp, w1.io⟩
  by_cases hi : i ∈ vs
  · rcases ins vs i s hi q with z | ⟨d, rfl, q2⟩
    · exact .inl z
    · obtain ⟨v, hv, r⟩ := w1.pur q2
      exact .inr ⟨v, hv, .p (r.mono e)⟩
  · rw [out vs i hi] at q
    rcases w2.sl i s q with z | ⟨v, hv, r⟩
    · exact .inl z
    · rw [wipe_get hi] at hv; exact .inr ⟨v, hv, r⟩
end
abbrev DTs (X : Cx) (c : FC) (ifs : List Expr) (f : Env → R Bool) : Prop := PTs X ifs (tBn X.K c f)
def bYes (δ : Env) : R Bool := .ok true δ
theorem PTs.imp {X : Cx} {e : List Expr} {t t' : TT} (h : PTs X e t) (i : ∀ σ H Q, t' σ H Q → t σ H Q) : PTs X e t' := ⟨fun pins s σ H Q I q => h.run pins s σ H Q I (i σ H Q q)⟩
theorem dts_nil {X : Cx} {c : FC} : DTs X c [] bYes := PTs.imp pts_nil fun σ H Q ⟨F, ow, δ, w, g1⟩ => g1 F ow H true (Ext.refl _ _) w rfl
theorem dts_one {X : Cx} {c : FC} {e : Expr} {f : Env → R Bool} (h : DT X c e f) : DTs X c [e] f := pts_one h
def lcLoop (g : D → Env → Option Env) (t : Env → R Bool) (e : Env → R D) (vs : List Nat) : List D → Env → R (List D)
  | [], δ => .ok [] δ
  | d :: ds, δ => match g d (wipeE δ vs) with
    | none => .bad
    | some δ1 => (t δ1).bind fun b δ2 => if b = true then (e δ2).bind fun y δ3 => (lcLoop g t e vs ds (wipeE δ3 vs)).bind fun ys δ4 => .ok (y :: ys) δ4 else lcLoop g t e vs ds (wipeE δ2 vs)
def dLc (f : Env → R (List D)) (g : D → Env → Option Env) (t : Env → R Bool) (e : Env → R D) (vs : List Nat) (δ : Env) : R D := (f δ).bind fun items δ1 => (lcLoop g t e vs items (wipeE δ1 vs)).bind fun ys δ2 =>
  if ys.length ≤ 16000000 ∧ δ2.length = δ1.length then .ok (.lst ys) (restE δ1 δ2 vs) else .bad
/-- the core of a comprehension, by its reading -/
theorem lc_imp {X : Cx} {c : FC} {fi : Env → R (List D)} {gT : TG} {gd : D → Env → Option Env} {ft : Env → R Bool} {fe : Env → R D} {vs : List Nat} (hvs : ∀ i ∈ vs, c.at ≠ some i) (ok : TgOk X.K gT gd vs) (σ : L2.St) (H : Hp) (Q : VK) (h : tD X.K c (dLc fi gd ft fe vs) σ H Q) :
    tLc (tIt X.K c fi) gT (fun σ H Q => ∃ c', c'.at = none ∧ tBn X.K c' ft σ H Q) (fun σ H Q => ∃ c', c'.at = none ∧ tD X.K c' fe σ H Q) vs σ H Q := by
  obtain ⟨F, ow, δ, w, g1⟩ := h
  refine ⟨F, ow, δ, w, ?_⟩
  unfold dLc at g1
  cases q : fi δ with
  | bad => rw [q] at g1; exact g1
  | ok items δ1 =>
    rw [q, R.bind_ok] at g1
    cases q2 : lcLoop gd ft fe vs items (wipeE δ1 vs) with
    | bad => rw [q2] at g1; exact g1.elim
    | ok ys δ2 =>
      rw [q2, R.bind_ok] at g1
      split at g1
      · rename_i hz
        intro F1 ow1 H1 J e1 w1 it Dn hD
        obtain ⟨f1, f2, f3⟩ := w1.fresh hD
        refine ⟨fun i m H' => m + i = items.length ∧ ∃ F' ow' δ' accv acc rest, Ext F1 H1 F' H' ∧ W X.K c F' ow' H' (L2.wipe σ vs) δ' ∧ ¬ F' Dn ∧ ow' Dn = none ∧ H' Dn = some (.lst accv) ∧ Reps X.K F' H' accv acc ∧
          lcLoop gd ft fe vs (items.drop i) δ' = .ok rest δ2 ∧ acc ++ rest = ys, ⟨items.length, rfl, F1, ow1, wipeE δ1 vs, [], [], ys, Ext.updOut f2, (w1.updOut f2 f1 f3).wipe vs hvs, f2, f1, upd_same, .nil, q2, rfl⟩, ?_⟩
        rintro i m H2 ⟨hm, F2, ow2, δ3, accv, acc, rest, e2, w2, nf, no, hDn, rac, hl, hys⟩
        have nD : c.fp0 Dn ∨ c.H0 Dn = none := f3
        rcases Nat.lt_or_ge i items.length with hlt | hge
        · refine .inr ⟨it.go F2 H2 i e2 hlt, fun H' => ∃ F' ow' δ' accv acc rest, Ext F1 H1 F' H' ∧ W X.K c F' ow' H' (L2.wipe σ vs) δ' ∧ ¬ F' Dn ∧ ow' Dn = none ∧ H' Dn = some (.lst accv) ∧ Reps X.K F' H' accv acc ∧
            lcLoop gd ft fe vs (items.drop (i + 1)) δ' = .ok rest δ2 ∧ acc ++ rest = ys, fun H' hN => ⟨m - 1, by omega, by omega, hN⟩, fun x H3 hy => ?_⟩
          obtain ⟨d, hd, hx⟩ := it.yld F2 H2 i x H3 e2 hlt hy
          have hdrop : items.drop i = d :: items.drop (i + 1) := by
            have h1 := (List.getElem?_eq_some_iff.mp hd)
            rw [← h1.2]; exact List.drop_eq_getElem_cons h1.1
          rw [hdrop] at hl
          unfold lcLoop at hl
          have wi := w2.inner (p := Dn) no
          obtain ⟨F3, e3, w3, r3⟩ : ∃ F3, Ext F2 H2 F3 H3 ∧ W X.K ⟨F2, H2, fun a => ow2 a ≠ none ∧ a ≠ Dn, none⟩ F3 ow2 H3 (L2.wipe σ vs) δ3 ∧ Rep X.K F3 H3 x d := by
            rcases hx with ⟨rfl, r⟩ | ⟨T, o, rfl, hT, rfl, r⟩
            · exact ⟨F2, Ext.refl _ _, wi, r⟩
            · exact ⟨_, Ext.new wi hT, wi.new hT, r⟩
          have w3' := w3.wipe vs fun v _ => by show (none : Option Nat) ≠ some v; simp
          rw [wipe_wipe] at w3'
          cases q3 : gd d (wipeE δ3 vs) with
          | none => rw [q3] at hl; cases hl
          | some δ4 =>
            rw [q3] at hl
            dsimp only at hl
            refine ok _ F3 ow2 H3 (L2.wipe σ vs) (wipeE δ3 vs) δ4 x d _ (fun v _ => by show (none : Option Nat) ≠ some v; simp) w3' r3 q3 fun σ4 w4 l4 n4 => ?_
            have hw4 : L2.wipe σ4 vs = L2.wipe σ vs := (wipe_ext l4 n4).trans wipe_wipe
            refine ⟨hw4, _, rfl, F3, ow2, δ4, w4, ?_⟩
            cases q4 : ft δ4 with
            | bad => rw [q4] at hl; cases hl
            | ok b δ5 =>
              rw [q4, R.bind_ok] at hl
              intro F5 ow5 H5 b' e5 w5 rb
              subst rb
              have kD : ∀ {F' ow' H' σ' δ'}, W X.K ⟨F2, H2, fun a => ow2 a ≠ none ∧ a ≠ Dn, none⟩ F' ow' H' σ' δ' → H' Dn = some (.lst accv) ∧ ¬ F' Dn ∧ ow' Dn = none := fun {F' ow' H' σ' δ'} w' => by
                refine ⟨w'.kp Dn _ hDn fun z => z.2 rfl, fun f => ?_, ?_⟩
                · rcases (w'.ft Dn f).2 with z | z | z
                  · exact nf z
                  · exact z.2 rfl
                  · rw [show H2 Dn = none from z] at hDn; cases hDn
                · cases q : ow' Dn with
                  | none => rfl
                  | some k =>
                    rcases (w'.df Dn k q).2.2 with z | z
                    · exact absurd rfl z.2
                    · rw [show H2 Dn = none from z] at hDn; cases hDn
              have back : ∀ {F' ow' H' δ'}, W X.K ⟨F2, H2, fun a => ow2 a ≠ none ∧ a ≠ Dn, none⟩ F' ow' H' σ4 δ' → W X.K c F' ow' H' (L2.wipe σ vs) (wipeE δ' vs) := fun {F' ow' H' δ'} w' => by
                have w6 := w'.wipe vs fun v _ => by show (none : Option Nat) ≠ some v; simp
                rw [hw4] at w6
                exact w6.toC (w2.sub Dn) w2.io
              cases b' with
              | false =>
                rw [if_neg Bool.false_ne_true] at hl ⊢
                obtain ⟨k1, k2, k3⟩ := kD w5
                exact ⟨F5, ow5, wipeE δ5 vs, accv, acc, rest, e2.trans (e3.trans e5), back w5, k2, k3, k1, rac.mono (e3.trans e5), hl, hys⟩
              | true =>
                rw [if_pos rfl] at hl ⊢
                refine ⟨_, rfl, F5, ow5, δ5, w5, ?_⟩
                cases q6 : fe δ5 with
                | bad => rw [q6] at hl; cases hl
                | ok y δ6 =>
                  rw [q6, R.bind_ok] at hl
                  cases q7 : lcLoop gd ft fe vs (items.drop (i + 1)) (wipeE δ6 vs) with
                  | bad => rw [q7] at hl; cases hl
                  | ok rest' δ7 =>
                    rw [q7, R.bind_ok] at hl
                    obtain ⟨hr1, hr2⟩ : y :: rest' = rest ∧ δ7 = δ2 := by injection hl with a b; exact ⟨a, b⟩
                    intro F6 ow6 H6 yv e6 w6 ry
                    obtain ⟨k1, k2, k3⟩ := kD w6
                    have ln := rac.length
                    have := line16
                    have hlen : acc.length + (rest'.length + 1) ≤ 16000000 := by
                      have h1 := hz.1
                      rw [← hys, ← hr1, List.length_append, List.length_cons] at h1
                      exact h1
                    have eu := (Ext.updOut (F := F6) (H := H6) (o := HO.lst (accv ++ [yv])) k2)
                    exact ⟨accv, k1, by omega, F6, ow6, wipeE δ6 vs, accv ++ [yv], acc ++ [y], rest', e2.trans (e3.trans (e5.trans (e6.trans eu))), (back w6).updOut k2 k3 nD, k2, k3, upd_same,
                      (rac.mono (e3.trans (e5.trans (e6.trans eu)))).append (.cons (ry.mono eu) .nil), by rw [q7, hr2], by rw [List.append_assoc]; show acc ++ (y :: rest') = ys; rw [hr1]; exact hys⟩
        · refine .inl ⟨it.stop F2 H2 i e2 hge, ?_⟩
          rw [List.drop_eq_nil_of_le hge] at hl
          obtain ⟨h1, h2⟩ : ([] : List D) = rest ∧ δ3 = δ2 := by unfold lcLoop at hl; injection hl with a b; exact ⟨a, b⟩
          subst h1; subst h2
          rw [List.append_nil] at hys
          subst hys
          have w9 := (w1.rest e2 w2 hz.2).freeze no (by rw [hDn]; simp) nD
          have ef : Ext F2 H2 (fun a => F2 a ∨ a = Dn) H2 := ⟨fun _ z => .inl z, fun _ _ _ z => z⟩
          exact g1 _ ow2 H2 (.ref Dn) (e1.trans (e2.trans ef)) w9 (.lst (.inr rfl) hDn (rac.mono ef))
      · exact g1.elim
theorem de_lc {X : Cx} {c : FC} {elt tg iter : Expr} {ifs : List Expr} {scope : Scope} {own : List (Str × Nat)} {pos : Pos} {fi : Env → R (List D)} {gT : TG} {gd : D → Env → Option Env} {ft : Env → R Bool} {fe : Env → R D} (hc : X.calm = true) (hN : X.N.Nodup)
    (hvs : ∀ i ∈ own.map (·.2), c.at ≠ some i) (hi : DI X c tg iter fi) (ok : BlkOk X.N X.env.scope scope own)
    (hg : ∀ (s : Shared) (H : Hp) (C : Addr) (cl : List (Str × Addr)) (fp : List Addr), PG (X.blk s H scope (compEnvC scope cl C X.env) fp) tg gT) (tok : TgOk X.K gT gd (own.map (·.2)))
    (ht : ∀ (c' : FC) (s : Shared) (H : Hp) (C : Addr) (cl : List (Str × Addr)) (fp : List Addr), c'.at = none → DTs (X.blk s H scope (compEnvC scope cl C X.env) fp) c' ifs ft)
    (he : ∀ (c' : FC) (s : Shared) (H : Hp) (C : Addr) (cl : List (Str × Addr)) (fp : List Addr), c'.at = none → DE (X.blk s H scope (compEnvC scope cl C X.env) fp) c' elt fe) (hs : ∀ x, foldedSetIterable iter X.env x = pure x := by intro _; rfl) :
    DE X c (.ListComp elt [⟨tg, iter, ifs, 0⟩] scope pos) (dLc fi gd ft fe (own.map (·.2))) :=
  PE.imp (pe_lc hc hN hi ok hg (fun s H C cl fp => ⟨fun pins s' σ H' Q I ⟨c', h1, h2⟩ => (ht c' s H C cl fp h1).run pins s' σ H' Q I h2⟩)
    (fun s H C cl fp => ⟨fun pins s' σ H' Q I ⟨c', h1, h2⟩ => (he c' s H C cl fp h1).run pins s' σ H' Q I h2⟩) hs) (lc_imp hvs tok)
/-- y = [..] on one line -/
theorem ds_setLc {X : Cx} {c : FC} {i : Nat} {y : Str} {py : Pos} {elt tg iter : Expr} {ifs : List Expr} {scope : Scope} {own : List (Str × Nat)} {pos spos : Pos} {fi : Env → R (List D)} {gT : TG} {gd : D → Env → Option Env} {ft : Env → R Bool} {fe : Env → R D} (hc : X.calm = true) (hN : X.N.Nodup)
    (hy : X.N[i]? = some y) (hyl : X.env.scope.names.lookup y = some .local) (hic : c.at ≠ some i)
    (hsw : swapsWith (.ListComp elt [⟨tg, iter, ifs, 0⟩] scope pos) (some (.Name y py)) spos.line X.env = pure true)
    (hvs : ∀ i ∈ own.map (·.2), c.at ≠ some i) (hi : DI X c tg iter fi) (ok : BlkOk X.N X.env.scope scope own)
    (hg : ∀ (s : Shared) (H : Hp) (C : Addr) (cl : List (Str × Addr)) (fp : List Addr), PG (X.blk s H scope (compEnvC scope cl C X.env) fp) tg gT) (tok : TgOk X.K gT gd (own.map (·.2)))
    (ht : ∀ (c' : FC) (s : Shared) (H : Hp) (C : Addr) (cl : List (Str × Addr)) (fp : List Addr), c'.at = none → DTs (X.blk s H scope (compEnvC scope cl C X.env) fp) c' ifs ft)
    (he : ∀ (c' : FC) (s : Shared) (H : Hp) (C : Addr) (cl : List (Str × Addr)) (fp : List Addr), c'.at = none → DE (X.blk s H scope (compEnvC scope cl C X.env) fp) c' elt fe) (hs : ∀ x, foldedSetIterable iter X.env x = pure x := by intro _; rfl) :
    DS X c (.Assign [.Name y py] (.ListComp elt [⟨tg, iter, ifs, 0⟩] scope pos) spos) (sSet i (dLc fi gd ft fe (own.map (·.2)))) := by
  have HT : ∀ (s : Shared) (H : Hp) (C : Addr) (cl : List (Str × Addr)) (fp : List Addr), PTs (X.blk s H scope (compEnvC scope cl C X.env) fp) ifs (fun σ H Q => ∃ c', c'.at = none ∧ tBn X.K c' ft σ H Q) :=
    fun s H C cl fp => ⟨fun pins s' σ H' Q I ⟨c', h1, h2⟩ => (ht c' s H C cl fp h1).run pins s' σ H' Q I h2⟩
  have HE : ∀ (s : Shared) (H : Hp) (C : Addr) (cl : List (Str × Addr)) (fp : List Addr), PE (X.blk s H scope (compEnvC scope cl C X.env) fp) elt (fun σ H Q => ∃ c', c'.at = none ∧ tD X.K c' fe σ H Q) :=
    fun s H C cl fp => ⟨fun pins s' σ H' Q I ⟨c', h1, h2⟩ => (he c' s H C cl fp h1).run pins s' σ H' Q I h2⟩
  exact PS.imp (ps_setLc hc hN hy hyl hsw hi ok hg HT HE hs) fun Dn σ H ⟨F, ow, δ, w, g1⟩ => by
    refine lc_imp hvs tok σ H _ ⟨F, ow, δ, w, ?_⟩
    unfold sSet at g1
    cases q : dLc fi gd ft fe (own.map (·.2)) δ with
    | ok d δ1 => rw [q] at g1; exact fun F' ow' H' v ex w' r => g1 F' ow' H' _ ex (w'.set r (FC.io_ne hic))
    | bad => rw [q] at g1; exact g1
end PV

namespace PV
open PySem PySem.Spec PyProof.Rows L2

/-! ## repr -/
mutual
/-- more than the signs that repr writes; 0: no bound is known -/
def wtP : PyData → Nat
  | .none => 4
  | .bool _ => 5
  | .int _ => 1922
  | .str x => (reprText x).length
  | .list xs => wtPs xs + 2
  | .tuple xs => wtPs xs + 3
  | .dict _ => 100000000
def wtPs : List PyData → Nat
  | [] => 0
  | x :: r => wtP x + 2 + wtPs r
end
theorem str_app_len (a b : Str) : (a ++ b).length = a.length + b.length := by
  show (a.cps ++ b.cps).size = _
  rw [Array.size_append]; rfl
theorem textFrom_le : ∀ (ts : List Str) (k : Nat) (acc : Str), (textFrom k acc ts).length ≤ acc.length + piled ts
  | [], _, acc => by show acc.length ≤ _; omega
  | t :: r, k, acc => by
    have ih := textFrom_le r (k + 1) (acc ++ (if k > 0 then ", " else "" : String) ++ t)
    show (textFrom (k + 1) (acc ++ (if k > 0 then ", " else "" : String) ++ t) r).length ≤ _
    have h2 : ((Str.ofString (if k > 0 then ", " else "" : String))).length ≤ 2 := by split <;> decide
    rw [str_app_len, str_app_len] at ih
    have hp : piled (t :: r) = t.length + 2 + piled r := by simp [piled]
    omega
theorem join_le : ∀ ts : List Str, (Str.join ", " ts).length ≤ piled ts
  | [] => by decide
  | x :: r => by
    have := join_length_add (x :: r) (by simp)
    omega
mutual
theorem shown_le : ∀ p : PyData, p.showable = true → p.hasDict = false → p.shown.length ≤ wtP p
  | .none, _, _ => by decide
  | .bool b, _, _ => by cases b <;> decide
  | .int i, h, _ => by
    have h' : i.natAbs.log2 < 1920 := by simpa [PyData.showable] using h
    exact Nat.le_trans (PyProof.Rows.int_text_len_1921 h') (by show 1921 ≤ 1922; omega)
  | .str x, _, _ => Nat.le_refl _
  | .list xs, h, hd => by
    have := shownAll_le xs (by simpa [PyData.showable] using h) (by simpa [PyData.hasDict] using hd)
    have h1 := textFrom_le (PyData.shownAll xs) 0 "["
    show (textFrom 0 "[" (PyData.shownAll xs) ++ ("]" : Str)).length ≤ wtPs xs + 2
    rw [str_app_len]
    have e1 : (Str.ofString "[").length = 1 := by decide
    have e2 : (Str.ofString "]").length = 1 := by decide
    omega
  | .tuple xs, h, hd => by
    have := shownAll_le xs (by simpa [PyData.showable] using h) (by simpa [PyData.hasDict] using hd)
    have h1 := join_le (PyData.shownAll xs)
    show (("(" : Str) ++ Str.join ", " (PyData.shownAll xs) ++ ((if (PyData.shownAll xs).length == 1 then ",)" else ")" : String) : Str)).length ≤ wtPs xs + 3
    rw [str_app_len, str_app_len]
    have e1 : (Str.ofString "(").length = 1 := by decide
    have e2 : (Str.ofString (if (PyData.shownAll xs).length == 1 then ",)" else ")" : String)).length ≤ 2 := by split <;> decide
    omega
  | .dict _, _, h => by cases h
theorem shownAll_le : ∀ xs : List PyData, PyData.showableAll xs = true → PyData.hasDictAll xs = false → piled (PyData.shownAll xs) ≤ wtPs xs
  | [], _, _ => by decide
  | x :: r, h, hd => by
    have h2 : PyData.showable x = true ∧ PyData.showableAll r = true := by simpa [PyData.showableAll] using h
    have h3 : PyData.hasDict x = false ∧ PyData.hasDictAll r = false := by simpa [PyData.hasDictAll] using hd
    have i1 := shown_le x h2.1 h3.1
    have i2 := shownAll_le r h2.2 h3.2
    show piled (PyData.shown x :: PyData.shownAll r) ≤ wtP x + 2 + wtPs r
    rw [piled_cons]
    omega
end
def gRepr : List D → Option D
  | [d] => match d.py with
    | some p => if p.showable = true ∧ p.hasDict = false ∧ p.depth ≤ 60 ∧ wtP p ≤ 16000000 then some (.str p.shown) else none
    | none => none
  | _ => none
def rRepr (K : PySem.W.Frag) : List V → Hp → VK → Prop := fun xs H Q => ∃ x p, xs = [x] ∧ Dp K H x p ∧ p.showable = true ∧ p.hasDict = false ∧ p.depth ≤ 60 ∧ p.shown.length ≤ sizeLine ∧ Q (.str p.shown) H
theorem call_reprD {X : Cx} (hg : X.A.guards = some []) (hu : X.A.units + 64 < cLine) : CallR X (.builtin "repr") (rRepr X.K) := by
  intro pins s σ H xs us Q I r h
  obtain ⟨x, p, rfl, hd, h1, h2, h3, h4, q⟩ := h
  obtain ⟨u, rfl, ru⟩ := vals1 r
  obtain ⟨as, rd⟩ := Dp.reads I p x u hd ru
  have fin : ∀ (h' : Heap) (t : Tok) (tk : Nat), (∀ b o, s.heap.get? b = some o → h'.get? b = some o) → EP X pins σ Q (.str p.shown t) { s with heap := h', toks := tk } := fun h' t tk k => ⟨.str p.shown, H, I.kept k, ⟨t, rfl⟩, q⟩
  cases rd with
  | none => exact PySem.P.repr_of_none (fin s.heap _ _ fun _ _ e => e)
  | bool b => exact PySem.P.repr_of_bool (fin s.heap _ _ fun _ _ e => e)
  | int i t => exact PySem.P.repr_of_int (by simpa [PyData.showable] using h1) (fin s.heap _ _ fun _ _ e => e)
  | str x t => exact PySem.P.repr_of_str (fin s.heap _ _ fun _ _ e => e) h4
  | list a1 a2 a3 a4 => exact repr_of_reads' (Reads.list a1 a2 a3 a4) h1 (fun z => by rw [h2] at z; cases z) hg (by omega) (fun _ _ e => e) (fun h' u tk k => fin h' u tk k) h4
  | tuple a1 a2 a3 a4 => exact repr_of_reads' (Reads.tuple a1 a2 a3 a4) h1 (fun z => by rw [h2] at z; cases z) hg (by omega) (fun _ _ e => e) (fun h' u tk k => fin h' u tk k) h4
  | dict _ _ _ _ _ => cases h2
theorem cd_repr {K : PySem.W.Frag} : CallD K (rRepr K) gRepr := by
  intro c F ow H σ δ xs vs z Q w r e g
  unfold gRepr at e
  split at e
  · split at e
    · rename_i p hp
      split at e
      · rename_i hz; cases e
        cases r with | cons a b => cases b; exact ⟨_, p, rfl, a.dp hp, hz.1, hz.2.1, hz.2.2.1, Nat.le_trans (shown_le p hz.1 hz.2.1) (Nat.le_trans hz.2.2.2 line16), go_val w (.str _) g⟩
      · cases e
    · cases e
  · cases e

/-! ## globals -/
theorem de_gint {X : Cx} {c : FC} {x : Str} {i : Int} {pos : Pos} (hg : Gl X x) (hm : ∃ t, X.mg x = some (.int i t)) (hd : (x == ("__debug__" : Str)) = false := by decide) : DE X c (.Name x pos) (dC (.int i)) := by
  obtain ⟨t, e⟩ := hm
  exact de_con (v := .int i) (pe_glob hg e ⟨t, rfl⟩ hd) fun _ _ => .int i
theorem de_gtup {X : Cx} {c : FC} {x : Str} {a : Addr} {vs : List V} {ds : List D} {pos : Pos} (hg : Gl X x) (hm : X.mg x = some (.ref a)) (hk : KTup X.K a vs) (hr : ∀ F H, Reps X.K F H vs ds) (hd : (x == ("__debug__" : Str)) = false := by decide) : DE X c (.Name x pos) (dC (.tup ds)) :=
  de_con (v := .ref a) (pe_glob hg hm rfl hd) fun F H => .tupK hk (hr F H)
theorem ktup_of {K : PySem.W.Frag} {a : Addr} {vs : List V} (h : ∀ H, SqT K H a vs) : KTup K a vs := by
  rcases h (fun _ => none) with (z | ⟨_, z⟩) | z
  · cases z
  · cases z
  · exact z

/-! ## the end -/
/-- the law's def called with the script -/
theorem law_end {P : Program} {w : World} {K : PySem.W.Frag} {mg mb : Str → Option Value} {CX : CXT} {k : Nat} {fa a : Addr} {fd : FuncData} {x : Str} {M : Mir} {s₁ : Shared} {vs : List Value} {ns : List Int}
    (KX : K.In s₁.heap) (hns : s₁.heap.Ns mainGlobals mg) (hmb : s₁.heap.Ns builtinsNs mb) (hbb : ∀ x : Str, x ≠ "__name__" → mb x = bootBuiltins x) (hlim : s₁.heap.NoLimit) (hgen : s₁.gens = #[])
    (hobj : s₁.heap.get? a = some { cls := .type "list", data := .seq vs.toArray }) (hi : IntsAre vs ns) (hl : ns.length ≤ sizeLine) (hr : Room k callerA)
    (Fn : ∀ base : Heap, K.In base → base.Ns mainGlobals mg → FnA P w K mg base CX k fa fd [x] (spF K 1 none M)) (hbind : ∀ (s : Shared) (u : Value), BindsTo s fd ⟨[u], []⟩ [(x, u)])
    (hM : ∃ s', M [.scr ns] .emp = some (.p (.bl true), s')) (hCX : ∀ H e s', CX [] H s₁ (fun _ _ _ => False) e s' → False) :
    codeAny (model P w) callerA (.call (.ref fa) ⟨[.ref a], []⟩) (fun r s' => r = .ok (.ret (.bool true)) ∧ OldK s₁.heap s'.heap ∧ s'.os = s₁.os ∧ AllBare s'.gens) s₁ := by
  have rv : Vals (ns.map V.int) vs := vals_ints hi
  obtain ⟨s', hM⟩ := hM
  let lo : Obj := { cls := .type "list", data := .seq vs.toArray }
  let H : Hp := fun b => if b = a ∧ K.lookup a = none then some (.frz lo (.lst (ns.map V.int))) else none
  have Hsome : ∀ b u, H b = some u → b = a ∧ K.lookup a = none ∧ u = .frz lo (.lst (ns.map V.int)) := fun b u e => by
    by_cases c : b = a ∧ K.lookup a = none
    · have e2 := (if_pos c).symm.trans e
      cases e2
      exact ⟨c.1, c.2, rfl⟩
    · cases (if_neg c).symm.trans e
  have okH : HOk P w H s₁.heap := fun b u e => by
    obtain ⟨rfl, _, rfl⟩ := Hsome b u e
    exact ⟨hobj, by rw [List.length_map]; exact hl, vs, 0, rv, hobj⟩
  have there : ∀ {b : Addr} {o : Obj}, s₁.heap.get? b = some o → (∀ es ep, o.data ≠ .dict es ep) ∨ H b = none := fun {b o} e => by
    by_cases c : b = a
    · subst c; rw [hobj] at e; cases e; exact .inl fun _ _ z => by cases z
    · exact .inr (if_neg fun z => c z.1)
  have nsOf : ∀ {b : Addr} {m : Str → Option Value}, s₁.heap.Ns b m → (hidT s₁.heap H).Ns b m := fun {b m} h => by
    obtain ⟨o, es, ep, e, d, z⟩ := h
    rcases there e with q | q
    · exact absurd d (q es ep)
    · exact ⟨o, es, ep, hidT_get e q, d, z⟩
  have Kb : K.In (hidT s₁.heap H) := fun b o e => hidT_get (KX b o e) (by
    cases q : H b with
    | none => rfl
    | some u => obtain ⟨rfl, z, _⟩ := Hsome b u q; rw [z] at e; cases e)
  have mod : Mod K mg (hidT s₁.heap H) := ⟨Kb, nsOf hns, ⟨mb, nsOf hmb, hbb⟩, by obtain ⟨m, q1, q2⟩ := hlim; exact ⟨m, nsOf q1, q2⟩⟩
  have en : Env0 P w K mg (hidT s₁.heap H) callerA [] s₁ H := { frames := rfl, mod := mod, bs := fun b o e => of_hidT e, bsz := Nat.le_of_eq (hidT_size _ _), funs := trivial, frf := fun b hb => by simp [frs] at hb, hok := okH, bare := .of_eq hgen }
  have rep : Rep K (fun b => H b ≠ none) H (.ref a) (.scr ns) := by
    cases q : K.lookup a with
    | none =>
      have ha : H a = some (.frz lo (.lst (ns.map V.int))) := if_pos ⟨rfl, q⟩
      exact .scr (by rw [ha]; simp) ha
    | some o =>
      have e := KX a o q
      rw [hobj] at e
      cases e
      exact .scrK ⟨_, vs.toArray, 0, q, rfl, rfl, rfl, by rw [List.size_toArray, hi.length]; exact hl, by simpa using rv⟩
  have sp : spF K 1 none M [.ref a] H (fun v _ => v = .bl true) fun _ _ _ => False :=
    ⟨rfl, fun b => H b ≠ none, fun _ => False, [.scr ns], .emp, ⟨.cons rep .nil, rfl⟩, fun _ z => z.elim, fun _ z => z, _, _, hM, fun F' P' P2 H' v _ _ _ _ _ _ rr => by
      cases rr with | p rr => exact rr.bl_inv⟩
  refine codeAny_mono ((Fn _ Kb (nsOf hns)).run callerA [] s₁ H ⟨[.ref a], []⟩ [.ref a] [.ref a] _ _ rfl hr en (hbind s₁ (.ref a)) (.cons rfl .nil) sp) ?_
  intro out s2 h
  match out, h with
  | .error e, h => exact (hCX H e s2 h).elim
  | .ok (.ret u), h =>
    obtain ⟨v, H', os, bare, un, ok', ru, hv⟩ := h
    have hv' : v = .bl true := hv
    subst hv'
    obtain rfl : u = Value.bool true := ru
    refine ⟨rfl, OldK.of_keep fun b o e => ?_, os, bare⟩
    cases q : H b with
    | none => exact un.keep b o e q (by simp [frs]) (by simp)
    | some u =>
      obtain ⟨rfl, _, rfl⟩ := Hsome b u q
      have e2 := (ok' _ _ (un.frzs _ _ _ q)).1
      rw [hobj] at e; cases e
      exact e2
theorem walk_end {l : PySem.W.OpenLaw} {n k : Nat} {q : Program} {loose : List Str} {XP : (Str → Option Value) → Heap → Prop} {YP : World → Heap → Prop} {d : DefRec} {CX : CXT} {x : Str}
    (hn : l.most = some n) (hn2 : n ≤ sizeLine) (hdf : d.params.defaults = []) (hr : Room k callerA)
    (F : ∀ (w : World) (mg : Str → Option Value) (fa : Addr) (h : Heap), YP w h → h.Ns mainGlobals mg → mg d.name = some (.ref fa) →
      ∃ (K : PySem.W.Frag) (fd : FuncData) (M : Mir), K.In h ∧ (∀ (s : Shared) (u : Value), BindsTo s fd ⟨[u], []⟩ [(x, u)]) ∧ (∀ ns : List Int, ns.length ≤ n → ∃ s', M [.scr ns] .emp = some (.p (.bl true), s')) ∧
        ∀ base : Heap, K.In base → base.Ns mainGlobals mg → FnA l.prog w K mg base CX k fa fd [x] (spF K 1 none M))
    (hCX : ∀ (H : Hp) (s : Shared) (e : Value) (s' : Shared), CX [] H s (fun _ _ _ => False) e s' → False) :
    PySem.W.WalkO q loose XP YP l.row.toRowW d [] (fun f vs => PySem.call f vs) := by
  apply Att.attach_call hn hdf
  intro w s₀ s₁ mg mb fa o pm cd doc a vs ns G Y ho hd hcd hmg hobj hints hlen hg
  obtain ⟨K, fd, M, KX, hb, hM, hF⟩ := F w mg fa _ Y G.T.g hmg
  exact law_end KX G.T.g G.T.b G.T.builtins G.T.nolimit hg hobj hints (Nat.le_trans hlen hn2) hr hF hb (hM ns hlen) fun H e s' => hCX H s₁ e s'
end PV

namespace PV
open PySem PySem.Spec PyProof.Rows L2

/-! ## what one owns is changed -/
section
variable {K : PySem.W.Frag} {c : FC} {F : Addr → Prop} {ow : Addr → Option Nat} {H : Hp} {σ : L2.St} {δ : Env}
theorem W.updOwn (w : W K c F ow H σ δ) {i : Nat} {p : Addr} {o : HO} {v : V} {s' : Sl} (hp : ow p = some i) (hv : σ[i]? = some (some v)) (hs : SlR K F (upd H p o) (fun a => ow a = some i) v s') : W K c F ow (upd H p o) σ (δ.set i s') where
  len := by simpa using w.len
  sl := fun k s e => by
    by_cases hk : i = k
    · subst hk
      have hl : i < δ.length := by rw [← w.len]; exact (List.getElem?_eq_some_iff.mp hv).1
      rw [List.getElem?_set_self hl] at e
      cases e
      exact .inr ⟨v, hv, hs⟩
    · rw [List.getElem?_set_ne hk] at e
      refine (w.sl k s e).imp id fun ⟨u, q, r⟩ => ⟨u, q, r.mono (Ext.updOut (w.df p i hp).1) fun a z => ⟨z, upd_ne fun q => ?_⟩⟩
      subst q; rw [hp] at z; exact hk (Option.some.inj z)
  df := fun a k e => ⟨(w.df a k e).1, by
    by_cases q : a = p
    · subst q; rw [upd_same]; simp
    · rw [upd_ne q]; exact (w.df a k e).2.1, (w.df a k e).2.2⟩
  ft := fun a f => ⟨by rw [upd_ne (fun q => by subst q; exact (w.df _ i hp).1 f)]; exact (w.ft a f).1, (w.ft a f).2⟩
  kp := fun a u e z => by
    rw [upd_ne (fun q => by subst q; exact (w.df _ i hp).2.2.elim z fun n => by rw [n] at e; cases e)]
    exact w.kp a u e z
  io := w.io
theorem W.stAt (w : W K c F ow H σ δ) {i : Nat} {S : LSt} (h : δ[i]? = some (.st S)) : ∃ a b d, σ[i]? = some (some (.ref a)) ∧ ow a = some i ∧ ow b = some i ∧ F d ∧ a ≠ b ∧ H a = some (.dK (stKvs b d S)) ∧ H b = some (.lst (S.wide.map V.int)) ∧ H d = some (.lst (S.cells.map V.int)) := by
  rcases w.sl i _ h with z | ⟨v, e, r⟩
  · cases z
  · cases r with | st r => obtain ⟨b, d, h1, h2, h3, h4, h5, h6, h7⟩ := r; exact ⟨_, b, d, e, h1, h2, h3, h4, h5, h6, h7⟩
theorem W.mlAt (w : W K c F ow H σ δ) {i : Nat} {l : List D} (h : δ[i]? = some (.ml l)) : ∃ a vs, σ[i]? = some (some (.ref a)) ∧ ow a = some i ∧ H a = some (.lst vs) ∧ Reps K F H vs l := by
  rcases w.sl i _ h with z | ⟨v, e, r⟩
  · cases z
  · cases r with | ml h1 h2 h3 => exact ⟨_, _, e, h1, h2, h3⟩
end

/-! ## the law's state -/
inductive StK where
  | rest | turn
def StK.str : StK → Str
  | .rest => "rest"
  | .turn => "turn"
def StK.get : StK → LSt → Int
  | .rest, S => S.rest
  | .turn, S => S.turn
def StK.put : StK → LSt → Int → LSt
  | .rest, S, n => { S with rest := n }
  | .turn, S, n => { S with turn := n }
theorem stk_get (k : StK) (b d : Addr) (S : LSt) : valV (stKvs b d S) (.inr k.str) = some (.int (k.get S)) := by cases k <;> rfl
theorem stk_put (k : StK) (b d : Addr) (S : LSt) (n : Int) : putK (stKvs b d S) (.inr k.str) (.int n) = stKvs b d (k.put S n) := by cases k <;> rfl
theorem stk_wide (b d : Addr) (S : LSt) : valV (stKvs b d S) (.inr "wide") = some (.ref b) := rfl
theorem stk_cells (b d : Addr) (S : LSt) : valV (stKvs b d S) (.inr "cells") = some (.ref d) := rfl
section
variable {X : Cx} {c : FC} {e o : Expr} {fe : Env → R D} {pos pos' p1 p2 : Pos} {i j : Nat}
def dStI (i : Nat) (k : StK) (δ : Env) : R D := match δ[i]? with
  | some (.st S) => .ok (.int (k.get S)) δ
  | _ => .bad
theorem de_stI (k : StK) (hu : X.A.units + 1 < cLine) (hv : PE X o (tVar i)) : DE X c (.Subscript o (.Constant (.str k.str) j p1) pos) (dStI i k) :=
  PE.imp (pe_dget hu hv pe_str (fun _ _ => rfl)) fun σ H Q ⟨F, ow, δ, w, g1⟩ => by
    unfold dStI at g1
    split at g1
    · rename_i S q
      obtain ⟨a, b, d, h1, _, _, _, _, h2, _, _⟩ := w.stAt q
      refine ⟨_, h1, a, .int (k.get S), rfl, ?_, g1 F ow H _ (Ext.refl _ _) w (.int _)⟩
      rw [← stk_get k b d S]
      exact DGet.k (k := .inr k.str) h2
    · exact g1.elim
def sStPut (i : Nat) (k : StK) (fe : Env → R D) (δ : Env) : SRes := match fe δ with
  | .ok (.int n) δ1 => (match δ1[i]? with
    | some (.st S) => .nx (δ1.set i (.st (k.put S n)))
    | _ => .bad)
  | _ => .bad
theorem ds_stPut (k : StK) (hu : X.A.units + 1 < cLine) (hv : PE X o (tVar i)) (he : DE X c e fe) (hs : swapsWith e (some (.Subscript o (.Constant (.str k.str) j p1) pos')) pos.line X.env = pure false := by rfl) :
    DS X c (.Assign [.Subscript o (.Constant (.str k.str) j p1) pos'] e pos) (sStPut i k fe) :=
  PS.imp (ps_dput hu hv pe_str he hs) fun Dn σ H ⟨F, ow, δ, w, g1⟩ => by
    refine ⟨F, ow, δ, w, ?_⟩
    unfold sStPut at g1
    cases q : fe δ with
    | bad => rw [q] at g1; exact g1
    | ok d δ1 =>
      rw [q] at g1
      intro F1 ow1 H1 v e1 w1 r1
      cases d with
      | int n =>
        cases r1
        dsimp only at g1
        split at g1
        · rename_i S q2
          obtain ⟨a, b, d, h1, h2, h3, h4, h5, h6, h7, h8⟩ := w1.stAt q2
          refine ⟨_, h1, a, _, rfl, DPut.k (k := .inr k.str) h6 (by show 4 < sizeLine; decide), ?_⟩
          rw [stk_put]
          have nd : d ≠ a := fun z => by subst z; exact (w1.df _ i h2).1 h4
          exact g1 F1 ow1 _ σ (e1.trans (Ext.updOut (w1.df a i h2).1)) (w1.updOwn h2 h1 (.st ⟨b, d, h2, h3, h4, h5, upd_same, by rw [upd_ne (Ne.symm h5)]; cases k <;> exact h7, by rw [upd_ne nd]; cases k <;> exact h8⟩))
        · exact g1.elim
      | _ => exact g1.elim
def iStC (i : Nat) (δ : Env) : R (List D) := match δ[i]? with
  | some (.st S) => .ok (S.cells.map D.int) δ
  | _ => .bad
theorem di_stC {tg : Expr} (hu : X.A.units + 1 < cLine) (hv : PE X o (tVar i)) : DI X c tg (.Subscript o (.Constant (.str "cells") j p1) pos) (iStC i) :=
  PI.imp (pi_list (pe_dget hu hv pe_str (fun _ _ => rfl))) fun σ H Q ⟨F, ow, δ, w, g1⟩ => by
    unfold iStC at g1
    split at g1
    · rename_i items δ' q0
      split at q0
      · rename_i S q
        cases q0
        obtain ⟨a, b, d, h1, _, _, h4, _, h2, _, h8⟩ := w.stAt q
        exact ⟨_, h1, a, .ref d, rfl, DGet.k (k := .inr "cells") h2, d, rfl, ⟨_, SqL.of h8⟩, g1 F ow H _ (Ext.refl _ _) w (itd_list h4 h8 Reps.ints)⟩
      · cases q0
    · exact g1.elim
theorem py_ints (ns : List Int) : SeqAt.shaped (.list (ns.map PyData.int)) = true := by
  have h1 : PyData.canLayAll0 (ns.map PyData.int) = true := by
    induction ns with
    | nil => rfl
    | cons x r ih => rw [List.map_cons, PyData.canLayAll0, ih]; rfl
  have h2 : PyData.depthAll (ns.map PyData.int) ≤ 1 := by
    induction ns with
    | nil => decide
    | cons x r ih =>
      have ih' := ih (by simpa [PyData.canLayAll0, PyData.canLay0] using h1)
      rw [List.map_cons, PyData.depthAll]
      have : PyData.depth (.int x) ≤ 1 := by simp [PyData.depth]
      omega
  unfold SeqAt.shaped
  rw [PyData.canLay0, h1, PyData.depth]
  simp
  omega
theorem dp_ints {K : PySem.W.Frag} {H : Hp} {ns : List Int} : DpAll K H (ns.map V.int) (ns.map PyData.int) := by
  induction ns with
  | nil => exact .nil
  | cons x r ih => exact .cons (.int x) ih
def bStW (i : Nat) (δ : Env) : R Bool := match δ[i]? with
  | some (.st S) => .ok (!S.wide.isEmpty) δ
  | _ => .bad
theorem dt_stW (hu : X.A.units + 64 < cLine) (hv : PE X o (tVar i)) : DT X c (.Compare (.Subscript o (.Constant (.str "wide") j p1) p2) [.NotEq] [.List [] pos'] pos) (bStW i) :=
  PT.imp (pt_cmpR (op_neD hu) (pe_dget (by omega) hv pe_str (fun _ _ => rfl)) (pe_lst pa_nil) (nomark _)) fun σ H Q ⟨F, ow, δ, w, g1⟩ => by
    unfold bStW at g1
    split at g1
    · rename_i S q
      obtain ⟨a, b, d, h1, _, hb, h4, _, h2, h7, h8⟩ := w.stAt q
      refine ⟨_, h1, a, .ref b, rfl, DGet.k (k := .inr "wide") h2, Nat.zero_le _, fun p hp => ?_⟩
      have nb : b ≠ p := ne_of_none h7 hp
      refine ⟨.list (S.wide.map PyData.int), .list [], .lst (SqL.of (by rw [upd_ne nb]; exact h7)) dp_ints, .lst (SqL.of upd_same) .nil, py_ints _, by decide, _, rfl, ?_⟩
      have e : (!PyData.eqv (.list (S.wide.map PyData.int)) (.list [])) = !S.wide.isEmpty := by
        cases S.wide <;> rfl
      rw [e]
      exact g1 _ ow _ _ (Ext.new w hp) (w.new hp) rfl
    · exact g1.elim
def dStPop (i : Nat) (δ : Env) : R D := match δ[i]? with
  | some (.st S) => (match S.wide with
    | n :: r => .ok (.int n) (δ.set i (.st { S with wide := r }))
    | [] => .bad)
  | _ => .bad
theorem de_stPop {cpos apos : Pos} {j2 : Nat} {p3 : Pos} (hu : X.A.units + 1 < cLine) (hv : PE X o (tVar i)) (hbase : attributeBase (.Subscript o (.Constant (.str "wide") j p1) p2) "pop" X.env (eval (.Subscript o (.Constant (.str "wide") j p1) p2) X.env) = eval (.Subscript o (.Constant (.str "wide") j p1) p2) X.env := by rfl) (hline : (apos.endLine == cpos.line) = true := by rfl) :
    DE X c (.Call (.Attribute (.Subscript o (.Constant (.str "wide") j p1) p2) "pop" apos) [.Constant (.int 0) j2 p3] [] cpos) (dStPop i) := by
  refine PE.imp (pe_bm PySem.F.plainAttrs_list PySem.F.slot_list_pop PySem.F.type_list_pop mt_popAt (pe_dget hu hv pe_str (fun _ _ => rfl)) (pa_cons pe_int pa_nil) (hbase := hbase) (hline := hline)) fun σ H Q ⟨F, ow, δ, w, g1⟩ => ?_
  unfold dStPop at g1
  split at g1
  · rename_i S q
    obtain ⟨a, b, d, h1, h2, hb, h4, h5, h6, h7, h8⟩ := w.stAt q
    obtain ⟨wd, cl, rs, tn⟩ := S
    cases wd with
    | nil => exact g1.elim
    | cons n r =>
      refine ⟨_, h1, a, .ref b, rfl, DGet.k (k := .inr "wide") h6, .inl ⟨rfl, _, SqL.of h7⟩, b, _, 0, 0, .int n, rfl, rfl, h7, by decide, by decide, by simp [seqIndex?], rfl, ?_⟩
      have nd : d ≠ b := fun z => by subst z; exact (w.df _ i hb).1 h4
      exact g1 F ow _ _ (Ext.updOut (w.df b i hb).1) (w.updOwn hb h1 (.st ⟨b, d, h2, hb, h4, h5, by rw [upd_ne h5]; exact h6, upd_same, by rw [upd_ne nd]; exact h8⟩)) (.int n)
  · exact g1.elim

/-! ## lists of one's own -/
def sSetM (i : Nat) (f : Env → R (List D)) (δ : Env) : SRes := match f δ with
  | .ok ds δ1 => if ds.length ≤ 16000000 then .nx (δ1.set i (.ml ds)) else .bad
  | .bad => .bad
open Classical in
theorem ds_setM {x : Str} {es : List Expr} {f : Env → R (List D)} (hi : c.at ≠ some i) (hN : X.N.Nodup) (hiN : X.N[i]? = some x) (hx : Loc X.env.scope x) (he : DA X c es f) (hs : swapsWith (.List es p1) (some (.Name x pos')) pos.line X.env = pure false := by rfl) (hf : X.fn x = true ∨ X.env.scope.names.lookup x = some .local := by first | exact .inl rfl | exact .inr rfl | assumption) :
    DS X c (.Assign [.Name x pos'] (.List es p1) pos) (sSetM i f) :=
  PS.imp (ps_set hN hiN hx (pe_lst he) hs hf) fun Dn σ H ⟨F, ow, δ, w, g1⟩ => by
    refine ⟨F, ow, δ, w, ?_⟩
    unfold sSetM at g1
    cases q : f δ with
    | bad => rw [q] at g1; exact g1
    | ok ds δ1 =>
      rw [q] at g1
      intro F1 ow1 H1 vs e1 w1 r1
      dsimp only at g1
      split at g1
      · rename_i hz
        refine ⟨by rw [r1.length]; exact Nat.le_trans hz line16, fun p hp => ?_⟩
        obtain ⟨f1, f2, f3⟩ := w1.fresh hp
        have w2 := w1.updOut (o := .lst vs) f2 f1 f3
        exact g1 F1 _ _ _ (e1.trans (Ext.updOut f2)) (w2.setS (P2 := fun a => a = p) (FC.io_ne hi) (fun a z => by subst z; exact ⟨f2, by rw [upd_same]; simp, f1, f3⟩) (.ml rfl upd_same (r1.mono (Ext.updOut f2))))
      · exact g1.elim
def sApp (i : Nat) (fe : Env → R D) (δ : Env) : SRes := match δ[i]? with
  | some (.ml _) => (match fe δ with
    | .ok d δ1 => (match δ1[i]? with
      | some (.ml l) => if l.length < 16000000 then .nx (δ1.set i (.ml (l ++ [d]))) else .bad
      | _ => .bad)
    | .bad => .bad)
  | _ => .bad
/-- x.append(e) -/
theorem ds_app {x : Str} {px apos cpos : Pos} (hv : PE X (.Name x px) (tVar i)) (he : DE X c e fe) (hbase : attributeBase (.Name x px) "append" X.env (eval (.Name x px) X.env) = eval (.Name x px) X.env := by rfl) (hline : (apos.endLine == cpos.line) = true := by rfl)
    (hst : starEach [e] X.env = (false, eval e X.env) :: starEach [] X.env := by rfl) (hpl : (backTo cpos (starEach [] X.env)).any (·.1) = false := by rfl)
    (hfew : ((backTo cpos (starEach [e] X.env)).all (fun x => !x.1) && (backToKw cpos (keywordEach [] X.env)).all (fun x => x.1.isSome) && decide ([e].length + ([] : List Keyword).length + (if ([] : List Keyword).isEmpty then 0 else 1) < 30)) = true := by rfl)
    (hs : swapsWith (.Call (.Attribute (.Name x px) "append" apos) [e] [] cpos) none pos.line X.env = pure false := by rfl) :
    DS X c (.Expr (.Call (.Attribute (.Name x px) "append" apos) [e] [] cpos) pos) (sApp i fe) :=
  PS.imp (ps_expr (pe_bm PySem.F.plainAttrs_list PySem.F.slot_list_append PySem.F.type_list_append mt_append hv (pa_cons he pa_nil hst) (hbase := hbase) (hline := hline) (hs := hst) (hplain := hpl) (hfew := hfew)) hs) fun Dn σ H ⟨F, ow, δ, w, g1⟩ => by
    unfold sApp at g1
    split at g1
    · rename_i l' q3
      obtain ⟨a, vs, h1, h2, h3, h4⟩ := w.mlAt q3
      refine ⟨_, h1, .inl ⟨rfl, _, SqL.of h3⟩, F, ow, δ, w, ?_⟩
      cases q : fe δ with
      | bad => rw [q] at g1; exact g1.elim
      | ok d δ1 =>
        rw [q] at g1
        dsimp only at g1
        intro F1 ow1 H1 v e1 w1 r1
        split at g1
        · rename_i l q2
          obtain ⟨a', vs', k1, k2, k3, k4⟩ := w1.mlAt q2
          rw [h1] at k1; cases k1
          split at g1
          · rename_i hz
            have ln := k4.length
            have := line16
            have eu := Ext.updOut (F := F1) (H := H1) (o := HO.lst (vs' ++ [v])) (w1.df _ i k2).1
            exact ⟨_, vs', v, rfl, rfl, k3, by omega, g1 F1 ow1 _ σ (e1.trans eu) (w1.updOwn k2 h1 (.ml k2 upd_same ((k4.mono eu).append (.cons (r1.mono eu) .nil))))⟩
          · exact g1.elim
        · exact g1.elim
    · exact g1.elim
/-- a name that holds a list of one's own is read: it is frozen from then on -/
def dFrz (i : Nat) (δ : Env) : R D := match δ[i]? with
  | some (.ml l) => .ok (.lst l) (δ.set i (.p (.lst l)))
  | some (.p d) => .ok d δ
  | _ => .bad
open Classical in
theorem W.frz {K : PySem.W.Frag} {F : Addr → Prop} {ow : Addr → Option Nat} {H : Hp} {σ : L2.St} {δ : Env} {a : Addr} {vs : List V} {l : List D} (w : W K c F ow H σ δ) (h1 : σ[i]? = some (some (.ref a))) (h2 : ow a = some i) (h3 : H a = some (.lst vs)) (h4 : Reps K F H vs l) :
    W K c (fun b => F b ∨ b = a) (fun b => if b = a then none else ow b) H σ (δ.set i (.p (.lst l))) where
  len := by simpa using w.len
  sl := fun k s e => by
    have ex : Ext F H (fun b => F b ∨ b = a) H := ⟨fun _ z => .inl z, fun _ _ _ z => z⟩
    by_cases hk : i = k
    · subst hk
      have hl : i < δ.length := by rw [← w.len]; exact (List.getElem?_eq_some_iff.mp h1).1
      rw [List.getElem?_set_self hl] at e
      cases e
      exact .inr ⟨_, h1, .p (.lst (.inr rfl) h3 (h4.mono ex))⟩
    · rw [List.getElem?_set_ne hk] at e
      refine (w.sl k s e).imp id fun ⟨u, q, r⟩ => ⟨u, q, r.mono ex fun b z => ⟨?_, rfl⟩⟩
      rw [if_neg fun z' => by subst z'; rw [h2] at z; exact hk (Option.some.inj z)]; exact z
  df := fun b k e => by
    by_cases q : b = a
    · rw [if_pos q] at e; cases e
    · rw [if_neg q] at e
      exact ⟨fun f => f.elim (w.df b k e).1 q, (w.df b k e).2⟩
  ft := fun b f => f.elim (w.ft b) fun z => by subst z; exact ⟨by rw [h3]; simp, .inr (w.df _ i h2).2.2⟩
  kp := w.kp
  io := w.io
theorem de_frz (hv : PE X e (tVar i)) : DE X c e (dFrz i) := PE.imp hv fun σ H Q ⟨F, ow, δ, w, g1⟩ => by
  unfold dFrz at g1
  split at g1
  · rename_i l q
    obtain ⟨a, vs, h1, h2, h3, h4⟩ := w.mlAt q
    have ex : Ext F H (fun b => F b ∨ b = a) H := ⟨fun _ z => .inl z, fun _ _ _ z => z⟩
    exact ⟨_, h1, g1 _ _ H _ ex (w.frz h1 h2 h3 h4) (.lst (.inr rfl) h3 (h4.mono ex))⟩
  · rename_i d q
    obtain ⟨v, ev, r⟩ := w.pur q
    exact ⟨v, ev, g1 F ow H v (Ext.refl _ _) w r⟩
  · exact g1.elim
end
end PV

namespace PV
open PySem PySem.Spec PyProof.Rows L2

/-! ## the law's state is made -/
def mBegun (fw fc : List Int → List Int) : Mir := fun ds _ => match ds with
  | [.scr ns] => if ns.length ≤ 63 then some (.st ⟨fw ns, fc ns, 0, 0⟩, .emp) else none
  | _ => none
theorem begun_ok {P : Program} {w : World} {K : PySem.W.Frag} {mg : Str → Option Value} {base : Heap} {CX : CXT} {x qual : Str} {params : Arguments} {body : List Stmt} {scope : Scope} {dvs : List V} {kws : List (Str × V)} {f : Addr} {fd : FuncData} {N ps : List Str} {k : Nat}
    (Fd : FunD K x qual params body scope dvs kws f fd) (S : FnScope N ps scope) (hps : ps.length = 1) (hN : 2 ≤ N.length) (f1 : Env → SRes) (f2 : Env → R D) (fw fc : List Int → List Int)
    (hb : ∀ (cdv : Value) (A : Around) (outer : List PySem.Env) (s : Shared) (H : Hp) (E : XK) (c : FC), (A.deeper (envOfC qual scope s.heap.objs.size f cdv)).guards = some [] → Room k (A.deeper (envOfC qual scope s.heap.objs.size f cdv)) → c.at = some 0 →
      PSs (cxOf CX P w K mg base N qual scope f cdv A outer s H E) body (tSeq (tSt K c f1) (tRet (tDisp [(tC (.str "wide"), tVar 1), (tC (.str "cells"), fun σ H Q => ∃ c', c'.at = none ∧ tD K c' f2 σ H Q), (tC (.str "rest"), tC (.int 0)), (tC (.str "turn"), tC (.int 0))]))))
    (e1 : ∀ ns : List Int, ns.length ≤ 63 → ∃ δ1, f1 (.p (.scr ns) :: List.replicate (N.length - 1) .emp) = .nx δ1 ∧ δ1.length = N.length ∧ δ1[1]? = some (.p (.lst ((fw ns).map D.int))))
    (e2 : ∀ ns : List Int, ns.length ≤ 63 → ∃ δ2, f2 (.p (.scr ns) :: List.replicate (N.length - 1) .emp) = .ok (.lst ((fc ns).map D.int)) δ2) : FnA P w K mg base CX (k + 1) f fd ps (spF K ps.length none (mBegun fw fc)) := by
  refine fnA_body Fd S (fun vs H Q E h => h.1) fun cdv A outer s H vs Q E hg hr hs => ?_
  obtain ⟨hl, F, Pp, ds, sl, ⟨arg, rfl⟩, hP, hF, r, s', hM, post⟩ := hs
  unfold mBegun at hM
  split at hM
  · split at hM
    · rename_i ns hz
      cases hM
      cases arg with
      | cons rv rt =>
        cases rt
        rename_i v
        let F0 : Addr → Prop := fun y => v = .ref y ∧ ∃ o u, H y = some (.frz o u)
        let c1 : FC := ⟨F0, H, fun _ => False, some (0, v)⟩
        refine ⟨_, hb cdv A outer s H E c1 hg hr rfl, ?_⟩
        have hrep : ∀ (H' : Hp), (∀ a o, H a = some o → H' a = some o) → Rep K F0 H' v (.scr ns) := fun H' kp => by
          cases rv with
          | scr h1 h2 => exact .scr ⟨rfl, _, _, h2⟩ (kp _ _ h2)
          | scrK h => exact .scrK h
        have st : L2.start N [v] = some v :: List.replicate (N.length - 1) none := rfl
        have sl0 : ∀ (H' : Hp) (σ : L2.St), (∀ a o, H a = some o → H' a = some o) → σ.length = N.length → σ[0]? = some (some v) → ∀ ow : Addr → Option Nat, ∀ i s, ((Sl.p (.scr ns) :: List.replicate (N.length - 1) Sl.emp) : Env)[i]? = some s → s = .emp ∨ ∃ v, σ[i]? = some (some v) ∧ SlR K F0 H' (fun a => ow a = some i) v s := by
          intro H' σ kp hl h0 ow i s e
          cases i with
          | zero => cases e; exact .inr ⟨v, h0, .p (hrep H' kp)⟩
          | succ i =>
            left
            rw [List.getElem?_cons_succ, List.getElem?_replicate] at e
            split at e <;> cases e
            rfl
        obtain ⟨δ1, h1, h1l, h2⟩ := e1 ns hz
        refine ⟨F0, fun _ => none, .p (.scr ns) :: List.replicate (N.length - 1) .emp, ⟨by rw [st]; simp, sl0 H _ (fun _ _ e => e) (by rw [st]; simp; omega) rfl _, fun a i e => (by cases e), fun a ha => ?_, fun a o e _ => e, fun j a e => (by cases e; rfl)⟩, ?_⟩
        · obtain ⟨q1, o, u, q⟩ := ha
          exact ⟨by rw [q]; simp, .inl ⟨q1, o, u, q⟩⟩
        rw [h1]
        intro F1 ow1 H1 σ1 ex1 w1
        obtain ⟨va, hva, ra⟩ := w1.pur h2
        obtain ⟨a1, vs1, rfl, hl1, f1, r1⟩ := ra.lst_inv
        rw [r1.of_ints] at hl1
        have kp1 : ∀ a o, H a = some o → H1 a = some o := fun a o e => w1.kp a o e fun z => z
        have n1 : H a1 = none := by
          rcases (w1.ft a1 f1).2 with ⟨_, o, u, q⟩ | z | z
          · have := kp1 a1 _ q; rw [hl1] at this; cases this
          · exact z.elim
          · exact z
        have len1 : σ1.length = N.length := w1.len.trans h1l
        have s0 : σ1[0]? = some (some v) := w1.io 0 v rfl
        intro p hp
        have pn : H p = none := by
          cases q : H p with
          | none => rfl
          | some o => rw [kp1 p o q] at hp; cases hp
        let c2 : FC := ⟨F0, upd H1 p (.dK []), fun _ => False, none⟩
        have kp2 : ∀ a o, H a = some o → upd H1 p (.dK []) a = some o := fun a o e => by
          rw [upd_ne (fun z => by subst z; rw [pn] at e; cases e)]; exact kp1 a o e
        refine ⟨.ref a1, hva, c2, rfl, F0, fun _ => none, .p (.scr ns) :: List.replicate (N.length - 1) .emp, ⟨?_, sl0 _ _ kp2 len1 s0 _, fun a i e => (by cases e), fun a ha => ?_, fun a o e _ => e, fun j a e => (by cases e)⟩, ?_⟩
        · rw [len1, List.length_cons, List.length_replicate]; omega
        · obtain ⟨q1, o, u, q⟩ := ha
          exact ⟨by rw [kp2 a _ q]; simp, .inl ⟨q1, o, u, q⟩⟩
        obtain ⟨δ2, h3⟩ := e2 ns hz
        rw [h3]
        intro F2 ow2 H2 v2 ex2 w2 r2
        obtain ⟨a2, vs2, rfl, hl2, f2, r2'⟩ := r2.lst_inv
        rw [r2'.of_ints] at hl2
        have kp3 : ∀ a o, upd H1 p (.dK []) a = some o → H2 a = some o := fun a o e => w2.kp a o e fun z => z
        have pa1 : a1 ≠ p := fun z => by subst z; rw [hp] at hl1; cases hl1
        have hl1' : H2 a1 = some (.lst ((fw ns).map V.int)) := kp3 a1 _ (by rw [upd_ne pa1]; exact hl1)
        have hp2 : H2 p = some (.dK []) := kp3 p _ upd_same
        have n2 : upd H1 p (.dK []) a2 = none := by
          rcases (w2.ft a2 f2).2 with ⟨_, o, u, q⟩ | z | z
          · have := kp3 a2 _ (kp2 a2 _ q); rw [hl2] at this; cases this
          · exact z.elim
          · exact z
        have a21 : a2 ≠ a1 := fun z => by
          subst z; rw [upd_ne pa1, hl1] at n2; cases n2
        have a2p : a2 ≠ p := fun z => by subst z; rw [upd_same] at n2; cases n2
        have n2' : H a2 = none := by
          cases q : H a2 with
          | none => rfl
          | some o => rw [kp2 a2 o q] at n2; cases n2
        refine ⟨hp2, [(.inr "wide", .ref a1), (.inr "cells", .ref a2), (.inr "rest", .int 0), (.inr "turn", .int 0)], rfl, by show 4 ≤ 15; omega, ?_⟩
        have keep : ∀ a o, H a = some o → upd H2 p (.dK (stKvs a1 a2 ⟨fw ns, fc ns, 0, 0⟩)) a = some o := fun a o e => by
          have e4 := kp3 a o (kp2 a o e)
          rw [upd_ne (fun z => by subst z; rw [pn] at e; cases e)]
          exact e4
        refine post (fun a => F a ∨ a = a2) (fun _ => False) (fun a => a = p ∨ a = a1) (upd H2 p (.dK (stKvs a1 a2 ⟨fw ns, fc ns, 0, 0⟩))) _ ⟨fun _ z => .inl z, fun a o _ e => keep a o e⟩ (fun a o e _ => keep a o e) (fun a fa => ?_) (fun _ z => z.elim) (fun a pa => ?_) (fun j z => (by cases z)) (.st ⟨a1, a2, .inl rfl, .inr rfl, .inr rfl, fun z => pa1 z.symm, upd_same, ?_, ?_⟩)
        · rcases fa with fa | rfl
          · refine ⟨?_, .inl fa⟩
            have := hF a fa
            cases q : H a with
            | none => exact absurd q this
            | some o => rw [keep a o q]; simp
          · refine ⟨?_, .inr (.inr n2')⟩
            rw [upd_ne a2p, hl2]; simp
        · rcases pa with rfl | rfl
          · exact ⟨fun z => z.elim (fun z => hF _ z pn) fun z => a2p z.symm, by rw [upd_same]; simp, pn, fun z => z⟩
          · exact ⟨fun z => z.elim (fun z => hF _ z n1) fun z => a21 z.symm, by rw [upd_ne pa1, hl1']; simp, n1, fun z => z⟩
        · rw [upd_ne pa1]; exact hl1'
        · rw [upd_ne a2p]; exact hl2
    · cases hM
  · cases hM
end PV

namespace PV
open PySem PySem.Spec PyProof.Rows L2

/-! ## isinstance of a built-in type -/
def D.ty : D → Option String
  | .non => some "NoneType"
  | .bl _ => some "bool"
  | .int _ => some "int"
  | .str _ => some "str"
  | .tup _ => some "tuple"
  | .lst _ => some "list"
  | _ => none
theorem Rep.tyx {K : PySem.W.Frag} {F : Addr → Prop} {H : Hp} {v : V} {d : D} {t : String} (r : Rep K F H v d) (e : d.ty = some t) : TyX K H v (.type t) := by
  cases r with
  | tupK h r =>
    cases e
    obtain ⟨o, its, n, h1, h2, _⟩ := h
    exact .kTuple h1 h2
  | tup f h r => cases e; exact .base (.tup h)
  | lst f h r => cases e; exact .base (.lst h)
  | non => cases e; exact .base .non
  | bl b => cases e; exact .base (.bl b)
  | int b => cases e; exact .base (.int b)
  | str b => cases e; exact .base (.str b)
  | _ => cases e
def dIsi (T : String) (f : Env → R D) (δ : Env) : R D := (f δ).bind fun x δ1 => match x.ty with
  | some t => (match kitB t T with
    | some b => .ok (.bl b) δ1
    | none => .bad)
  | none => .bad
section
variable {X : Cx} {c : FC} {e : Expr} {fe : Env → R D} {pos p1 p2 : Pos}
theorem de_isi {T : String} {x : Str} (hg : Gl X "isinstance") (hm : X.mg "isinstance" = none) (hg2 : Gl X x) (hm2 : X.mg x = none) (hv : bootBuiltins x = some (.type T)) (he : DE X c e fe) (hn : x ≠ "__name__" := by decide) (hdb : (x == ("__debug__" : Str)) = false := by decide)
    (hs : starEach [e, .Name x p2] X.env = (false, eval e X.env) :: starEach [.Name x p2] X.env := by rfl) (hs2 : starEach [.Name x p2] X.env = (false, eval (.Name x p2) X.env) :: starEach [] X.env := by rfl) (hpl : (backTo pos (starEach [.Name x p2] X.env)).any (·.1) = false := by rfl) :
    DE X c (.Call (.Name "isinstance" p1) [e, .Name x p2] [] pos) (dIsi T fe) :=
  PE.imp (pe_callB call_isi hg hm boot_isinstance (pa_cons he (pa_cons (pe_bltn (v := .ty T) hg2 hm2 hv rfl hn hdb) pa_nil hs2) hs) (hpl := hpl) (he := hs)) fun σ H Q ⟨F, ow, δ, w, g1⟩ => ⟨F, ow, δ, w, by
    unfold dIsi at g1
    refine Go.imp (fun v H1 h1 => ?_) (Go.bind (rep := Rep X.K) g1)
    obtain ⟨F1, ow1, d, δ1, e1, w1, r1, _, g2⟩ := h1
    cases q : d.ty with
    | none => rw [q] at g2; exact g2.elim
    | some t =>
      rw [q] at g2
      dsimp only at g2
      cases q2 : kitB t T with
      | none => rw [q2] at g2; exact g2.elim
      | some b =>
        rw [q2] at g2
        exact ⟨v, .ty T, .type t, .type T, b, rfl, .ty T, r1.tyx q, kit_ty q2, go_val w1 (.bl b) g2⟩⟩
end

/-! ## ranges as values -/
def gRng : List D → Option D
  | [.int i, .int j] => some (.rng i j)
  | _ => none
theorem cd_rng {K : PySem.W.Frag} : CallD K (fun vs H Q => ∃ i j, vs = [V.int i, V.int j] ∧ ∀ p, H p = none → Q (.ref p) (upd H p (.rng i j))) gRng := by
  intro c F ow H σ δ xs vs z Q w r e g
  unfold gRng at e
  split at e
  · cases e
    cases r with | cons a b => cases a; cases b with | cons a b => cases a; cases b; exact ⟨_, _, rfl, go_new w g fun p hp => .rng (.inr rfl) upd_same⟩
  · cases e
def gInR : D → D → Option D
  | .int i, .rng a b => some (.bl (decide (a ≤ i ∧ i < b)))
  | _, _ => none
theorem opd_inR {K : PySem.W.Frag} : OpD K (fun x y H Q => ∃ i a lo hi, x = V.int i ∧ y = V.ref a ∧ H a = some (.rng lo hi) ∧ Q (.bl (decide (lo ≤ i ∧ i < hi))) H) gInR := by
  intro c F ow H σ δ x y v u z Q w rx ry e g
  unfold gInR at e
  split at e
  · cases e; cases rx; cases ry with | rng f h => exact ⟨_, _, _, _, rfl, rfl, h, go_val w (.bl _) g⟩
  · cases e

/-! ## the pieces of a call together -/
structure Ok (P : Program) (w : World) (K : PySem.W.Frag) (mg : Str → Option Value) (base : Heap) (x : Str) (ps : List Str) (k : Nat) (io : Option Nat) (M : Mir) (fd : FuncData) : Prop where
  kp : PySem.W.keepIn K (.ref (He.ga K x)) = true
  ad : mg x = some (.ref (He.ga K x))
  bd : Binds K fd ps []
  fn : FnA P w K mg base CX0 k (He.ga K x) fd ps (spF K ps.length io M)
section
variable {X : Cx} {c : FC} {k k2 n l : Nat} {x : Str} {ps : List Str} {M : Mir} {fd : FuncData} {e : Expr} {es : List Expr} {f : Env → R (List D)} {pos p : Pos}
theorem de_callO (hn : ps.length = n) (o : Ok X.prog X.w X.K X.mg X.base x ps k none M fd) (hgu : X.A.guards = some []) (hr : Room k2 X.A) (hk : k ≤ k2) (hg : Gl X x) (ha : DA X c (e :: es) f)
    (hdb : (x == ("__debug__" : Str)) = false := by decide) (he : starEach (e :: es) X.env = (false, eval e X.env) :: starEach es X.env := by rfl) (hpl : (backTo pos (starEach es X.env)).any (·.1) = false := by rfl) :
    DE X c (.Call (.Name x p) (e :: es) [] pos) (dCallF n M [] f) := by
  subst hn
  exact de_call (E := E0) rfl o.fn hgu (hr.mono hk) hg o.ad o.kp o.bd .nil pass0 (fun _ _ => .nil) ha hdb he hpl
theorem de_callO0 (hn : ps.length = n) (o : Ok X.prog X.w X.K X.mg X.base x ps k none M fd) (hgu : X.A.guards = some []) (hr : Room k2 X.A) (hk : k ≤ k2) (hg : Gl X x) (hdb : (x == ("__debug__" : Str)) = false := by decide) :
    DE X c (.Call (.Name x p) [] [] pos) (dCallF n M [] dNil) := by
  subst hn
  exact de_call0 (E := E0) rfl o.fn hgu (hr.mono hk) hg o.ad o.kp o.bd .nil pass0 (fun _ _ => .nil) hdb
theorem de_callOS {i j : Nat} (hn : ps.length = n) (o : Ok X.prog X.w X.K X.mg X.base x ps k (some j) M fd) (hj : j < n) (hgu : X.A.guards = some []) (hr : Room k2 X.A) (hk : k ≤ k2) (hg : Gl X x) (ha : DAS X c j i (e :: es) f)
    (hdb : (x == ("__debug__" : Str)) = false := by decide) (he : starEach (e :: es) X.env = (false, eval e X.env) :: starEach es X.env := by rfl) (hpl : (backTo pos (starEach es X.env)).any (·.1) = false := by rfl) :
    DE X c (.Call (.Name x p) (e :: es) [] pos) (dCallS n i j M f) := by
  subst hn
  exact de_callS (E := E0) rfl hj o.fn hgu (hr.mono hk) hg o.ad o.kp o.bd pass0 ha hdb he hpl
theorem ds_setFO {i : Nat} {y : Str} {pos' spos : Pos} (hn : ps.length = n) (o : Ok X.prog X.w X.K X.mg X.base x ps k none M fd) (hgu : X.A.guards = some []) (hr : Room k2 X.A) (hk : k ≤ k2) (hg : Gl X x)
    (hi : c.at ≠ some i) (hN : X.N.Nodup) (hiN : X.N[i]? = some y) (hloc : Loc X.env.scope y)
    (ha : DA X c (e :: es) f) (hdb : (x == ("__debug__" : Str)) = false := by decide) (he : starEach (e :: es) X.env = (false, eval e X.env) :: starEach es X.env := by rfl) (hpl : (backTo pos (starEach es X.env)).any (·.1) = false := by rfl)
    (hsw : swapsWith (.Call (.Name x p) (e :: es) [] pos) (some (.Name y pos')) spos.line X.env = pure false := by rfl) (hf : X.fn y = true ∨ X.env.scope.names.lookup y = some .local := by first | exact .inl rfl | exact .inr rfl | assumption) :
    DS X c (.Assign [.Name y pos'] (.Call (.Name x p) (e :: es) [] pos) spos) (dSetF i n M f) := by
  subst hn
  exact ds_setF (E := E0) rfl o.fn hgu (hr.mono hk) hg o.ad o.kp o.bd pass0 hi hN hiN hloc ha hdb he hpl hsw hf
theorem de_callOK {m : Nat} {ix : List Nat} {ks : List Str} {kws : List Keyword} {g : Env → R (List D)} (hn : ps.length = n) (o : Ok X.prog X.w X.K X.mg X.base x ps k none M fd) (hl : ks.length = l) (hb : KwB X.K fd ps m ks ix) (hgu : X.A.guards = some []) (hr : Room k2 X.A) (hk : k ≤ k2) (hg : Gl X x) (ha : DA X c (e :: es) f) (hkw : DK X c kws g)
    (hall : (backToKw pos (keywordEach kws X.env)).all (·.1.isSome) = true := by rfl) (hks : (backToKw pos (keywordEach kws X.env)).filterMap (·.1) = ks := by rfl)
    (hdb : (x == ("__debug__" : Str)) = false := by decide) (he : starEach (e :: es) X.env = (false, eval e X.env) :: starEach es X.env := by rfl)
    (hpl : ((backTo pos (starEach (e :: es) X.env)).any (·.1) || (backToKw pos (keywordEach kws X.env)).any (·.1.isNone)) = false := by rfl) :
    DE X c (.Call (.Name x p) (e :: es) kws pos) (dCallK n m l ix M f g) := by
  subst hn
  subst hl; exact de_callK (E := E0) o.fn hgu (hr.mono hk) hg o.ad o.kp hb pass0 ha hkw hall hks hdb he hpl
theorem de_callOK0 {ix : List Nat} {ks : List Str} {kws : List Keyword} {g : Env → R (List D)} (hn : ps.length = n) (o : Ok X.prog X.w X.K X.mg X.base x ps k none M fd) (hl : ks.length = l) (hb : KwB X.K fd ps 0 ks ix) (hgu : X.A.guards = some []) (hr : Room k2 X.A) (hk : k ≤ k2) (hg : Gl X x) (hkw : DK X c kws g)
    (hall : (backToKw pos (keywordEach kws X.env)).all (·.1.isSome) = true := by rfl) (hks : (backToKw pos (keywordEach kws X.env)).filterMap (·.1) = ks := by rfl)
    (hdb : (x == ("__debug__" : Str)) = false := by decide) (hpl : ((backTo pos (starEach [] X.env)).any (·.1) || (backToKw pos (keywordEach kws X.env)).any (·.1.isNone)) = false := by rfl) :
    DE X c (.Call (.Name x p) [] kws pos) (dCallK n 0 l ix M dNil g) := by
  subst hn
  subst hl; exact de_callK0 (E := E0) o.fn hgu (hr.mono hk) hg o.ad o.kp hb pass0 hkw hall hks hdb hpl
end
theorem FunD.kwB {K : PySem.W.Frag} {x qual : Str} {params : Arguments} {body : List Stmt} {scope : Scope} {kws : List (Str × V)} {f : Addr} {fd : FuncData} {ps ks : List Str} {n : Nat} {ix : List Nat} (F : FunD K x qual params body scope [] kws f fd) (h1 : ix.length = ps.length) (h2 : ∀ i ∈ ix, i < n + ks.length)
    (h : ∀ (kV doc pm : Value) (an : Option Addr) (cdv ct : Value) (us ws : List Value), us.length = n → ws.length = ks.length → bindArgs (PySem.W.fnOf x qual params body scope .none kV doc pm an cdv ct) ⟨us, ks.zip ws⟩ = pure (ps.zip (pick ix (us ++ ws)))) : KwB K fd ps n ks ix := by
  refine ⟨h1, h2, fun s us ws _ e1 e2 => ?_⟩
  obtain ⟨oc, od, dV, kV, doc, pm, an, cdv, ct, osl, rfl, lk, hcd, hD, hK⟩ := F.ex
  rcases hD with ⟨_, rfl⟩ | ⟨e, _⟩
  · exact .of_eq (h kV doc pm an cdv ct us ws e1 e2)
  · exact absurd rfl e
end PV

namespace PV
open PySem PySem.Spec PyProof.Rows L2

/-! ## small things of the printed terms -/
theorem at_ne {c : FC} {io : Option Nat} (h : c.at = io) {i : Nat} (hne : io ≠ some i) : c.at ≠ some i := by rw [h]; exact hne
theorem at_all {c : FC} {io : Option Nat} (h : c.at = io) {vs : List Nat} (hne : ∀ i ∈ vs, io ≠ some i) : ∀ i ∈ vs, c.at ≠ some i := by rw [h]; exact hne
theorem rm1 {k : Nat} {A : Around} (r : Room k A) : A.units + 1 < cLine := by have := r.units; omega
theorem bt_abs : bootBuiltins "abs" = some (.builtin "abs") := by decide +kernel
theorem bt_min : bootBuiltins "min" = some (.builtin "min") := by decide +kernel
theorem bt_max : bootBuiltins "max" = some (.builtin "max") := by decide +kernel
theorem bt_range : bootBuiltins "range" = some (.type "range") := by decide +kernel
theorem bt_len : bootBuiltins "len" = some (.builtin "len") := by decide +kernel
theorem bt_sum : bootBuiltins "sum" = some (.builtin "sum") := by decide +kernel
theorem bt_repr : bootBuiltins "repr" = some (.builtin "repr") := by decide +kernel
theorem bt_int : bootBuiltins "int" = some (.type "int") := by decide +kernel
theorem bt_bool : bootBuiltins "bool" = some (.type "bool") := by decide +kernel
theorem bt_str : bootBuiltins "str" = some (.type "str") := by decide +kernel
theorem bt_list : bootBuiltins "list" = some (.type "list") := by decide +kernel
theorem bt_tuple : bootBuiltins "tuple" = some (.type "tuple") := by decide +kernel
theorem de_ex {X : Cx} {e : Expr} {f : Env → R D} (h : ∀ c' : FC, c'.at = none → DE X c' e f) : PE X e (fun σ H Q => ∃ c' : FC, c'.at = none ∧ tD X.K c' f σ H Q) :=
  ⟨fun pins s σ H Q I ⟨c', h1, h2⟩ => (h c' h1).run pins s σ H Q I h2⟩

/-! ## comprehensions that leave the slots as they are -/
theorem lcLoop_pure {t : Env → R Bool} {e : Env → R D} {i : Nat} {δw : Env} (hw : δw[i]? = some .emp) (p : D → Bool) (f : D → D) : ∀ items : List D,
    (∀ d ∈ items, t (δw.set i (.p d)) = .ok (p d) (δw.set i (.p d)) ∧ (p d = true → e (δw.set i (.p d)) = .ok (f d) (δw.set i (.p d)))) → lcLoop (tgN i) t e [i] items δw = .ok ((items.filter p).map f) δw
  | [], _ => rfl
  | d :: ds, h => by
    have hl : i < δw.length := (List.getElem?_eq_some_iff.mp hw).1
    have e0 : δw.set i .emp = δw := by
      apply List.ext_getElem?
      intro j
      by_cases hj : i = j
      · subst hj; rw [List.getElem?_set_self hl, hw]
      · rw [List.getElem?_set_ne hj]
    have hd := h d List.mem_cons_self
    have ih := lcLoop_pure (t := t) (e := e) hw p f ds fun x hx => h x (List.mem_cons_of_mem _ hx)
    unfold lcLoop
    rw [show wipeE δw [i] = δw from e0]
    rw [show tgN i d δw = some (δw.set i (.p d)) from rfl]
    dsimp only
    rw [hd.1, R.bind_ok]
    have e1 : wipeE (δw.set i (.p d)) [i] = δw := by
      show (δw.set i (.p d)).set i .emp = δw
      rw [List.set_set, e0]
    cases q : p d with
    | true =>
      rw [if_pos rfl, hd.2 q, R.bind_ok, e1, ih, R.bind_ok, List.filter_cons, if_pos q, List.map_cons]
    | false => rw [if_neg Bool.false_ne_true, e1, ih, List.filter_cons, if_neg (by rw [q]; exact Bool.false_ne_true)]
theorem dLc_pure {fi : Env → R (List D)} {t : Env → R Bool} {e : Env → R D} {i : Nat} {δ : Env} {items : List D} (h0 : fi δ = .ok items δ) (s0 : Sl) (hi : δ[i]? = some s0) (hs : s0 = .emp ∨ ∃ d, s0 = .p d) (p : D → Bool) (f : D → D) (hl : items.length ≤ 16000000)
    (h : ∀ d ∈ items, t (δ.set i (.p d)) = .ok (p d) (δ.set i (.p d)) ∧ (p d = true → e (δ.set i (.p d)) = .ok (f d) (δ.set i (.p d)))) : dLc fi (tgN i) t e [i] δ = .ok (.lst ((items.filter p).map f)) δ := by
  have hlen : i < δ.length := (List.getElem?_eq_some_iff.mp hi).1
  have hw : (wipeE δ [i])[i]? = some .emp := by show (δ.set i .emp)[i]? = _; rw [List.getElem?_set_self hlen]
  have hset : ∀ d, (wipeE δ [i]).set i (.p d) = δ.set i (.p d) := fun d => by show (δ.set i .emp).set i _ = _; rw [List.set_set]
  unfold dLc
  rw [h0, R.bind_ok, lcLoop_pure hw p f items fun d hd => by rw [hset d]; exact h d hd, R.bind_ok]
  have c1 : ((items.filter p).map f).length ≤ 16000000 := by
    rw [List.length_map]
    exact Nat.le_trans (List.length_filter_le _ _) hl
  have c2 : (wipeE δ [i]).length = δ.length := by
    show (δ.set i .emp).length = _
    exact List.length_set
  rw [if_pos ⟨c1, c2⟩]
  · congr 1
    show (wipeE δ [i]).set i _ = δ
    show (δ.set i .emp).set i _ = δ
    rw [List.set_set, hi]
    apply List.ext_getElem?
    intro j
    by_cases hj : i = j
    · subst hj
      rw [List.getElem?_set_self hlen, hi]
      rcases hs with rfl | ⟨d, rfl⟩ <;> rfl
    · rw [List.getElem?_set_ne hj]
end PV

namespace PV
open PySem PySem.Spec PyProof.Rows L2

/-! ## evaluation -/
theorem log2_lt {n k : Nat} (hk : 0 < k) (h : n < 2 ^ k) : n.log2 < k := by
  by_cases z : n = 0
  · subst z; rw [show Nat.log2 0 = 0 from by decide]; exact hk
  · exact (Nat.log2_lt z).mpr h
theorem ev_add (i j : Int) : gAdd (.int i) (.int j) = some (.int (i + j)) := rfl
theorem ev_sub (i j : Int) : PV.gSub (.int i) (.int j) = some (.int (i - j)) := rfl
theorem ev_mul {i j : Int} (h : i.natAbs < 18446744073709551616 ∨ j.natAbs < 18446744073709551616) : gMul (.int i) (.int j) = some (.int (i * j)) := by
  unfold gMul; exact if_pos (.inl h)
theorem ev_mulW {i j : Int} {a b : Nat} (h : i.natAbs < 2 ^ a) (h2 : j.natAbs < 2 ^ b) (ha : 0 < a) (hb : 0 < b) (h3 : a + b ≤ 1000000) : gMul (.int i) (.int j) = some (.int (i * j)) := by
  have := log2_lt ha h
  have := log2_lt hb h2
  unfold gMul; exact if_pos (.inr (by omega))
theorem ev_div {i j : Int} (h : 0 < j) (h2 : j.natAbs < 2 ^ 8000) : gDiv (.int i) (.int j) = some (.int (i / j)) := by
  have := log2_lt (by omega) h2
  unfold gDiv; exact if_pos ⟨h, by omega⟩
theorem ev_divL {i j : Int} (h : 0 < j) (h2 : j < 1000000000000000000000000000000000000000000000000000000000000) : gDiv (.int i) (.int j) = some (.int (i / j)) := by
  refine ev_div h (Nat.lt_of_lt_of_le (m := 2 ^ 200) ?_ (Nat.pow_le_pow_right (by omega) (by omega)))
  have : (2 : Nat) ^ 200 = 1606938044258990275541962092341162602522202993782792835301376 := by decide
  omega
theorem ev_mod {i j : Int} (h : 0 < j) : gMod (.int i) (.int j) = some (.int (i % j)) := by unfold gMod; exact if_pos h
theorem ev_pow {i j : Int} (h : 0 ≤ j) (h2 : j ≤ 1000000) (h3 : i.natAbs < 18446744073709551616) : gPow (.int i) (.int j) = some (.int (i ^ j.toNat)) := by unfold gPow; exact if_pos ⟨h, h2, h3⟩
theorem ev_cmp (f : Int → Int → Bool) (i j : Int) : gCmp f (.int i) (.int j) = some (.bl (f i j)) := rfl
theorem ev_eq (i j : Int) : gEq false (.int i) (.int j) = some (.bl (decide (i = j))) := rfl
theorem ev_ne (i j : Int) : gEq true (.int i) (.int j) = some (.bl (!decide (i = j))) := rfl
theorem ev_eqB (i j : Bool) : gEq false (.bl i) (.bl j) = some (.bl (decide (i = j))) := rfl
theorem ev_neB (i j : Bool) : gEq true (.bl i) (.bl j) = some (.bl (!decide (i = j))) := rfl
theorem ev_eqS (i j : Str) : gEq false (.str i) (.str j) = some (.bl (decide (i = j))) := rfl
theorem ev_neS (i j : Str) : gEq true (.str i) (.str j) = some (.bl (!decide (i = j))) := rfl
theorem ev_int (i : Int) : gInt [.int i] = some (.int i) := rfl
theorem ev_intB (b : Bool) : gInt [.bl b] = some (.int (if b then 1 else 0)) := rfl
theorem ev_abs (i : Int) : gAbs [.int i] = some (.int (if i < 0 then -i else i)) := rfl
theorem ev_min (i j : Int) : gMin [.int i, .int j] = some (.int (if j < i then j else i)) := rfl
theorem ev_max (i j : Int) : gMax [.int i, .int j] = some (.int (if j > i then j else i)) := rfl
theorem ev_lenL (l : List D) : gLen [.lst l] = some (.int l.length) := rfl
theorem ev_lenT (l : List D) : gLen [.tup l] = some (.int l.length) := rfl
theorem ev_lenSc (l : List Int) : gLen [.scr l] = some (.int l.length) := rfl
theorem ev_isi_int (i : Int) (δ : Env) (f : Env → R D) (h : f δ = .ok (.int i) δ) : dIsi "int" f δ = .ok (.bl true) δ := by
  unfold dIsi; rw [h]; rfl
theorem kitB_ib : kitB "int" "bool" = some false := by decide +kernel
theorem kitB_bi : kitB "bool" "int" = some true := by decide +kernel
theorem ev_isi_bool (i : Int) (δ : Env) (f : Env → R D) (h : f δ = .ok (.int i) δ) : dIsi "bool" f δ = .ok (.bl false) δ := by
  unfold dIsi; rw [h]; show (match kitB "int" "bool" with | some b => (R.ok (D.bl b) δ : R D) | none => .bad) = _; rw [kitB_ib]
theorem dAndV_bl {fa fb : Env → R D} {δ : Env} {a b : Bool} (h1 : fa δ = .ok (.bl a) δ) (h2 : fb δ = .ok (.bl b) δ) : dAndV fa fb δ = .ok (.bl (a && b)) δ := by
  unfold dAndV; rw [h1]; cases a
  · rfl
  · exact h2
theorem dOrV_bl {fa fb : Env → R D} {δ : Env} {a b : Bool} (h1 : fa δ = .ok (.bl a) δ) (h2 : fb δ = .ok (.bl b) δ) : dOrV fa fb δ = .ok (.bl (a || b)) δ := by
  unfold dOrV; rw [h1]; cases a
  · exact h2
  · rfl
theorem dAnd_bl {fa fb : Env → R Bool} {δ : Env} {a b : Bool} (h1 : fa δ = .ok a δ) (h2 : fb δ = .ok b δ) : dAnd fa fb δ = .ok (a && b) δ := by
  unfold dAnd; rw [h1, R.bind_ok]; cases a
  · rfl
  · exact h2
theorem dOr_bl {fa fb : Env → R Bool} {δ : Env} {a b : Bool} (h1 : fa δ = .ok a δ) (h2 : fb δ = .ok b δ) : dOr fa fb δ = .ok (a || b) δ := by
  unfold dOr; rw [h1, R.bind_ok]; cases a
  · exact h2
  · rfl

theorem ev_inR (i a b : Int) : gInR (.int i) (.rng a b) = some (.bl (decide (a ≤ i ∧ i < b))) := rfl
theorem ev_rng (a b : Int) : gRng [.int a, .int b] = some (.rng a b) := rfl
theorem seq_nx {f g : Env → SRes} {δ δ1 : Env} (h : f δ = .nx δ1) : sSeq f g δ = g δ1 := by unfold sSeq; rw [h]; rfl
theorem dOp_ok {g : D → D → Option D} {fa fb : Env → R D} {δ δ1 δ2 : Env} {x y z : D} (h1 : fa δ = .ok x δ1) (h2 : fb δ1 = .ok y δ2) (h3 : g x y = some z) : dOp g fa fb δ = .ok z δ2 := by unfold dOp; rw [h1, R.bind_ok, h2, R.bind_ok, h3]
theorem sRet_ok {f : Env → R D} {δ δ1 : Env} {d : D} (h : f δ = .ok d δ1) : sRet f δ = .rt d δ1 := by unfold sRet; rw [h]
theorem sSet_ok {i : Nat} {f : Env → R D} {δ δ1 : Env} {d : D} (h : f δ = .ok d δ1) : sSet i f δ = .nx (δ1.set i (.p d)) := by unfold sSet; rw [h]
theorem ev_t2_0 (a b : D) : gIx (.tup [a, b]) (.int 0) = some a := rfl
theorem ev_t2_1 (a b : D) : gIx (.tup [a, b]) (.int 1) = some b := rfl
theorem ev_t3_0 (a b c : D) : gIx (.tup [a, b, c]) (.int 0) = some a := rfl
theorem ev_t3_1 (a b c : D) : gIx (.tup [a, b, c]) (.int 1) = some b := rfl
theorem ev_t3_2 (a b c : D) : gIx (.tup [a, b, c]) (.int 2) = some c := rfl
theorem seq_rt {f g : Env → SRes} {δ δ1 : Env} {d : D} (h : f δ = .rt d δ1) : sSeq f g δ = .rt d δ1 := by unfold sSeq; rw [h]; rfl
theorem forD_nx {g : D → Env → Option Env} {b : Env → SRes} {d : D} {ds : List D} {δ δ1 δ2 : Env} (h1 : g d δ = some δ1) (h2 : b δ1 = .nx δ2) : forD g b (d :: ds) δ = forD g b ds δ2 := by
  show (match g d δ with | none => SRes.bad | some δ1 => match b δ1 with | .nx δ2 => forD g b ds δ2 | .ct δ2 => forD g b ds δ2 | .bk δ2 => .nx δ2 | .rt x δ2 => .rt x δ2 | .bad => .bad) = _
  rw [h1]; dsimp only; rw [h2]
theorem sFor_ok {f : Env → R (List D)} {g : D → Env → Option Env} {b : Env → SRes} {l : List D} {δ δ1 : Env} (h : f δ = .ok l δ1) : sFor f g b δ = forD g b l δ1 := by unfold sFor; rw [h]
theorem fnMir_rt {io : Option Nat} {b : Env → SRes} {n : Nat} {ds : List D} {s s' : Sl} {d : D} {δ : Env} (h : b (mkEnv io ds s n) = .rt d δ) (h2 : ioOut io δ = some s') : fnMir io b n ds s = some (.p d, s') := by unfold fnMir; rw [h]; dsimp only; rw [h2]; rfl
theorem fnMir_nx {io : Option Nat} {b : Env → SRes} {n : Nat} {ds : List D} {s s' : Sl} {δ : Env} (h : b (mkEnv io ds s n) = .nx δ) (h2 : ioOut io δ = some s') : fnMir io b n ds s = some (.p .non, s') := by unfold fnMir; rw [h]; dsimp only; rw [h2]; rfl

/-! ## equal data -/
theorem D.pys_ints (ns : List Int) : D.pys (ns.map D.int) = some (ns.map PyData.int) := by
  induction ns with
  | nil => rfl
  | cons n r ih => rw [List.map_cons, D.pys, ih]; rfl
mutual
theorem eqv_refl : ∀ p : PyData, p.canLay0 = true → PyData.eqv p p = true
  | .none, _ => rfl
  | .bool b, _ => by cases b <;> rfl
  | .int i, _ => by show (i == i) = true; simp
  | .str x, _ => by show (x == x) = true; simp
  | .list xs, h => eqvAll_refl xs h
  | .tuple xs, h => eqvAll_refl xs h
  | .dict _, h => by cases h
theorem eqvAll_refl : ∀ p : List PyData, PyData.canLayAll0 p = true → PyData.eqvAll p p = true
  | [], _ => rfl
  | x :: xs, h => by
    have h2 : x.canLay0 = true ∧ PyData.canLayAll0 xs = true := by simpa [PyData.canLayAll0] using h
    show (PyData.eqv x x && PyData.eqvAll xs xs) = true
    rw [eqv_refl x h2.1, eqvAll_refl xs h2.2]; rfl
end
theorem canLayAll0_ints (ns : List Int) : PyData.canLayAll0 (ns.map PyData.int) = true := by
  induction ns with
  | nil => rfl
  | cons n r ih => show (true && PyData.canLayAll0 (r.map PyData.int)) = true; rw [ih]; rfl
theorem depthAll_ints (ns : List Int) : PyData.depthAll (ns.map PyData.int) = 0 := by
  induction ns with
  | nil => rfl
  | cons n r ih => show max 0 (PyData.depthAll (r.map PyData.int)) = 0; rw [ih]; rfl
theorem shaped_ints (ns : List Int) : SeqAt.shaped (.list (ns.map PyData.int)) = true ∧ SeqAt.shaped (.tuple (ns.map PyData.int)) = true := by
  have h1 := canLayAll0_ints ns
  have h2 := depthAll_ints ns
  constructor <;> (unfold SeqAt.shaped; simp [PyData.canLay0, PyData.depth, h1, h2])
theorem eqvAll_ints : ∀ (a b : List Int), PyData.eqvAll (a.map PyData.int) (b.map PyData.int) = decide (a = b)
  | [], [] => rfl
  | [], _ :: _ => rfl
  | _ :: _, [] => rfl
  | x :: a, y :: b => by
    show (x == y && PyData.eqvAll (a.map PyData.int) (b.map PyData.int)) = _
    rw [eqvAll_ints a b]
    by_cases h : x = y <;> simp [h]
/-- tuples and lists of whole numbers -/
theorem ev_eqTs (a b : List Int) : gEqB (.tup (a.map D.int)) (.tup (b.map D.int)) = some (decide (a = b)) := by
  have p1 : (D.tup (a.map D.int)).py = some (.tuple (a.map PyData.int)) := by show (D.pys _).map _ = _; rw [D.pys_ints]; rfl
  have p2 : (D.tup (b.map D.int)).py = some (.tuple (b.map PyData.int)) := by show (D.pys _).map _ = _; rw [D.pys_ints]; rfl
  show (match (D.tup (a.map D.int)).py, (D.tup (b.map D.int)).py with
    | some p, some q => if SeqAt.shaped p = true ∧ SeqAt.shaped q = true then some (PyData.eqv p q) else none
    | _, _ => none) = _
  rw [p1, p2]
  show (if _ then some (PyData.eqvAll (a.map PyData.int) (b.map PyData.int)) else none) = _
  rw [if_pos ⟨(shaped_ints a).2, (shaped_ints b).2⟩, eqvAll_ints]
theorem ev_eqLs (a b : List Int) : gEqB (.lst (a.map D.int)) (.lst (b.map D.int)) = some (decide (a = b)) := by
  have p1 : (D.lst (a.map D.int)).py = some (.list (a.map PyData.int)) := by show (D.pys _).map _ = _; rw [D.pys_ints]; rfl
  have p2 : (D.lst (b.map D.int)).py = some (.list (b.map PyData.int)) := by show (D.pys _).map _ = _; rw [D.pys_ints]; rfl
  show (match (D.lst (a.map D.int)).py, (D.lst (b.map D.int)).py with
    | some p, some q => if SeqAt.shaped p = true ∧ SeqAt.shaped q = true then some (PyData.eqv p q) else none
    | _, _ => none) = _
  rw [p1, p2]
  show (if _ then some (PyData.eqvAll (a.map PyData.int) (b.map PyData.int)) else none) = _
  rw [if_pos ⟨(shaped_ints a).1, (shaped_ints b).1⟩, eqvAll_ints]
theorem ev_eqT3 (neg : Bool) (a b c x y z : Int) : gEq neg (.tup [.int a, .int b, .int c]) (.tup [.int x, .int y, .int z]) = some (.bl (if neg then !decide ([a, b, c] = [x, y, z]) else decide ([a, b, c] = [x, y, z]))) := by
  unfold gEq
  rw [show gEqB (.tup [.int a, .int b, .int c]) (.tup [.int x, .int y, .int z]) = some (decide ([a, b, c] = [x, y, z])) from ev_eqTs [a, b, c] [x, y, z]]
  rfl
theorem ev_eqT2 (neg : Bool) (a b x y : Int) : gEq neg (.tup [.int a, .int b]) (.tup [.int x, .int y]) = some (.bl (if neg then !decide ([a, b] = [x, y]) else decide ([a, b] = [x, y]))) := by
  unfold gEq
  rw [show gEqB (.tup [.int a, .int b]) (.tup [.int x, .int y]) = some (decide ([a, b] = [x, y])) from ev_eqTs [a, b] [x, y]]
  rfl

/-! ## repr of whole numbers and tuples of them -/
/-- numbers that repr writes without a limit -/
def Sm (n : Int) : Prop := n.natAbs.log2 < 1920
theorem sm_of {n : Int} (h : n.natAbs < 10 ^ 60) : Sm n := by
  refine log2_lt (by omega) (Nat.lt_of_lt_of_le (m := 2 ^ 200) ?_ (Nat.pow_le_pow_right (by omega) (by omega)))
  exact Nat.lt_of_lt_of_le h (by decide)
theorem ev_reprI {n : Int} (h : Sm n) : gRepr [.int n] = some (.str (PyData.int n).shown) := by
  unfold gRepr
  show (if (PyData.int n).showable = true ∧ (PyData.int n).hasDict = false ∧ (PyData.int n).depth ≤ 60 ∧ wtP (.int n) ≤ 16000000 then some (D.str (PyData.int n).shown) else none) = _
  have h' : n.natAbs.log2 < 1920 := h
  refine if_pos ⟨?_, rfl, Nat.zero_le _, by show 1922 ≤ 16000000; omega⟩
  simp [PyData.showable, h']
theorem ev_reprB (b : Bool) : gRepr [.bl b] = some (.str (PyData.bool b).shown) := by
  cases b <;> rfl
theorem ev_reprT3 {a b c : Int} (h1 : Sm a) (h2 : Sm b) (h3 : Sm c) : gRepr [.tup [.int a, .int b, .int c]] = some (.str (PyData.tuple [.int a, .int b, .int c]).shown) := by
  unfold gRepr
  show (if (PyData.tuple [.int a, .int b, .int c]).showable = true ∧ (PyData.tuple [.int a, .int b, .int c]).hasDict = false ∧ (PyData.tuple [.int a, .int b, .int c]).depth ≤ 60 ∧ wtP (PyData.tuple [.int a, .int b, .int c]) ≤ 16000000 then some (D.str (PyData.tuple [.int a, .int b, .int c]).shown) else none) = _
  refine if_pos ⟨?_, rfl, by show 1 ≤ 60; omega, ?_⟩
  · have h1' : a.natAbs.log2 < 1920 := h1
    have h2' : b.natAbs.log2 < 1920 := h2
    have h3' : c.natAbs.log2 < 1920 := h3
    simp [PyData.showable, PyData.showableAll, h1', h2', h3']
  · simp [wtP, wtPs]
end PV

namespace PV
open PySem PySem.Spec PyProof.Rows L2

/-! ## the head's hook with one more fact -/
abbrev AlE := Bool × He.AlD
def obsE (n : Nat) (fa : List He.Fa) (fn : List He.DefD) (ex : PySem.W.Frag → Bool) (g : Addr → Option Obj) : AlE := (ex (He.frG g (He.asD g n)), He.obsD fa fn (He.frG g (He.asD g n)))
def hookE (n : Nat) (fa : List He.Fa) (fn : List He.DefD) (ex : PySem.W.Frag → Bool) : PySem.W.Hook where
  α := AlE
  obs := fun s => obsE n fa fn ex s.heap.get?
  val := fun _ => (true, He.valD fn)
  says := fun _ h => ∃ K : PySem.W.Frag, K.In h ∧ He.SaysD fa fn K ∧ ex K = true
  of := fun _ _ e => ⟨_, He.frG_in, congrArg (fun z : AlE => z.2) e, congrArg (fun z : AlE => z.1) e⟩
  keeps := fun _ _ _ ⟨K, hK, c⟩ k => ⟨K, PySem.W.Frag.In.keeps hK k, c⟩
theorem obsE_eq {n : Nat} {fa : List He.Fa} {fn : List He.DefD} {ex : PySem.W.Frag → Bool} {g : Addr → Option Obj} {s : Shared} (h : ∀ a, g a = s.heap.get? a) : obsE n fa fn ex g = (hookE n fa fn ex).obs s := by
  have e : g = s.heap.get? := funext h
  rw [e] <;> rfl
end PV
namespace PV
open PySem PySem.Spec PyProof.Rows L2
theorem FunD.fd_eq {K : PySem.W.Frag} {x x' qual qual' : Str} {params params' : Arguments} {body body' : List Stmt} {scope scope' : Scope} {dvs dvs' : List V} {kws kws' : List (Str × V)} {f : Addr} {fd fd' : FuncData} (F : L2.FunD K x qual params body scope dvs kws f fd) (F' : L2.FunD K x' qual' params' body' scope' dvs' kws' f fd') : fd = fd' := by
  obtain ⟨oc, od, dV, kV, doc, pm, an, cdv, ct, osl, _, lk, _, _, _⟩ := F.ex
  obtain ⟨oc', od', dV', kV', doc', pm', an', cdv', ct', osl', _, lk', _, _, _⟩ := F'.ex
  rw [lk] at lk'
  injection lk' with e
  injection e with e1 e2 e3
  injection e3
end PV

namespace K02
open PySem PySem.Spec PyProof.Rows L2 PV
def top (i : Nat) : Stmt := PySem.Challenge.pw_clockfolds_k02_whole_calendar_walked.main.body.getD i (.Pass ⟨0, 0, 0, 0⟩)
abbrev s__law_begun : Stmt := top 22
abbrev s__law_new_year : Stmt := top 26
abbrev s__law_month : Stmt := top 27
abbrev s__law_first_week : Stmt := top 33
abbrev s__law_mixed : Stmt := top 23
abbrev s__law_take : Stmt := top 24
abbrev s__law_some_year : Stmt := top 30
abbrev s__law_pick : Stmt := top 25
abbrev s_is_number : Stmt := top 11
abbrev s_need_numbers : Stmt := top 12
abbrev s_leap_days_before : Stmt := top 14
abbrev s_year_start : Stmt := top 16
abbrev s_day_before_month : Stmt := top 15
abbrev s_has_leap_day : Stmt := top 13
abbrev s_date_of : Stmt := top 18
abbrev s_weekday : Stmt := top 19
abbrev s_week_of : Stmt := top 20
abbrev s_day_of : Stmt := top 17
abbrev s__law_day_right : Stmt := top 34
abbrev s__law_is_long : Stmt := top 28
abbrev s__law_size : Stmt := top 29
abbrev s__law_next_date : Stmt := top 31
abbrev s__law_next_week : Stmt := top 32
abbrev s_law : Stmt := top 35
abbrev N__law_begun : List Str := ["script", "wide", "cell"]
theorem sc__law_begun : FnScope N__law_begun ["script"] (defScope s__law_begun) := ⟨rfl, rfl, rfl, by decide +kernel, rfl, by decide +kernel, by decide +kernel⟩
abbrev N__law_new_year : List Str := ["year", "gone"]
theorem sc__law_new_year : FnScope N__law_new_year ["year"] (defScope s__law_new_year) := ⟨rfl, rfl, rfl, by decide +kernel, rfl, by decide +kernel, by decide +kernel⟩
abbrev N__law_month : List Str := ["year", "month", "leap", "sizes"]
theorem sc__law_month : FnScope N__law_month ["year", "month"] (defScope s__law_month) := ⟨rfl, rfl, rfl, by decide +kernel, rfl, by decide +kernel, by decide +kernel⟩
abbrev N__law_first_week : List Str := ["date", "number", "year", "month", "one_day", "begin", "monday", "one", "fourth", "first"]
theorem sc__law_first_week : FnScope N__law_first_week ["date", "number"] (defScope s__law_first_week) := ⟨rfl, rfl, rfl, by decide +kernel, rfl, by decide +kernel, by decide +kernel⟩
abbrev N__law_mixed : List Str := ["state", "turn", "found", "prime", "blend", "cell"]
theorem sc__law_mixed : FnScope N__law_mixed ["state"] (defScope s__law_mixed) := ⟨rfl, rfl, rfl, by decide +kernel, rfl, by decide +kernel, by decide +kernel⟩
abbrev N__law_take : List Str := ["state", "size", "found"]
theorem sc__law_take : FnScope N__law_take ["state", "size"] (defScope s__law_take) := ⟨rfl, rfl, rfl, by decide +kernel, rfl, by decide +kernel, by decide +kernel⟩
abbrev N__law_some_year : List Str := ["state", "far", "turn", "ways"]
theorem sc__law_some_year : FnScope N__law_some_year ["state"] (defScope s__law_some_year) := ⟨rfl, rfl, rfl, by decide +kernel, rfl, by decide +kernel, by decide +kernel⟩
abbrev N__law_pick : List Str := ["state", "some"]
theorem sc__law_pick : FnScope N__law_pick ["state", "some"] (defScope s__law_pick) := ⟨rfl, rfl, rfl, by decide +kernel, rfl, by decide +kernel, by decide +kernel⟩
abbrev N_is_number : List Str := ["value"]
theorem sc_is_number : FnScope N_is_number ["value"] (defScope s_is_number) := ⟨rfl, rfl, rfl, by decide +kernel, rfl, by decide +kernel, by decide +kernel⟩
abbrev N_need_numbers : List Str := ["values", "value"]
theorem sc_need_numbers : FnScope N_need_numbers ["values"] (defScope s_need_numbers) := ⟨rfl, rfl, rfl, by decide +kernel, rfl, by decide +kernel, by decide +kernel⟩
abbrev N_leap_days_before : List Str := ["year"]
theorem sc_leap_days_before : FnScope N_leap_days_before ["year"] (defScope s_leap_days_before) := ⟨rfl, rfl, rfl, by decide +kernel, rfl, by decide +kernel, by decide +kernel⟩
abbrev N_year_start : List Str := ["year"]
theorem sc_year_start : FnScope N_year_start ["year"] (defScope s_year_start) := ⟨rfl, rfl, rfl, by decide +kernel, rfl, by decide +kernel, by decide +kernel⟩
abbrev N_day_before_month : List Str := ["month", "is_long"]
theorem sc_day_before_month : FnScope N_day_before_month ["month", "is_long"] (defScope s_day_before_month) := ⟨rfl, rfl, rfl, by decide +kernel, rfl, by decide +kernel, by decide +kernel⟩
abbrev N_has_leap_day : List Str := ["year"]
theorem sc_has_leap_day : FnScope N_has_leap_day ["year"] (defScope s_has_leap_day) := ⟨rfl, rfl, rfl, by decide +kernel, rfl, by decide +kernel, by decide +kernel⟩
abbrev N_date_of : List Str := ["day", "year", "rest", "month"]
theorem sc_date_of : FnScope N_date_of ["day"] (defScope s_date_of) := ⟨rfl, rfl, rfl, by decide +kernel, rfl, by decide +kernel, by decide +kernel⟩
abbrev N_weekday : List Str := ["day"]
theorem sc_weekday : FnScope N_weekday ["day"] (defScope s_weekday) := ⟨rfl, rfl, rfl, by decide +kernel, rfl, by decide +kernel, by decide +kernel⟩
abbrev N_week_of : List Str := ["day", "thursday", "year"]
theorem sc_week_of : FnScope N_week_of ["day"] (defScope s_week_of) := ⟨rfl, rfl, rfl, by decide +kernel, rfl, by decide +kernel, by decide +kernel⟩
abbrev N_day_of : List Str := ["year", "month", "day", "before"]
theorem sc_day_of : FnScope N_day_of ["year", "month", "day"] (defScope s_day_of) := ⟨rfl, rfl, rfl, by decide +kernel, rfl, by decide +kernel, by decide +kernel⟩
abbrev N__law_day_right : List Str := ["one_day", "date", "number", "week"]
theorem sc__law_day_right : FnScope N__law_day_right ["one_day", "date", "number", "week"] (defScope s__law_day_right) := ⟨rfl, rfl, rfl, by decide +kernel, rfl, by decide +kernel, by decide +kernel⟩
abbrev N__law_is_long : List Str := ["year"]
theorem sc__law_is_long : FnScope N__law_is_long ["year"] (defScope s__law_is_long) := ⟨rfl, rfl, rfl, by decide +kernel, rfl, by decide +kernel, by decide +kernel⟩
abbrev N__law_size : List Str := ["year", "month"]
theorem sc__law_size : FnScope N__law_size ["year", "month"] (defScope s__law_size) := ⟨rfl, rfl, rfl, by decide +kernel, rfl, by decide +kernel, by decide +kernel⟩
abbrev N__law_next_date : List Str := ["date", "year", "month", "one_day"]
theorem sc__law_next_date : FnScope N__law_next_date ["date"] (defScope s__law_next_date) := ⟨rfl, rfl, rfl, by decide +kernel, rfl, by decide +kernel, by decide +kernel⟩
abbrev N__law_next_week : List Str := ["week", "date", "thursday"]
theorem sc__law_next_week : FnScope N__law_next_week ["week", "date"] (defScope s__law_next_week) := ⟨rfl, rfl, rfl, by decide +kernel, rfl, by decide +kernel, by decide +kernel⟩
abbrev N_law : List Str := ["script", "state", "turn", "year", "month", "date", "one_day", "number", "week", "step"]
theorem sc_law : FnScope N_law ["script"] (defScope s_law) := ⟨rfl, rfl, rfl, by decide +kernel, rfl, by decide +kernel, by decide +kernel⟩
def d__law_begun : He.DefD := ⟨("_law_begun", none), "_law_begun", "_law_begun", defArgs s__law_begun, defBody s__law_begun, defScope s__law_begun, [], []⟩
def d__law_new_year : He.DefD := ⟨("_law_new_year", none), "_law_new_year", "_law_new_year", defArgs s__law_new_year, defBody s__law_new_year, defScope s__law_new_year, [], []⟩
def d__law_month : He.DefD := ⟨("_law_month", none), "_law_month", "_law_month", defArgs s__law_month, defBody s__law_month, defScope s__law_month, [], []⟩
def d__law_first_week : He.DefD := ⟨("_law_first_week", none), "_law_first_week", "_law_first_week", defArgs s__law_first_week, defBody s__law_first_week, defScope s__law_first_week, [], []⟩
def d__law_mixed : He.DefD := ⟨("_law_mixed", none), "_law_mixed", "_law_mixed", defArgs s__law_mixed, defBody s__law_mixed, defScope s__law_mixed, [], []⟩
def d__law_take : He.DefD := ⟨("_law_take", none), "_law_take", "_law_take", defArgs s__law_take, defBody s__law_take, defScope s__law_take, [], []⟩
def d__law_some_year : He.DefD := ⟨("_law_some_year", none), "_law_some_year", "_law_some_year", defArgs s__law_some_year, defBody s__law_some_year, defScope s__law_some_year, [], []⟩
def d__law_pick : He.DefD := ⟨("_law_pick", none), "_law_pick", "_law_pick", defArgs s__law_pick, defBody s__law_pick, defScope s__law_pick, [], []⟩
def d_is_number : He.DefD := ⟨("is_number", none), "is_number", "is_number", defArgs s_is_number, defBody s_is_number, defScope s_is_number, [], []⟩
def d_need_numbers : He.DefD := ⟨("need_numbers", none), "need_numbers", "need_numbers", defArgs s_need_numbers, defBody s_need_numbers, defScope s_need_numbers, [], []⟩
def d_leap_days_before : He.DefD := ⟨("leap_days_before", none), "leap_days_before", "leap_days_before", defArgs s_leap_days_before, defBody s_leap_days_before, defScope s_leap_days_before, [], []⟩
def d_year_start : He.DefD := ⟨("year_start", none), "year_start", "year_start", defArgs s_year_start, defBody s_year_start, defScope s_year_start, [], []⟩
def d_day_before_month : He.DefD := ⟨("day_before_month", none), "day_before_month", "day_before_month", defArgs s_day_before_month, defBody s_day_before_month, defScope s_day_before_month, [], []⟩
def d_has_leap_day : He.DefD := ⟨("has_leap_day", none), "has_leap_day", "has_leap_day", defArgs s_has_leap_day, defBody s_has_leap_day, defScope s_has_leap_day, [], []⟩
def d_date_of : He.DefD := ⟨("date_of", none), "date_of", "date_of", defArgs s_date_of, defBody s_date_of, defScope s_date_of, [], []⟩
def d_weekday : He.DefD := ⟨("weekday", none), "weekday", "weekday", defArgs s_weekday, defBody s_weekday, defScope s_weekday, [], []⟩
def d_week_of : He.DefD := ⟨("week_of", none), "week_of", "week_of", defArgs s_week_of, defBody s_week_of, defScope s_week_of, [], []⟩
def d_day_of : He.DefD := ⟨("day_of", none), "day_of", "day_of", defArgs s_day_of, defBody s_day_of, defScope s_day_of, [], []⟩
def d__law_day_right : He.DefD := ⟨("_law_day_right", none), "_law_day_right", "_law_day_right", defArgs s__law_day_right, defBody s__law_day_right, defScope s__law_day_right, [], []⟩
def d__law_is_long : He.DefD := ⟨("_law_is_long", none), "_law_is_long", "_law_is_long", defArgs s__law_is_long, defBody s__law_is_long, defScope s__law_is_long, [], []⟩
def d__law_size : He.DefD := ⟨("_law_size", none), "_law_size", "_law_size", defArgs s__law_size, defBody s__law_size, defScope s__law_size, [], []⟩
def d__law_next_date : He.DefD := ⟨("_law_next_date", none), "_law_next_date", "_law_next_date", defArgs s__law_next_date, defBody s__law_next_date, defScope s__law_next_date, [], []⟩
def d__law_next_week : He.DefD := ⟨("_law_next_week", none), "_law_next_week", "_law_next_week", defArgs s__law_next_week, defBody s__law_next_week, defScope s__law_next_week, [], []⟩
def d_law : He.DefD := ⟨("law", none), "law", "law", defArgs s_law, defBody s_law, defScope s_law, [], []⟩
def fn : List He.DefD := [d__law_begun, d__law_new_year, d__law_month, d__law_first_week, d__law_mixed, d__law_take, d__law_some_year, d__law_pick, d_is_number, d_need_numbers, d_leap_days_before, d_year_start, d_day_before_month, d_has_leap_day, d_date_of, d_weekday, d_week_of, d_day_of, d__law_day_right, d__law_is_long, d__law_size, d__law_next_date, d__law_next_week, d_law]
def glos : List Str := ["_law_begun", "_law_new_year", "_law_month", "_law_first_week", "_law_mixed", "_law_take", "_law_some_year", "_law_pick", "is_number", "need_numbers", "leap_days_before", "year_start", "day_before_month", "has_leap_day", "date_of", "weekday", "week_of", "day_of", "_law_day_right", "_law_is_long", "_law_size", "_law_next_date", "_law_next_week", "law", "BEFORE_MONTHS"]
def frees : List Str := ["abs", "int", "sum", "range", "len", "isinstance", "bool", "repr", "min"]
def gints : List (Str × Int) := [("YEARS", 400), ("FIRST_YEAR", 2000), ("DAYS", 146097), ("FIRST_WEEKDAY", 5), ("WEEK", 7)]
def fa : List He.Fa := glos.map He.Fa.glo ++ (frees.map He.Fa.free ++ gints.map fun p => He.Fa.int p.1 p.2)
def t_BEFORE_MONTHS : List D := [.int 0, .int 31, .int 59, .int 90, .int 120, .int 151, .int 181, .int 212, .int 243, .int 273, .int 304, .int 334, .int 365]
def ex (K : PySem.W.Frag) : Bool := He.tupB K "BEFORE_MONTHS" [.int 0, .int 31, .int 59, .int 90, .int 120, .int 151, .int 181, .int 212, .int 243, .int 273, .int 304, .int 334, .int 365]
structure Gm (K : PySem.W.Frag) (mg : Str → Option Value) : Prop where
  ex : ∃ h : Heap, K.In h ∧ h.Ns mainGlobals mg ∧ He.SaysD fa fn K ∧ ex K = true
section
variable {K : PySem.W.Frag} {mg : Str → Option Value}
theorem Gm.fact (G : Gm K mg) {f : He.Fa} (h : f ∈ fa) : f.ok K = true := by
  obtain ⟨_, _, _, c, _⟩ := G.ex
  obtain ⟨i, hi, e⟩ := List.mem_iff_getElem.mp h
  exact c.fact i (f := f) (by rw [List.getElem?_eq_getElem hi, e])
theorem Gm.glo (G : Gm K mg) {x : Str} (h : x ∈ glos) : mg x = some (.ref (He.ga K x)) := by
  obtain ⟨_, X, N, _, _⟩ := G.ex
  exact He.glo_ok X N (G.fact (f := .glo x) (List.mem_append_left _ (List.mem_map.mpr ⟨x, h, rfl⟩)))
theorem Gm.free (G : Gm K mg) {x : Str} (h : x ∈ frees) : mg x = none := by
  obtain ⟨_, X, N, _, _⟩ := G.ex
  exact He.free_ok X N (G.fact (f := .free x) (List.mem_append_right _ (List.mem_append_left _ (List.mem_map.mpr ⟨x, h, rfl⟩))))
theorem Gm.int (G : Gm K mg) {x : Str} {i : Int} (h : (x, i) ∈ gints) : ∃ t, mg x = some (.int i t) := by
  obtain ⟨_, X, N, _, _⟩ := G.ex
  exact He.int_ok X N (G.fact (f := .int x i) (List.mem_append_right _ (List.mem_append_right _ (List.mem_map.mpr ⟨(x, i), h, rfl⟩))))
theorem Gm.ad_BEFORE_MONTHS (G : Gm K mg) : mg "BEFORE_MONTHS" = some (.ref (He.ga K "BEFORE_MONTHS")) := G.glo (by decide)
theorem Gm.tup_BEFORE_MONTHS (G : Gm K mg) : KTup K (He.ga K "BEFORE_MONTHS") [.int 0, .int 31, .int 59, .int 90, .int 120, .int 151, .int 181, .int 212, .int 243, .int 273, .int 304, .int 334, .int 365] := by
  obtain ⟨_, _, _, _, q⟩ := G.ex
  exact ktup_of fun H => He.tupB_ok (q) H
theorem r_BEFORE_MONTHS {F : Addr → Prop} {H : Hp} : Reps K F H [.int 0, .int 31, .int 59, .int 90, .int 120, .int 151, .int 181, .int 212, .int 243, .int 273, .int 304, .int 334, .int 365] t_BEFORE_MONTHS := .cons (.int _) (.cons (.int _) (.cons (.int _) (.cons (.int _) (.cons (.int _) (.cons (.int _) (.cons (.int _) (.cons (.int _) (.cons (.int _) (.cons (.int _) (.cons (.int _) (.cons (.int _) (.cons (.int _) (.nil)))))))))))))
end
def b1__law_begun : PV.Env → SRes := (sSet 1 (dLc (iLst (dV 0)) (tgN 2) (dTst (dOp gGe (dCall gAbs (dCons (dV 2) dNil)) (dOp gPow (dC (.int 10)) (dC (.int 18))))) (dOp gSub (dCall gAbs (dCons (dV 2) dNil)) (dOp gPow (dC (.int 10)) (dC (.int 18)))) [2]))
def b2__law_begun : PV.Env → R D := (dLc (iLst (dV 0)) (tgN 2) bYes (dOp gMod (dCall gInt (dCons (dCall gAbs (dCons (dV 2) dNil)) dNil)) (dC (.int 2147483629))) [2])
def fw (ns : List Int) : List Int := (ns.filter fun n => decide (10 ^ 18 ≤ (if n < 0 then -n else n))).map fun n => (if n < 0 then -n else n) - 10 ^ 18
def fc (ns : List Int) : List Int := ns.map fun n => (if n < 0 then -n else n) % 2147483629
def m__law_begun : Mir := mBegun fw fc
theorem abs_lt (n : Int) : (if n < 0 then -n else n) = (n.natAbs : Int) := by split <;> omega
theorem b1_eq (ns : List Int) (hz : ns.length ≤ 63) : ∃ δ1, b1__law_begun (.p (.scr ns) :: List.replicate (N__law_begun.length - 1) .emp) = .nx δ1 ∧ δ1.length = N__law_begun.length ∧ δ1[1]? = some (.p (.lst ((fw ns).map D.int))) := by
  have h := dLc_pure (fi := iLst (dV 0)) (t := dTst (dOp gGe (dCall gAbs (dCons (dV 2) dNil)) (dOp gPow (dC (.int 10)) (dC (.int 18))))) (e := dOp PV.gSub (dCall gAbs (dCons (dV 2) dNil)) (dOp gPow (dC (.int 10)) (dC (.int 18)))) (i := 2) (δ := [.p (.scr ns), .emp, .emp]) (items := ns.map D.int) rfl .emp rfl (.inl rfl)
    (fun d => match d with | .int n => decide (10 ^ 18 ≤ (if n < 0 then -n else n)) | _ => false) (fun d => match d with | .int n => .int ((if n < 0 then -n else n) - 10 ^ 18) | d => d) (by rw [List.length_map]; omega)
    (fun d hd => by
      obtain ⟨n, _, rfl⟩ := List.mem_map.mp hd
      refine ⟨?_, fun _ => ?_⟩
      · show dTst _ [.p (.scr ns), .emp, .p (.int n)] = _
        simp [dTst, dOp, dCall, dCons, dNil, dV, dC, ev_abs, ev_pow, ev_cmp]
      · show dOp PV.gSub _ _ [.p (.scr ns), .emp, .p (.int n)] = _
        simp [dOp, dCall, dCons, dNil, dV, dC, ev_abs, ev_pow, ev_sub])
  refine ⟨[.p (.scr ns), .p (.lst ((fw ns).map D.int)), .emp], ?_, rfl, rfl⟩
  show sSet 1 _ [.p (.scr ns), .emp, .emp] = _
  unfold sSet
  rw [h]
  have e : List.map (fun d => match d with | .int n => D.int ((if n < 0 then -n else n) - 10 ^ 18) | d => d) (List.filter (fun d => match d with | .int n => decide (10 ^ 18 ≤ (if n < 0 then -n else n)) | _ => false) (ns.map D.int)) = (fw ns).map D.int := by
    unfold fw
    rw [List.filter_map, List.map_map, List.map_map]
    rfl
  rw [e]
  rfl
theorem b2_eq (ns : List Int) (hz : ns.length ≤ 63) : ∃ δ2, b2__law_begun (.p (.scr ns) :: List.replicate (N__law_begun.length - 1) .emp) = .ok (.lst ((fc ns).map D.int)) δ2 := by
  have h := dLc_pure (fi := iLst (dV 0)) (t := bYes) (e := dOp gMod (dCall gInt (dCons (dCall gAbs (dCons (dV 2) dNil)) dNil)) (dC (.int 2147483629))) (i := 2) (δ := [.p (.scr ns), .emp, .emp]) (items := ns.map D.int) rfl .emp rfl (.inl rfl)
    (fun d => true) (fun d => match d with | .int n => .int ((if n < 0 then -n else n) % 2147483629) | d => d) (by rw [List.length_map]; omega)
    (fun d hd => by
      obtain ⟨n, _, rfl⟩ := List.mem_map.mp hd
      refine ⟨rfl, fun _ => ?_⟩
      show dOp gMod _ _ [.p (.scr ns), .emp, .p (.int n)] = _
      simp [dOp, dCall, dCons, dNil, dV, dC, ev_abs, ev_int, ev_mod])
  refine ⟨[.p (.scr ns), .emp, .emp], h.trans ?_⟩
  have ef : List.filter (fun _ => true) (ns.map D.int) = ns.map D.int := List.filter_eq_self.mpr fun _ _ => rfl
  rw [ef]
  unfold fc
  rw [List.map_map, List.map_map]
  rfl

def b__law_new_year : PV.Env → SRes := (sSeq (sSet 1 (dOp gSub (dV 0) (dC (.int 2000))))
  (sRet (dOp gAdd (dOp gSub (dOp gAdd (dOp gMul (dC (.int 365)) (dV 1)) (dOp gDiv (dOp gAdd (dV 1) (dC (.int 3))) (dC (.int 4)))) (dOp gDiv (dOp gAdd (dV 1) (dC (.int 99))) (dC (.int 100)))) (dOp gDiv (dOp gAdd (dV 1) (dC (.int 399))) (dC (.int 400))))))
def m__law_new_year : Mir := fnMir none b__law_new_year 2
def b__law_month : PV.Env → SRes := (sSeq (sSet 2 (dOp gSub (dOp gSub (dCallF 1 m__law_new_year [] (dCons (dOp gAdd (dV 0) (dC (.int 1))) dNil)) (dCallF 1 m__law_new_year [] (dCons (dV 0) dNil))) (dC (.int 365))))
  (sSeq (sSet 3 (dSeq .lst (dCons (dC (.int 31)) (dCons (dOp gAdd (dC (.int 28)) (dV 2)) (dCons (dC (.int 31)) (dCons (dC (.int 30)) (dCons (dC (.int 31)) (dCons (dC (.int 30)) (dCons (dC (.int 31)) (dCons (dC (.int 31)) (dCons (dC (.int 30)) (dCons (dC (.int 31)) (dCons (dC (.int 30)) (dCons (dC (.int 31)) dNil))))))))))))))
  (sRet (dOp gAdd (dCallF 1 m__law_new_year [] (dCons (dV 0) dNil)) (dCall gSum (dCons (dSl (dV 3) dNo (dPart (dOp gSub (dV 1) (dC (.int 1))))) dNil))))))
def m__law_month : Mir := fnMir none b__law_month 4
def b__law_first_week : PV.Env → SRes := (sSeq (sAsg (tgT [2, 3, 4]) (dV 0))
  (sSeq (sSet 5 (dCallF 1 m__law_new_year [] (dCons (dV 2) dNil)))
  (sSeq (sSet 6 (dOp gSub (dOp gSub (dOp gAdd (dCallF 2 m__law_month [] (dCons (dV 2) (dCons (dV 3) dNil))) (dV 4)) (dC (.int 1))) (dV 1)))
  (sSeq (sFor (iLst (dSeq .lst (dCons (dOp gAdd (dV 2) (dC (.int 1))) (dCons (dV 2) (dCons (dOp gSub (dV 2) (dC (.int 1))) dNil))))) (tgN 7)
   (sSeq (sSet 8 (dOp gAdd (dCallF 1 m__law_new_year [] (dCons (dV 7) dNil)) (dC (.int 3))))
  (sSeq (sSet 9 (dOp gSub (dV 8) (dOp gMod (dCall gInt (dCons (dOp gAdd (dV 8) (dC (.int 5))) dNil)) (dC (.int 7)))))
  (sIf (dTst (dOp gGe (dV 6) (dV 9)))
   (sRet (dSeq .tup (dCons (dV 7) (dCons (dOp gAdd (dOp gDiv (dOp gSub (dV 6) (dV 9)) (dC (.int 7))) (dC (.int 1))) dNil))))
   sNext))))
  (sRet (dSeq .tup (dCons (dV 2) (dCons (dV 5) dNil))))))))
def m__law_first_week : Mir := fnMir none b__law_first_week 10
def b__law_mixed : PV.Env → SRes := (sSeq (sPar [1, 2] (dCons (dOp gAdd (dStI 0 .turn) (dC (.int 1))) (dCons (dC (.int 0)) dNil)))
  (sSeq (sStPut 0 .turn (dV 1))
  (sSeq (sFor (iLst (dSeq .lst (dCons (dC (.int 2147483629)) (dCons (dC (.int 2147483587)) (dCons (dC (.int 2147483579)) (dCons (dC (.int 2147483563)) dNil)))))) (tgN 3)
   (sSeq (sSet 4 (dOp gAdd (dOp gMul (dC (.int 61441)) (dV 1)) (dOp gDiv (dV 3) (dC (.int 19)))))
  (sSeq (sFor (iStC 0) (tgN 5)
   (sSet 4 (dOp gMod (dCall gInt (dCons (dOp gAdd (dOp gAdd (dOp gMul (dV 4) (dC (.int 48271))) (dV 5)) (dV 1)) dNil)) (dV 3))))
  (sSet 2 (dOp gAdd (dOp gMul (dV 2) (dC (.int 2147483647))) (dOp gMod (dCall gInt (dCons (dOp gPow (dV 4) (dC (.int 5))) dNil)) (dV 3)))))))
  (sRet (dV 2)))))
def m__law_mixed : Mir := fnMir (some 0) b__law_mixed 6
def b__law_take : PV.Env → SRes := (sSeq (sIf (dTst (dOp (gEq false) (dStI 0 .rest) (dC (.int 0))))
   (sStPut 0 .rest (dIf (bStW 0) (dStPop 0) (dCallS 1 0 0 m__law_mixed (dHere 0 dNil))))
   sNext)
  (sSeq (sSet 2 (dOp gMod (dCall gInt (dCons (dStI 0 .rest) dNil)) (dV 1)))
  (sSeq (sStPut 0 .rest (dOp gDiv (dStI 0 .rest) (dV 1)))
  (sRet (dV 2)))))
def m__law_take : Mir := fnMir (some 0) b__law_take 3
def b__law_some_year : PV.Env → SRes := (sSeq (sSet 1 (dC (.int 0)))
  (sSeq (sFor (iCall gRange1 (dCons (dC (.int 3)) dNil)) (tgN 2)
   (sSet 1 (dOp gAdd (dOp gMul (dV 1) (dOp gPow (dC (.int 10)) (dC (.int 9)))) (dCallS 2 0 0 m__law_take (dHere 0 (dCons (dOp gPow (dC (.int 10)) (dC (.int 9))) dNil))))))
  (sSeq (sSet 3 (dSeq .lst (dCons (dOp gAdd (dC (.int 1990)) (dCallS 2 0 0 m__law_take (dHere 0 (dCons (dC (.int 60)) dNil)))) (dCons (dOp gSub (dOp gAdd (dOp gMul (dC (.int 100)) (dOp gSub (dCallS 2 0 0 m__law_take (dHere 0 (dCons (dC (.int 61)) dNil))) (dC (.int 10)))) (dCallS 2 0 0 m__law_take (dHere 0 (dCons (dC (.int 3)) dNil)))) (dC (.int 1))) dNil))))
  (sSeq (sSet 3 (dOp gAdd (dV 3) (dSeq .lst (dCons (dOp gSub (dOp gAdd (dOp gMul (dC (.int 400)) (dOp gSub (dCallS 2 0 0 m__law_take (dHere 0 (dCons (dOp gMul (dC (.int 2)) (dOp gPow (dC (.int 10)) (dC (.int 6)))) dNil))) (dOp gPow (dC (.int 10)) (dC (.int 6))))) (dCallS 2 0 0 m__law_take (dHere 0 (dCons (dC (.int 5)) dNil)))) (dC (.int 2))) (dCons (dV 1) (dCons (dOp gSub (dC (.int 0)) (dV 1)) dNil))))))
  (sRet (dOp gIx (dV 3) (dCallS 2 0 0 m__law_take (dHere 0 (dCons (dC (.int 5)) dNil)))))))))
def m__law_some_year : Mir := fnMir (some 0) b__law_some_year 4
def b__law_pick : PV.Env → SRes := (sRet (dOp gIx (dV 1) (dCallS 2 0 0 m__law_take (dHere 0 (dCons (dCall gLen (dCons (dV 1) dNil)) dNil)))))
def m__law_pick : Mir := fnMir (some 0) b__law_pick 2
def b_is_number : PV.Env → SRes := (sRet (dAndV (dIsi "int" (dV 0)) (dNotV (dIsi "bool" (dV 0)))))
def m_is_number : Mir := fnMir none b_is_number 1
def b_need_numbers : PV.Env → SRes := (sFor (iLst (dV 0)) (tgN 1)
   (sIf (dNot (dTru (dCallF 1 m_is_number [] (dCons (dV 1) dNil))))
   sBad
   sNext))
def m_need_numbers : Mir := fnMir none b_need_numbers 2
def b_leap_days_before : PV.Env → SRes := (sRet (dOp gAdd (dOp gSub (dOp gDiv (dOp gSub (dV 0) (dC (.int 1))) (dC (.int 4))) (dOp gDiv (dOp gSub (dV 0) (dC (.int 1))) (dC (.int 100)))) (dOp gDiv (dOp gSub (dV 0) (dC (.int 1))) (dC (.int 400)))))
def m_leap_days_before : Mir := fnMir none b_leap_days_before 1
def b_year_start : PV.Env → SRes := (sSeq (sDrop (dCallF 1 m_need_numbers [] (dCons (dSeq .lst (dCons (dV 0) dNil)) dNil)))
  (sRet (dOp gSub (dOp gAdd (dOp gMul (dC (.int 365)) (dOp gSub (dV 0) (dC (.int 2000)))) (dCallF 1 m_leap_days_before [] (dCons (dV 0) dNil))) (dCallF 1 m_leap_days_before [] (dCons (dC (.int 2000)) dNil)))))
def m_year_start : Mir := fnMir none b_year_start 1
def b_day_before_month : PV.Env → SRes := (sRet (dOp gAdd (dOp gIx (dC (.tup t_BEFORE_MONTHS)) (dOp gSub (dV 0) (dC (.int 1)))) (dCall gInt (dCons (dAndV (dV 1) (dOp gGt (dV 0) (dC (.int 2)))) dNil))))
def m_day_before_month : Mir := fnMir none b_day_before_month 2
def b_has_leap_day : PV.Env → SRes := (sRet (dAndV (dOp (gEq false) (dOp gMod (dV 0) (dC (.int 4))) (dC (.int 0))) (dOrV (dOp (gEq true) (dOp gMod (dV 0) (dC (.int 100))) (dC (.int 0))) (dOp (gEq false) (dOp gMod (dV 0) (dC (.int 400))) (dC (.int 0))))))
def m_has_leap_day : Mir := fnMir none b_has_leap_day 1
noncomputable def b_date_of : PV.Env → SRes := (sSeq (sDrop (dCallF 1 m_need_numbers [] (dCons (dSeq .lst (dCons (dV 0) dNil)) dNil)))
  (sSeq (sSet 1 (dOp gAdd (dOp gAdd (dC (.int 2000)) (dOp gMul (dC (.int 400)) (dOp gDiv (dV 0) (dC (.int 146097))))) (dOp gDiv (dOp gMod (dV 0) (dC (.int 146097))) (dC (.int 366)))))
  (sSeq (sWhile (dTst (dOp gLe (dCallF 1 m_year_start [] (dCons (dOp gAdd (dV 1) (dC (.int 1))) dNil)) (dV 0)))
   (sSet 1 (dOp gAdd (dV 1) (dC (.int 1)))))
  (sSeq (sPar [2, 3] (dCons (dOp gSub (dV 0) (dCallF 1 m_year_start [] (dCons (dV 1) dNil))) (dCons (dC (.int 1)) dNil)))
  (sSeq (sWhile (dTst (dOp gLe (dCallF 2 m_day_before_month [] (dCons (dOp gAdd (dV 3) (dC (.int 1))) (dCons (dCallF 1 m_has_leap_day [] (dCons (dV 1) dNil)) dNil))) (dV 2)))
   (sSet 3 (dOp gAdd (dV 3) (dC (.int 1)))))
  (sRet (dSeq .tup (dCons (dV 1) (dCons (dV 3) (dCons (dOp gAdd (dOp gSub (dV 2) (dCallF 2 m_day_before_month [] (dCons (dV 3) (dCons (dCallF 1 m_has_leap_day [] (dCons (dV 1) dNil)) dNil)))) (dC (.int 1))) dNil))))))))))
noncomputable def m_date_of : Mir := fnMir none b_date_of 4
def b_weekday : PV.Env → SRes := (sSeq (sDrop (dCallF 1 m_need_numbers [] (dCons (dSeq .lst (dCons (dV 0) dNil)) dNil)))
  (sRet (dOp gMod (dOp gAdd (dV 0) (dC (.int 5))) (dC (.int 7)))))
def m_weekday : Mir := fnMir none b_weekday 1
noncomputable def b_week_of : PV.Env → SRes := (sSeq (sDrop (dCallF 1 m_need_numbers [] (dCons (dSeq .lst (dCons (dV 0) dNil)) dNil)))
  (sSeq (sSet 1 (dOp gAdd (dOp gSub (dV 0) (dCallF 1 m_weekday [] (dCons (dV 0) dNil))) (dC (.int 3))))
  (sSeq (sSet 2 (dOp gIx (dCallF 1 m_date_of [] (dCons (dV 1) dNil)) (dC (.int 0))))
  (sRet (dSeq .tup (dCons (dV 2) (dCons (dOp gAdd (dOp gDiv (dOp gSub (dV 1) (dCallF 1 m_year_start [] (dCons (dV 2) dNil))) (dC (.int 7))) (dC (.int 1))) (dCons (dOp gAdd (dCallF 1 m_weekday [] (dCons (dV 0) dNil)) (dC (.int 1))) dNil))))))))
noncomputable def m_week_of : Mir := fnMir none b_week_of 3
def b_day_of : PV.Env → SRes := (sSeq (sDrop (dCallF 1 m_need_numbers [] (dCons (dSeq .lst (dCons (dV 0) (dCons (dV 1) (dCons (dV 2) dNil)))) dNil)))
  (sSeq (sIf (dOr (dNot (dTst (dChain gLe gLe (dC (.int 1)) (dV 1) (dC (.int 12))))) (dTst (dOp gLt (dV 2) (dC (.int 1)))))
   sBad
   sNext)
  (sSeq (sSet 3 (dCallF 2 m_day_before_month [] (dCons (dV 1) (dCons (dCallF 1 m_has_leap_day [] (dCons (dV 0) dNil)) dNil))))
  (sSeq (sIf (dTst (dOp gGt (dV 2) (dOp gSub (dCallF 2 m_day_before_month [] (dCons (dOp gAdd (dV 1) (dC (.int 1))) (dCons (dCallF 1 m_has_leap_day [] (dCons (dV 0) dNil)) dNil))) (dV 3))))
   sBad
   sNext)
  (sRet (dOp gSub (dOp gAdd (dOp gAdd (dCallF 1 m_year_start [] (dCons (dV 0) dNil)) (dV 3)) (dV 2)) (dC (.int 1))))))))
def m_day_of : Mir := fnMir none b_day_of 4
noncomputable def b__law_day_right : PV.Env → SRes := (sSeq (sIf (dOr (dTst (dOp (gEq true) (dCall gRepr (dCons (dCallF 1 m_date_of [] (dCons (dV 0) dNil)) dNil)) (dCall gRepr (dCons (dV 1) dNil)))) (dTst (dOp (gEq true) (dCall gRepr (dCons (dCallF 3 m_day_of [] (dCons (dOp gIx (dV 1) (dC (.int 0))) (dCons (dOp gIx (dV 1) (dC (.int 1))) (dCons (dOp gIx (dV 1) (dC (.int 2))) dNil)))) dNil)) (dCall gRepr (dCons (dV 0) dNil)))))
   (sRet (dC (.bl false)))
   sNext)
  (sSeq (sIf (dOr (dTst (dOp (gEq true) (dCall gRepr (dCons (dCallF 1 m_weekday [] (dCons (dV 0) dNil)) dNil)) (dCall gRepr (dCons (dV 2) dNil)))) (dTst (dOp (gEq true) (dCall gRepr (dCons (dCallF 1 m_week_of [] (dCons (dV 0) dNil)) dNil)) (dCall gRepr (dCons (dOp gAdd (dV 3) (dSeq .tup (dCons (dOp gAdd (dV 2) (dC (.int 1))) dNil))) dNil)))))
   (sRet (dC (.bl false)))
   sNext)
  (sSeq (sIf (dOr (dAnd (dTst (dOp (gEq false) (dSl (dV 1) (dPart (dC (.int 1))) dNo) (dSeq .tup (dCons (dC (.int 1)) (dCons (dC (.int 1)) dNil))))) (dTst (dOp (gEq true) (dCallF 1 m_year_start [] (dCons (dOp gIx (dV 1) (dC (.int 0))) dNil)) (dV 0)))) (dAnd (dTst (dOp (gEq false) (dSl (dV 1) (dPart (dC (.int 1))) dNo) (dSeq .tup (dCons (dC (.int 1)) (dCons (dC (.int 4)) dNil))))) (dTst (dOp (gEq true) (dV 3) (dSeq .tup (dCons (dOp gIx (dV 1) (dC (.int 0))) (dCons (dC (.int 1)) dNil)))))))
   (sRet (dC (.bl false)))
   sNext)
  (sRet (dOp gInR (dOp gIx (dCallK 1 0 1 [0] m_week_of dNil (dCons (dV 0) dNil)) (dC (.int 1))) (dCall gRng (dCons (dC (.int 1)) (dCons (dC (.int 54)) dNil))))))))
noncomputable def m__law_day_right : Mir := fnMir none b__law_day_right 4
def b__law_is_long : PV.Env → SRes := (sRet (dOrV (dOp (gEq false) (dOp gMod (dCall gInt (dCons (dV 0) dNil)) (dC (.int 400))) (dC (.int 0))) (dAndV (dOp (gEq false) (dOp gMod (dCall gInt (dCons (dV 0) dNil)) (dC (.int 4))) (dC (.int 0))) (dOp (gEq true) (dOp gMod (dCall gInt (dCons (dV 0) dNil)) (dC (.int 100))) (dC (.int 0))))))
def m__law_is_long : Mir := fnMir none b__law_is_long 1
def b__law_size : PV.Env → SRes := (sRet (dOp gIx (dSeq .lst (dCons (dC (.int 31)) (dCons (dIf (dTru (dCallF 1 m__law_is_long [] (dCons (dV 0) dNil))) (dC (.int 29)) (dC (.int 28))) (dCons (dC (.int 31)) (dCons (dC (.int 30)) (dCons (dC (.int 31)) (dCons (dC (.int 30)) (dCons (dC (.int 31)) (dCons (dC (.int 31)) (dCons (dC (.int 30)) (dCons (dC (.int 31)) (dCons (dC (.int 30)) (dCons (dC (.int 31)) dNil))))))))))))) (dOp gSub (dV 1) (dC (.int 1)))))
def m__law_size : Mir := fnMir none b__law_size 2
def b__law_next_date : PV.Env → SRes := (sSeq (sAsg (tgT [1, 2, 3]) (dV 0))
  (sSeq (sIf (dTst (dOp gLt (dV 3) (dCallF 2 m__law_size [] (dCons (dV 1) (dCons (dV 2) dNil)))))
   (sRet (dSeq .tup (dCons (dV 1) (dCons (dV 2) (dCons (dOp gAdd (dV 3) (dC (.int 1))) dNil)))))
   sNext)
  (sRet (dIf (dTst (dOp gLt (dV 2) (dC (.int 12)))) (dSeq .tup (dCons (dV 1) (dCons (dOp gAdd (dV 2) (dC (.int 1))) (dCons (dC (.int 1)) dNil)))) (dSeq .tup (dCons (dOp gAdd (dV 1) (dC (.int 1))) (dCons (dC (.int 1)) (dCons (dC (.int 1)) dNil))))))))
def m__law_next_date : Mir := fnMir none b__law_next_date 4
def b__law_next_week : PV.Env → SRes := (sSeq (sSet 2 (dCallF 1 m__law_next_date [] (dCons (dCallF 1 m__law_next_date [] (dCons (dCallF 1 m__law_next_date [] (dCons (dV 1) dNil)) dNil)) dNil)))
  (sRet (dIf (dTst (dOp (gEq true) (dOp gIx (dV 2) (dC (.int 0))) (dOp gIx (dV 0) (dC (.int 0))))) (dSeq .tup (dCons (dOp gIx (dV 2) (dC (.int 0))) (dCons (dC (.int 1)) dNil))) (dSeq .tup (dCons (dOp gIx (dV 0) (dC (.int 0))) (dCons (dOp gAdd (dOp gIx (dV 0) (dC (.int 1))) (dC (.int 1))) dNil))))))
def m__law_next_week : Mir := fnMir none b__law_next_week 3
noncomputable def b_law : PV.Env → SRes := (sSeq (dSetF 1 1 m__law_begun (dCons (dV 0) dNil))
  (sSeq (sFor (iCall gRange1 (dCons (dOp gAdd (dC (.int 1)) (dCall gMin (dCons (dCall gLen (dCons (dV 0) dNil)) (dCons (dC (.int 3)) dNil)))) dNil)) (tgN 2)
   (sSeq (sPar [3, 4] (dCons (dCallS 1 1 0 m__law_some_year (dHere 1 dNil)) (dCons (dCallS 2 1 0 m__law_pick (dHere 1 (dCons (dSeq .lst (dCons (dC (.int 1)) (dCons (dC (.int 2)) (dCons (dC (.int 11)) (dCons (dC (.int 12)) (dCons (dC (.int 12)) (dCons (dOp gAdd (dC (.int 1)) (dCallS 2 1 0 m__law_take (dHere 1 (dCons (dC (.int 12)) dNil)))) dNil))))))) dNil))) dNil)))
  (sSeq (sSet 5 (dSeq .tup (dCons (dV 3) (dCons (dV 4) (dCons (dOp gAdd (dC (.int 1)) (dCallS 2 1 0 m__law_take (dHere 1 (dCons (dCallF 2 m__law_size [] (dCons (dV 3) (dCons (dV 4) dNil))) dNil)))) dNil)))))
  (sSeq (sSet 6 (dOp gSub (dOp gAdd (dCallF 2 m__law_month [] (dCons (dV 3) (dCons (dV 4) dNil))) (dOp gIx (dV 5) (dC (.int 2)))) (dC (.int 1))))
  (sSeq (sSet 7 (dOp gMod (dCall gInt (dCons (dOp gAdd (dV 6) (dC (.int 5))) dNil)) (dC (.int 7))))
  (sSeq (sSet 8 (dCallF 2 m__law_first_week [] (dCons (dV 5) (dCons (dV 7) dNil))))
  (sFor (iCall gRange1 (dCons (dCallS 2 1 0 m__law_pick (dHere 1 (dCons (dSeq .lst (dCons (dC (.int 60)) (dCons (dC (.int 100)) (dCons (dC (.int 400)) (dCons (dC (.int 800)) dNil))))) dNil))) dNil)) (tgN 9)
   (sSeq (sIf (dNot (dTru (dCallF 4 m__law_day_right [] (dCons (dV 6) (dCons (dV 5) (dCons (dV 7) (dCons (dV 8) dNil)))))))
   (sRet (dC (.bl false)))
   sNext)
  (sSeq (sPar [6, 5, 7] (dCons (dOp gAdd (dV 6) (dC (.int 1))) (dCons (dCallF 1 m__law_next_date [] (dCons (dV 5) dNil)) (dCons (dOp gMod (dCall gInt (dCons (dOp gAdd (dV 7) (dC (.int 1))) dNil)) (dC (.int 7))) dNil))))
  (sIf (dTst (dOp (gEq false) (dV 7) (dC (.int 0))))
   (sSet 8 (dCallF 2 m__law_next_week [] (dCons (dV 8) (dCons (dV 5) dNil))))
   sNext))))))))))
  (sRet (dC (.bl true)))))
noncomputable def m_law : Mir := fnMir none b_law 10
section
variable {P : Program} {w : World} {K : PySem.W.Frag} {mg : Str → Option Value} {base : Heap}
abbrev OkF (P : Program) (w : World) (K : PySem.W.Frag) (mg : Str → Option Value) (base : Heap) (d : He.DefD) (ps : List Str) (k : Nat) (io : Option Nat) (M : Mir) : Prop := ∃ fd, FunD K d.name d.qual d.params d.body d.scope (d.dvs K) (d.kws K) (He.fAd K d.at_) fd ∧ Ok P w K mg base d.name ps k io M fd
theorem ok__law_begun (G : Gm K mg) : OkF P w K mg base d__law_begun ["script"] 1 none m__law_begun := by
  obtain ⟨_, _, _, cc, _⟩ := G.ex
  obtain ⟨fd, Fd⟩ := cc.def_ 0 (d := d__law_begun) rfl
  refine ⟨fd, Fd, Fd.kp, G.glo (by decide), Fd.bindsN fun _ _ _ _ _ _ us hl => match us, hl with | [_], _ => rfl, ?_⟩
  have sc := sc__law_begun
  refine begun_ok (N := N__law_begun) (k := 0) Fd sc rfl (by decide) b1__law_begun b2__law_begun fw fc (fun cdv A outer s H E c hg hr hc => ?_) (fun ns hz => b1_eq ns hz) (fun ns hz => b2_eq ns hz)
  exact (pss_cons (ds_setLc (i := 1) rfl sc.nd rfl rfl (at_ne hc (by decide)) rfl (own := [("cell", 2)]) (at_all hc (by decide)) (di_list (de_var 0 (pv 0))) (show BlkOk N__law_begun (defScope s__law_begun) _ _ from ⟨rfl, by decide +kernel, by decide +kernel, by decide +kernel, by decide +kernel⟩) (fun _ _ _ _ _ => (pg_name (i := 2) sc.nd rfl (by first | exact Or.inl rfl | exact Or.inr rfl))) (tg_name 2) (fun _ _ _ _ _ _ hc1 => (dts_one (dt_cmp op_ge (opd_cmp _) (de_callB call_abs cd_abs rfl (G.free (x := "abs") (by decide)) bt_abs (da_cons (de_var 2 (pv 2)) da_nil)) (de_pow de_int de_int) (nomark _)))) (fun _ _ _ _ _ _ hc1 => (de_sub (de_callB call_abs cd_abs rfl (G.free (x := "abs") (by decide)) bt_abs (da_cons (de_var 2 (pv 2)) da_nil)) (de_pow de_int de_int)))) (pss_one (ps_ret (pe_disp (pps_cons pe_str (pv 1) (pps_cons pe_str (de_ex fun c' hc => (de_lc rfl sc.nd (own := [("cell", 2)]) (at_all hc (by decide)) (di_list (de_var 0 (pv 0))) (show BlkOk N__law_begun (defScope s__law_begun) _ _ from ⟨rfl, by decide +kernel, by decide +kernel, by decide +kernel, by decide +kernel⟩) (fun _ _ _ _ _ => (pg_name (i := 2) sc.nd rfl (by first | exact Or.inl rfl | exact Or.inr rfl))) (tg_name 2) (fun _ _ _ _ _ _ hc1 => dts_nil) (fun _ _ _ _ _ _ hc1 => (de_mod (de_callT call_int1 cd_int rfl (G.free (x := "int") (by decide)) bt_int (da_cons (de_callB call_abs cd_abs rfl (G.free (x := "abs") (by decide)) bt_abs (da_cons (de_var 2 (pv 2)) da_nil)) da_nil)) de_int)))) (pps_cons pe_str pe_int (pps_cons pe_str pe_int pps_nil)))) rfl rfl (by intro h; cases h) (by decide)))))
theorem ok__law_new_year (G : Gm K mg) : OkF P w K mg base d__law_new_year ["year"] 1 none m__law_new_year := by
  obtain ⟨_, _, _, cc, _⟩ := G.ex
  obtain ⟨fd, Fd⟩ := cc.def_ 1 (d := d__law_new_year) rfl
  refine ⟨fd, Fd, Fd.kp, G.glo (by decide), Fd.bindsN fun _ _ _ _ _ _ us hl => match us, hl with | [_], _ => rfl, ?_⟩
  have sc := sc__law_new_year
  refine fnA_mir (N := N__law_new_year) (ps := ["year"]) (k := 0) Fd sc none (by intro j hj; cases hj <;> decide) (by decide) b__law_new_year fun cdv A outer s H E c hg hr hc => ?_
  exact (dss_cons (ds_set (i := 1) (at_ne hc (by decide)) sc.nd rfl (by first | exact Or.inl rfl | exact Or.inr rfl) (de_sub (de_var 0 (pv 0)) de_int))
  (dss_one (ds_ret (de_add (de_sub (de_add (de_mul de_int (de_var 1 (pv 1))) (de_div (de_add (de_var 1 (pv 1)) de_int) de_int)) (de_div (de_add (de_var 1 (pv 1)) de_int) de_int)) (de_div (de_add (de_var 1 (pv 1)) de_int) de_int)))))
theorem ok__law_month (G : Gm K mg) : OkF P w K mg base d__law_month ["year", "month"] 2 none m__law_month := by
  obtain ⟨_, _, _, cc, _⟩ := G.ex
  obtain ⟨fd, Fd⟩ := cc.def_ 2 (d := d__law_month) rfl
  obtain ⟨_, F__law_new_year, o__law_new_year⟩ := ok__law_new_year (P := P) (w := w) (base := base) G
  refine ⟨fd, Fd, Fd.kp, G.glo (by decide), Fd.bindsN fun _ _ _ _ _ _ us hl => match us, hl with | [_,_], _ => rfl, ?_⟩
  have sc := sc__law_month
  refine fnA_mir (N := N__law_month) (ps := ["year", "month"]) (k := 1) Fd sc none (by intro j hj; cases hj <;> decide) (by decide) b__law_month fun cdv A outer s H E c hg hr hc => ?_
  exact (dss_cons (ds_set (i := 2) (at_ne hc (by decide)) sc.nd rfl (by first | exact Or.inl rfl | exact Or.inr rfl) (de_sub (de_sub (de_callO rfl o__law_new_year hg hr (by decide) rfl (da_cons (de_add (de_var 0 (pv 0)) de_int) da_nil)) (de_callO rfl o__law_new_year hg hr (by decide) rfl (da_cons (de_var 0 (pv 0)) da_nil))) de_int))
  (dss_cons (ds_set (i := 3) (at_ne hc (by decide)) sc.nd rfl (by first | exact Or.inl rfl | exact Or.inr rfl) (de_lst (da_cons de_int (da_cons (de_add de_int (de_var 2 (pv 2))) (da_cons de_int (da_cons de_int (da_cons de_int (da_cons de_int (da_cons de_int (da_cons de_int (da_cons de_int (da_cons de_int (da_cons de_int (da_cons de_int da_nil))))))))))))))
  (dss_one (ds_ret (de_add (de_callO rfl o__law_new_year hg hr (by decide) rfl (da_cons (de_var 0 (pv 0)) da_nil)) (de_callB (cr_sum rfl) cd_sum rfl (G.free (x := "sum") (by decide)) bt_sum (da_cons (de_sl (de_var 3 (pv 3)) do_none (do_some (de_sub (de_var 1 (pv 1)) de_int))) da_nil)))))))
theorem ok__law_first_week (G : Gm K mg) : OkF P w K mg base d__law_first_week ["date", "number"] 3 none m__law_first_week := by
  obtain ⟨_, _, _, cc, _⟩ := G.ex
  obtain ⟨fd, Fd⟩ := cc.def_ 3 (d := d__law_first_week) rfl
  obtain ⟨_, F__law_new_year, o__law_new_year⟩ := ok__law_new_year (P := P) (w := w) (base := base) G
  obtain ⟨_, F__law_month, o__law_month⟩ := ok__law_month (P := P) (w := w) (base := base) G
  refine ⟨fd, Fd, Fd.kp, G.glo (by decide), Fd.bindsN fun _ _ _ _ _ _ us hl => match us, hl with | [_,_], _ => rfl, ?_⟩
  have sc := sc__law_first_week
  refine fnA_mir (N := N__law_first_week) (ps := ["date", "number"]) (k := 2) Fd sc none (by intro j hj; cases hj <;> decide) (by decide) b__law_first_week fun cdv A outer s H E c hg hr hc => ?_
  exact (dss_cons (ds_asg (at_all hc (by decide)) (de_var 0 (pv 0)) (pg_tup rfl (pgs_cons (pg_name (i := 2) sc.nd rfl (by first | exact Or.inl rfl | exact Or.inr rfl)) (pgs_cons (pg_name (i := 3) sc.nd rfl (by first | exact Or.inl rfl | exact Or.inr rfl)) (pgs_cons (pg_name (i := 4) sc.nd rfl (by first | exact Or.inl rfl | exact Or.inr rfl)) pgs_nil)))) (tg_tup [2, 3, 4]))
  (dss_cons (ds_set (i := 5) (at_ne hc (by decide)) sc.nd rfl (by first | exact Or.inl rfl | exact Or.inr rfl) (de_callO rfl o__law_new_year hg hr (by decide) rfl (da_cons (de_var 2 (pv 2)) da_nil)))
  (dss_cons (ds_set (i := 6) (at_ne hc (by decide)) sc.nd rfl (by first | exact Or.inl rfl | exact Or.inr rfl) (de_sub (de_sub (de_add (de_callO rfl o__law_month hg hr (by decide) rfl (da_cons (de_var 2 (pv 2)) (da_cons (de_var 3 (pv 3)) da_nil))) (de_var 4 (pv 4))) de_int) (de_var 1 (pv 1))))
  (dss_cons (ds_for (passes_of rfl) rfl (at_all hc (by decide)) (di_list (de_lst (da_cons (de_add (de_var 2 (pv 2)) de_int) (da_cons (de_var 2 (pv 2)) (da_cons (de_sub (de_var 2 (pv 2)) de_int) da_nil))))) (pg_name (i := 7) sc.nd rfl (by first | exact Or.inl rfl | exact Or.inr rfl)) (tg_name 7)
   (dss_cons (ds_set (i := 8) (at_ne hc (by decide)) sc.nd rfl (by first | exact Or.inl rfl | exact Or.inr rfl) (de_add (de_callO rfl o__law_new_year hg hr (by decide) rfl (da_cons (de_var 7 (pv 7)) da_nil)) de_int))
  (dss_cons (ds_set (i := 9) (at_ne hc (by decide)) sc.nd rfl (by first | exact Or.inl rfl | exact Or.inr rfl) (de_sub (de_var 8 (pv 8)) (de_mod (de_callT call_int1 cd_int rfl (G.free (x := "int") (by decide)) bt_int (da_cons (de_add (de_var 8 (pv 8)) de_int) da_nil)) de_int)))
  (dss_one (ds_if (dt_cmp op_ge (opd_cmp _) (de_var 6 (pv 6)) (de_var 9 (pv 9)) (nomark _))
   (dss_one (ds_ret (de_tup (da_cons (de_var 7 (pv 7)) (da_cons (de_add (de_div (de_sub (de_var 6 (pv 6)) (de_var 9 (pv 9))) de_int) de_int) da_nil)))))
   dss_nil)))))
  (dss_one (ds_ret (de_tup (da_cons (de_var 2 (pv 2)) (da_cons (de_var 5 (pv 5)) da_nil)))))))))
theorem ok__law_mixed (G : Gm K mg) : OkF P w K mg base d__law_mixed ["state"] 1 (some 0) m__law_mixed := by
  obtain ⟨_, _, _, cc, _⟩ := G.ex
  obtain ⟨fd, Fd⟩ := cc.def_ 4 (d := d__law_mixed) rfl
  refine ⟨fd, Fd, Fd.kp, G.glo (by decide), Fd.bindsN fun _ _ _ _ _ _ us hl => match us, hl with | [_], _ => rfl, ?_⟩
  have sc := sc__law_mixed
  refine fnA_mir (N := N__law_mixed) (ps := ["state"]) (k := 0) Fd sc (some 0) (by intro j hj; cases hj <;> decide) (by decide) b__law_mixed fun cdv A outer s H E c hg hr hc => ?_
  exact (dss_cons (ds_par (i := 1) (j := 2) (at_ne hc (by decide)) (at_ne hc (by decide)) rfl sc.nd rfl rfl (by decide) rfl rfl (da_cons (de_add (de_stI .turn (rm1 hr) (pv 0)) de_int) (da_cons de_int da_nil)) rfl)
  (dss_cons (ds_stPut .turn (rm1 hr) (pv 0) (de_var 1 (pv 1)))
  (dss_cons (ds_for (passes_of rfl) rfl (at_all hc (by decide)) (di_list (de_lst (da_cons de_int (da_cons de_int (da_cons de_int (da_cons de_int da_nil)))))) (pg_name (i := 3) sc.nd rfl (by first | exact Or.inl rfl | exact Or.inr rfl)) (tg_name 3)
   (dss_cons (ds_set (i := 4) (at_ne hc (by decide)) sc.nd rfl (by first | exact Or.inl rfl | exact Or.inr rfl) (de_add (de_mul de_int (de_var 1 (pv 1))) (de_div (de_var 3 (pv 3)) de_int)))
  (dss_cons (ds_for (passes_of rfl) rfl (at_all hc (by decide)) (di_stC (rm1 hr) (pv 0)) (pg_name (i := 5) sc.nd rfl (by first | exact Or.inl rfl | exact Or.inr rfl)) (tg_name 5)
   (dss_one (ds_set (i := 4) (at_ne hc (by decide)) sc.nd rfl (by first | exact Or.inl rfl | exact Or.inr rfl) (de_mod (de_callT call_int1 cd_int rfl (G.free (x := "int") (by decide)) bt_int (da_cons (de_add (de_add (de_mul (de_var 4 (pv 4)) de_int) (de_var 5 (pv 5))) (de_var 1 (pv 1))) da_nil)) (de_var 3 (pv 3))))))
  (dss_one (ds_set (i := 2) (at_ne hc (by decide)) sc.nd rfl (by first | exact Or.inl rfl | exact Or.inr rfl) (de_add (de_mul (de_var 2 (pv 2)) de_int) (de_mod (de_callT call_int1 cd_int rfl (G.free (x := "int") (by decide)) bt_int (da_cons (de_pow (de_var 4 (pv 4)) de_int) da_nil)) (de_var 3 (pv 3)))))))))
  (dss_one (ds_ret (de_var 2 (pv 2)))))))
theorem ok__law_take (G : Gm K mg) : OkF P w K mg base d__law_take ["state", "size"] 2 (some 0) m__law_take := by
  obtain ⟨_, _, _, cc, _⟩ := G.ex
  obtain ⟨fd, Fd⟩ := cc.def_ 5 (d := d__law_take) rfl
  obtain ⟨_, F__law_mixed, o__law_mixed⟩ := ok__law_mixed (P := P) (w := w) (base := base) G
  refine ⟨fd, Fd, Fd.kp, G.glo (by decide), Fd.bindsN fun _ _ _ _ _ _ us hl => match us, hl with | [_,_], _ => rfl, ?_⟩
  have sc := sc__law_take
  refine fnA_mir (N := N__law_take) (ps := ["state", "size"]) (k := 1) Fd sc (some 0) (by intro j hj; cases hj <;> decide) (by decide) b__law_take fun cdv A outer s H E c hg hr hc => ?_
  exact (dss_cons (ds_if (dt_cmp (opr_eq hr.units) opd_eq (de_stI .rest (rm1 hr) (pv 0)) de_int (nomark _))
   (dss_one (ds_stPut .rest (rm1 hr) (pv 0) (de_if (dt_stW hr.units (pv 0)) (de_stPop (rm1 hr) (pv 0)) (de_callOS rfl o__law_mixed (by decide) hg hr (by decide) rfl (das_here (pv 0) da_nil)))))
   dss_nil)
  (dss_cons (ds_set (i := 2) (at_ne hc (by decide)) sc.nd rfl (by first | exact Or.inl rfl | exact Or.inr rfl) (de_mod (de_callT call_int1 cd_int rfl (G.free (x := "int") (by decide)) bt_int (da_cons (de_stI .rest (rm1 hr) (pv 0)) da_nil)) (de_var 1 (pv 1))))
  (dss_cons (ds_stPut .rest (rm1 hr) (pv 0) (de_div (de_stI .rest (rm1 hr) (pv 0)) (de_var 1 (pv 1))))
  (dss_one (ds_ret (de_var 2 (pv 2)))))))
theorem ok__law_some_year (G : Gm K mg) : OkF P w K mg base d__law_some_year ["state"] 3 (some 0) m__law_some_year := by
  obtain ⟨_, _, _, cc, _⟩ := G.ex
  obtain ⟨fd, Fd⟩ := cc.def_ 6 (d := d__law_some_year) rfl
  obtain ⟨_, F__law_take, o__law_take⟩ := ok__law_take (P := P) (w := w) (base := base) G
  refine ⟨fd, Fd, Fd.kp, G.glo (by decide), Fd.bindsN fun _ _ _ _ _ _ us hl => match us, hl with | [_], _ => rfl, ?_⟩
  have sc := sc__law_some_year
  refine fnA_mir (N := N__law_some_year) (ps := ["state"]) (k := 2) Fd sc (some 0) (by intro j hj; cases hj <;> decide) (by decide) b__law_some_year fun cdv A outer s H E c hg hr hc => ?_
  exact (dss_cons (ds_set (i := 1) (at_ne hc (by decide)) sc.nd rfl (by first | exact Or.inl rfl | exact Or.inr rfl) de_int)
  (dss_cons (ds_for (passes_of rfl) rfl (at_all hc (by decide)) (di_range1 rfl (G.free (x := "range") (by decide)) (da_cons de_int da_nil)) (pg_name (i := 2) sc.nd rfl (by first | exact Or.inl rfl | exact Or.inr rfl)) (tg_name 2)
   (dss_one (ds_set (i := 1) (at_ne hc (by decide)) sc.nd rfl (by first | exact Or.inl rfl | exact Or.inr rfl) (de_add (de_mul (de_var 1 (pv 1)) (de_pow de_int de_int)) (de_callOS rfl o__law_take (by decide) hg hr (by decide) rfl (das_here (pv 0) (da_cons (de_pow de_int de_int) da_nil)))))))
  (dss_cons (ds_set (i := 3) (at_ne hc (by decide)) sc.nd rfl (by first | exact Or.inl rfl | exact Or.inr rfl) (de_lst (da_cons (de_add de_int (de_callOS rfl o__law_take (by decide) hg hr (by decide) rfl (das_here (pv 0) (da_cons de_int da_nil)))) (da_cons (de_sub (de_add (de_mul de_int (de_sub (de_callOS rfl o__law_take (by decide) hg hr (by decide) rfl (das_here (pv 0) (da_cons de_int da_nil))) de_int)) (de_callOS rfl o__law_take (by decide) hg hr (by decide) rfl (das_here (pv 0) (da_cons de_int da_nil)))) de_int) da_nil))))
  (dss_cons (ds_set (i := 3) (at_ne hc (by decide)) sc.nd rfl (by first | exact Or.inl rfl | exact Or.inr rfl) (de_add (de_var 3 (pv 3)) (de_lst (da_cons (de_sub (de_add (de_mul de_int (de_sub (de_callOS rfl o__law_take (by decide) hg hr (by decide) rfl (das_here (pv 0) (da_cons (de_mul de_int (de_pow de_int de_int)) da_nil))) (de_pow de_int de_int))) (de_callOS rfl o__law_take (by decide) hg hr (by decide) rfl (das_here (pv 0) (da_cons de_int da_nil)))) de_int) (da_cons (de_var 1 (pv 1)) (da_cons (de_sub de_int (de_var 1 (pv 1))) da_nil))))))
  (dss_one (ds_ret (de_ix (de_var 3 (pv 3)) (de_callOS rfl o__law_take (by decide) hg hr (by decide) rfl (das_here (pv 0) (da_cons de_int da_nil))) (fun _ _ => rfl))))))))
theorem ok__law_pick (G : Gm K mg) : OkF P w K mg base d__law_pick ["state", "some"] 3 (some 0) m__law_pick := by
  obtain ⟨_, _, _, cc, _⟩ := G.ex
  obtain ⟨fd, Fd⟩ := cc.def_ 7 (d := d__law_pick) rfl
  obtain ⟨_, F__law_take, o__law_take⟩ := ok__law_take (P := P) (w := w) (base := base) G
  refine ⟨fd, Fd, Fd.kp, G.glo (by decide), Fd.bindsN fun _ _ _ _ _ _ us hl => match us, hl with | [_,_], _ => rfl, ?_⟩
  have sc := sc__law_pick
  refine fnA_mir (N := N__law_pick) (ps := ["state", "some"]) (k := 2) Fd sc (some 0) (by intro j hj; cases hj <;> decide) (by decide) b__law_pick fun cdv A outer s H E c hg hr hc => ?_
  exact (dss_one (ds_ret (de_ix (de_var 1 (pv 1)) (de_callOS rfl o__law_take (by decide) hg hr (by decide) rfl (das_here (pv 0) (da_cons (de_callB call_len cd_len rfl (G.free (x := "len") (by decide)) bt_len (da_cons (de_var 1 (pv 1)) da_nil)) da_nil))) (fun _ _ => rfl))))
theorem ok_is_number (G : Gm K mg) : OkF P w K mg base d_is_number ["value"] 1 none m_is_number := by
  obtain ⟨_, _, _, cc, _⟩ := G.ex
  obtain ⟨fd, Fd⟩ := cc.def_ 8 (d := d_is_number) rfl
  refine ⟨fd, Fd, Fd.kp, G.glo (by decide), Fd.bindsN fun _ _ _ _ _ _ us hl => match us, hl with | [_], _ => rfl, ?_⟩
  have sc := sc_is_number
  refine fnA_mir (N := N_is_number) (ps := ["value"]) (k := 0) Fd sc none (by intro j hj; cases hj <;> decide) (by decide) b_is_number fun cdv A outer s H E c hg hr hc => ?_
  exact (dss_one (ds_ret (de_and (de_isi rfl (G.free (x := "isinstance") (by decide)) rfl (G.free (x := "int") (by decide)) bt_int (de_var 0 (pv 0))) (de_one (de_not (de_isi rfl (G.free (x := "isinstance") (by decide)) rfl (G.free (x := "bool") (by decide)) bt_bool (de_var 0 (pv 0))))))))
theorem ok_need_numbers (G : Gm K mg) : OkF P w K mg base d_need_numbers ["values"] 2 none m_need_numbers := by
  obtain ⟨_, _, _, cc, _⟩ := G.ex
  obtain ⟨fd, Fd⟩ := cc.def_ 9 (d := d_need_numbers) rfl
  obtain ⟨_, F_is_number, o_is_number⟩ := ok_is_number (P := P) (w := w) (base := base) G
  refine ⟨fd, Fd, Fd.kp, G.glo (by decide), Fd.bindsN fun _ _ _ _ _ _ us hl => match us, hl with | [_], _ => rfl, ?_⟩
  have sc := sc_need_numbers
  refine fnA_mir (N := N_need_numbers) (ps := ["values"]) (k := 1) Fd sc none (by intro j hj; cases hj <;> decide) (by decide) b_need_numbers fun cdv A outer s H E c hg hr hc => ?_
  exact (dss_one (ds_for (passes_of rfl) rfl (at_all hc (by decide)) (di_list (de_var 0 (pv 0))) (pg_name (i := 1) sc.nd rfl (by first | exact Or.inl rfl | exact Or.inr rfl)) (tg_name 1)
   (dss_one (ds_if (dt_not (dt_tru (de_callO rfl o_is_number hg hr (by decide) rfl (da_cons (de_var 1 (pv 1)) da_nil))))
   (dss_one ds_never)
   dss_nil))))
theorem ok_leap_days_before (G : Gm K mg) : OkF P w K mg base d_leap_days_before ["year"] 1 none m_leap_days_before := by
  obtain ⟨_, _, _, cc, _⟩ := G.ex
  obtain ⟨fd, Fd⟩ := cc.def_ 10 (d := d_leap_days_before) rfl
  refine ⟨fd, Fd, Fd.kp, G.glo (by decide), Fd.bindsN fun _ _ _ _ _ _ us hl => match us, hl with | [_], _ => rfl, ?_⟩
  have sc := sc_leap_days_before
  refine fnA_mir (N := N_leap_days_before) (ps := ["year"]) (k := 0) Fd sc none (by intro j hj; cases hj <;> decide) (by decide) b_leap_days_before fun cdv A outer s H E c hg hr hc => ?_
  exact (dss_one (ds_ret (de_add (de_sub (de_div (de_sub (de_var 0 (pv 0)) de_int) de_int) (de_div (de_sub (de_var 0 (pv 0)) de_int) de_int)) (de_div (de_sub (de_var 0 (pv 0)) de_int) (de_gint rfl (G.int (x := "YEARS") (i := 400) (by decide)))))))
theorem ok_year_start (G : Gm K mg) : OkF P w K mg base d_year_start ["year"] 3 none m_year_start := by
  obtain ⟨_, _, _, cc, _⟩ := G.ex
  obtain ⟨fd, Fd⟩ := cc.def_ 11 (d := d_year_start) rfl
  obtain ⟨_, F_need_numbers, o_need_numbers⟩ := ok_need_numbers (P := P) (w := w) (base := base) G
  obtain ⟨_, F_leap_days_before, o_leap_days_before⟩ := ok_leap_days_before (P := P) (w := w) (base := base) G
  refine ⟨fd, Fd, Fd.kp, G.glo (by decide), Fd.bindsN fun _ _ _ _ _ _ us hl => match us, hl with | [_], _ => rfl, ?_⟩
  have sc := sc_year_start
  refine fnA_mir (N := N_year_start) (ps := ["year"]) (k := 2) Fd sc none (by intro j hj; cases hj <;> decide) (by decide) b_year_start fun cdv A outer s H E c hg hr hc => ?_
  exact (dss_cons (ds_expr (de_callO rfl o_need_numbers hg hr (by decide) rfl (da_cons (de_lst (da_cons (de_var 0 (pv 0)) da_nil)) da_nil)))
  (dss_one (ds_ret (de_sub (de_add (de_mul de_int (de_sub (de_var 0 (pv 0)) (de_gint rfl (G.int (x := "FIRST_YEAR") (i := 2000) (by decide))))) (de_callO rfl o_leap_days_before hg hr (by decide) rfl (da_cons (de_var 0 (pv 0)) da_nil))) (de_callO rfl o_leap_days_before hg hr (by decide) rfl (da_cons (de_gint rfl (G.int (x := "FIRST_YEAR") (i := 2000) (by decide))) da_nil))))))
theorem ok_day_before_month (G : Gm K mg) : OkF P w K mg base d_day_before_month ["month", "is_long"] 1 none m_day_before_month := by
  obtain ⟨_, _, _, cc, _⟩ := G.ex
  obtain ⟨fd, Fd⟩ := cc.def_ 12 (d := d_day_before_month) rfl
  refine ⟨fd, Fd, Fd.kp, G.glo (by decide), Fd.bindsN fun _ _ _ _ _ _ us hl => match us, hl with | [_,_], _ => rfl, ?_⟩
  have sc := sc_day_before_month
  refine fnA_mir (N := N_day_before_month) (ps := ["month", "is_long"]) (k := 0) Fd sc none (by intro j hj; cases hj <;> decide) (by decide) b_day_before_month fun cdv A outer s H E c hg hr hc => ?_
  exact (dss_one (ds_ret (de_add (de_ix (de_gtup rfl (G.ad_BEFORE_MONTHS) (G.tup_BEFORE_MONTHS) (fun _ _ => r_BEFORE_MONTHS)) (de_sub (de_var 0 (pv 0)) de_int) (fun _ _ => rfl)) (de_callT call_int1 cd_int rfl (G.free (x := "int") (by decide)) bt_int (da_cons (de_and (de_var 1 (pv 1)) (de_one (de_cmp op_gt (opd_cmp _) (de_var 0 (pv 0)) de_int (nomark _)))) da_nil)))))
theorem ok_has_leap_day (G : Gm K mg) : OkF P w K mg base d_has_leap_day ["year"] 1 none m_has_leap_day := by
  obtain ⟨_, _, _, cc, _⟩ := G.ex
  obtain ⟨fd, Fd⟩ := cc.def_ 13 (d := d_has_leap_day) rfl
  refine ⟨fd, Fd, Fd.kp, G.glo (by decide), Fd.bindsN fun _ _ _ _ _ _ us hl => match us, hl with | [_], _ => rfl, ?_⟩
  have sc := sc_has_leap_day
  refine fnA_mir (N := N_has_leap_day) (ps := ["year"]) (k := 0) Fd sc none (by intro j hj; cases hj <;> decide) (by decide) b_has_leap_day fun cdv A outer s H E c hg hr hc => ?_
  exact (dss_one (ds_ret (de_and (de_cmp (opr_eq hr.units) opd_eq (de_mod (de_var 0 (pv 0)) de_int) de_int (nomark _)) (de_one (de_or (de_cmp (opr_ne hr.units) opd_ne (de_mod (de_var 0 (pv 0)) de_int) de_int (nomark _)) (de_one (de_cmp (opr_eq hr.units) opd_eq (de_mod (de_var 0 (pv 0)) (de_gint rfl (G.int (x := "YEARS") (i := 400) (by decide)))) de_int (nomark _))))))))
theorem ok_date_of (G : Gm K mg) : OkF P w K mg base d_date_of ["day"] 4 none m_date_of := by
  obtain ⟨_, _, _, cc, _⟩ := G.ex
  obtain ⟨fd, Fd⟩ := cc.def_ 14 (d := d_date_of) rfl
  obtain ⟨_, F_need_numbers, o_need_numbers⟩ := ok_need_numbers (P := P) (w := w) (base := base) G
  obtain ⟨_, F_year_start, o_year_start⟩ := ok_year_start (P := P) (w := w) (base := base) G
  obtain ⟨_, F_has_leap_day, o_has_leap_day⟩ := ok_has_leap_day (P := P) (w := w) (base := base) G
  obtain ⟨_, F_day_before_month, o_day_before_month⟩ := ok_day_before_month (P := P) (w := w) (base := base) G
  refine ⟨fd, Fd, Fd.kp, G.glo (by decide), Fd.bindsN fun _ _ _ _ _ _ us hl => match us, hl with | [_], _ => rfl, ?_⟩
  have sc := sc_date_of
  refine fnA_mir (N := N_date_of) (ps := ["day"]) (k := 3) Fd sc none (by intro j hj; cases hj <;> decide) (by decide) b_date_of fun cdv A outer s H E c hg hr hc => ?_
  exact (dss_cons (ds_expr (de_callO rfl o_need_numbers hg hr (by decide) rfl (da_cons (de_lst (da_cons (de_var 0 (pv 0)) da_nil)) da_nil)))
  (dss_cons (ds_set (i := 1) (at_ne hc (by decide)) sc.nd rfl (by first | exact Or.inl rfl | exact Or.inr rfl) (de_add (de_add (de_gint rfl (G.int (x := "FIRST_YEAR") (i := 2000) (by decide))) (de_mul (de_gint rfl (G.int (x := "YEARS") (i := 400) (by decide))) (de_div (de_var 0 (pv 0)) (de_gint rfl (G.int (x := "DAYS") (i := 146097) (by decide)))))) (de_div (de_mod (de_var 0 (pv 0)) (de_gint rfl (G.int (x := "DAYS") (i := 146097) (by decide)))) de_int)))
  (dss_cons (ds_while (passes_of rfl) (dt_cmp op_le (opd_cmp _) (de_callO rfl o_year_start hg hr (by decide) rfl (da_cons (de_add (de_var 1 (pv 1)) de_int) da_nil)) (de_var 0 (pv 0)) (nomark _))
   (dss_one (ds_set (i := 1) (at_ne hc (by decide)) sc.nd rfl (by first | exact Or.inl rfl | exact Or.inr rfl) (de_add (de_var 1 (pv 1)) de_int))))
  (dss_cons (ds_par (i := 2) (j := 3) (at_ne hc (by decide)) (at_ne hc (by decide)) rfl sc.nd rfl rfl (by decide) rfl rfl (da_cons (de_sub (de_var 0 (pv 0)) (de_callO rfl o_year_start hg hr (by decide) rfl (da_cons (de_var 1 (pv 1)) da_nil))) (da_cons de_int da_nil)) rfl)
  (dss_cons (ds_while (passes_of rfl) (dt_cmp op_le (opd_cmp _) (de_callO rfl o_day_before_month hg hr (by decide) rfl (da_cons (de_add (de_var 3 (pv 3)) de_int) (da_cons (de_callO rfl o_has_leap_day hg hr (by decide) rfl (da_cons (de_var 1 (pv 1)) da_nil)) da_nil))) (de_var 2 (pv 2)) (nomark _))
   (dss_one (ds_set (i := 3) (at_ne hc (by decide)) sc.nd rfl (by first | exact Or.inl rfl | exact Or.inr rfl) (de_add (de_var 3 (pv 3)) de_int))))
  (dss_one (ds_ret (de_tup (da_cons (de_var 1 (pv 1)) (da_cons (de_var 3 (pv 3)) (da_cons (de_add (de_sub (de_var 2 (pv 2)) (de_callO rfl o_day_before_month hg hr (by decide) rfl (da_cons (de_var 3 (pv 3)) (da_cons (de_callO rfl o_has_leap_day hg hr (by decide) rfl (da_cons (de_var 1 (pv 1)) da_nil)) da_nil)))) de_int) da_nil)))))))))))
theorem ok_weekday (G : Gm K mg) : OkF P w K mg base d_weekday ["day"] 3 none m_weekday := by
  obtain ⟨_, _, _, cc, _⟩ := G.ex
  obtain ⟨fd, Fd⟩ := cc.def_ 15 (d := d_weekday) rfl
  obtain ⟨_, F_need_numbers, o_need_numbers⟩ := ok_need_numbers (P := P) (w := w) (base := base) G
  refine ⟨fd, Fd, Fd.kp, G.glo (by decide), Fd.bindsN fun _ _ _ _ _ _ us hl => match us, hl with | [_], _ => rfl, ?_⟩
  have sc := sc_weekday
  refine fnA_mir (N := N_weekday) (ps := ["day"]) (k := 2) Fd sc none (by intro j hj; cases hj <;> decide) (by decide) b_weekday fun cdv A outer s H E c hg hr hc => ?_
  exact (dss_cons (ds_expr (de_callO rfl o_need_numbers hg hr (by decide) rfl (da_cons (de_lst (da_cons (de_var 0 (pv 0)) da_nil)) da_nil)))
  (dss_one (ds_ret (de_mod (de_add (de_var 0 (pv 0)) (de_gint rfl (G.int (x := "FIRST_WEEKDAY") (i := 5) (by decide)))) (de_gint rfl (G.int (x := "WEEK") (i := 7) (by decide)))))))
theorem ok_week_of (G : Gm K mg) : OkF P w K mg base d_week_of ["day"] 5 none m_week_of := by
  obtain ⟨_, _, _, cc, _⟩ := G.ex
  obtain ⟨fd, Fd⟩ := cc.def_ 16 (d := d_week_of) rfl
  obtain ⟨_, F_need_numbers, o_need_numbers⟩ := ok_need_numbers (P := P) (w := w) (base := base) G
  obtain ⟨_, F_weekday, o_weekday⟩ := ok_weekday (P := P) (w := w) (base := base) G
  obtain ⟨_, F_date_of, o_date_of⟩ := ok_date_of (P := P) (w := w) (base := base) G
  obtain ⟨_, F_year_start, o_year_start⟩ := ok_year_start (P := P) (w := w) (base := base) G
  refine ⟨fd, Fd, Fd.kp, G.glo (by decide), Fd.bindsN fun _ _ _ _ _ _ us hl => match us, hl with | [_], _ => rfl, ?_⟩
  have sc := sc_week_of
  refine fnA_mir (N := N_week_of) (ps := ["day"]) (k := 4) Fd sc none (by intro j hj; cases hj <;> decide) (by decide) b_week_of fun cdv A outer s H E c hg hr hc => ?_
  exact (dss_cons (ds_expr (de_callO rfl o_need_numbers hg hr (by decide) rfl (da_cons (de_lst (da_cons (de_var 0 (pv 0)) da_nil)) da_nil)))
  (dss_cons (ds_set (i := 1) (at_ne hc (by decide)) sc.nd rfl (by first | exact Or.inl rfl | exact Or.inr rfl) (de_add (de_sub (de_var 0 (pv 0)) (de_callO rfl o_weekday hg hr (by decide) rfl (da_cons (de_var 0 (pv 0)) da_nil))) de_int))
  (dss_cons (ds_set (i := 2) (at_ne hc (by decide)) sc.nd rfl (by first | exact Or.inl rfl | exact Or.inr rfl) (de_ix (de_callO rfl o_date_of hg hr (by decide) rfl (da_cons (de_var 1 (pv 1)) da_nil)) de_int (fun _ _ => rfl)))
  (dss_one (ds_ret (de_tup (da_cons (de_var 2 (pv 2)) (da_cons (de_add (de_div (de_sub (de_var 1 (pv 1)) (de_callO rfl o_year_start hg hr (by decide) rfl (da_cons (de_var 2 (pv 2)) da_nil))) (de_gint rfl (G.int (x := "WEEK") (i := 7) (by decide)))) de_int) (da_cons (de_add (de_callO rfl o_weekday hg hr (by decide) rfl (da_cons (de_var 0 (pv 0)) da_nil)) de_int) da_nil)))))))))
theorem ok_day_of (G : Gm K mg) : OkF P w K mg base d_day_of ["year", "month", "day"] 4 none m_day_of := by
  obtain ⟨_, _, _, cc, _⟩ := G.ex
  obtain ⟨fd, Fd⟩ := cc.def_ 17 (d := d_day_of) rfl
  obtain ⟨_, F_need_numbers, o_need_numbers⟩ := ok_need_numbers (P := P) (w := w) (base := base) G
  obtain ⟨_, F_has_leap_day, o_has_leap_day⟩ := ok_has_leap_day (P := P) (w := w) (base := base) G
  obtain ⟨_, F_day_before_month, o_day_before_month⟩ := ok_day_before_month (P := P) (w := w) (base := base) G
  obtain ⟨_, F_year_start, o_year_start⟩ := ok_year_start (P := P) (w := w) (base := base) G
  refine ⟨fd, Fd, Fd.kp, G.glo (by decide), Fd.bindsN fun _ _ _ _ _ _ us hl => match us, hl with | [_,_,_], _ => rfl, ?_⟩
  have sc := sc_day_of
  refine fnA_mir (N := N_day_of) (ps := ["year", "month", "day"]) (k := 3) Fd sc none (by intro j hj; cases hj <;> decide) (by decide) b_day_of fun cdv A outer s H E c hg hr hc => ?_
  exact (dss_cons (ds_expr (de_callO rfl o_need_numbers hg hr (by decide) rfl (da_cons (de_lst (da_cons (de_var 0 (pv 0)) (da_cons (de_var 1 (pv 1)) (da_cons (de_var 2 (pv 2)) da_nil)))) da_nil)))
  (dss_cons (ds_if (dt_bool (dw_or (dt_not (dt_chain op_le (opd_cmp _) op_le (opd_cmp _) de_int (de_var 1 (pv 1)) de_int)) (dw_or1 (dt_cmp op_lt (opd_cmp _) (de_var 2 (pv 2)) de_int (nomark _)))))
   (dss_one ds_never)
   dss_nil)
  (dss_cons (ds_set (i := 3) (at_ne hc (by decide)) sc.nd rfl (by first | exact Or.inl rfl | exact Or.inr rfl) (de_callO rfl o_day_before_month hg hr (by decide) rfl (da_cons (de_var 1 (pv 1)) (da_cons (de_callO rfl o_has_leap_day hg hr (by decide) rfl (da_cons (de_var 0 (pv 0)) da_nil)) da_nil))))
  (dss_cons (ds_if (dt_cmp op_gt (opd_cmp _) (de_var 2 (pv 2)) (de_sub (de_callO rfl o_day_before_month hg hr (by decide) rfl (da_cons (de_add (de_var 1 (pv 1)) de_int) (da_cons (de_callO rfl o_has_leap_day hg hr (by decide) rfl (da_cons (de_var 0 (pv 0)) da_nil)) da_nil))) (de_var 3 (pv 3))) (nomark _))
   (dss_one ds_never)
   dss_nil)
  (dss_one (ds_ret (de_sub (de_add (de_add (de_callO rfl o_year_start hg hr (by decide) rfl (da_cons (de_var 0 (pv 0)) da_nil)) (de_var 3 (pv 3))) (de_var 2 (pv 2))) de_int)))))))
theorem ok__law_day_right (G : Gm K mg) : OkF P w K mg base d__law_day_right ["one_day", "date", "number", "week"] 6 none m__law_day_right := by
  obtain ⟨_, _, _, cc, _⟩ := G.ex
  obtain ⟨fd, Fd⟩ := cc.def_ 18 (d := d__law_day_right) rfl
  obtain ⟨_, F_date_of, o_date_of⟩ := ok_date_of (P := P) (w := w) (base := base) G
  obtain ⟨_, F_day_of, o_day_of⟩ := ok_day_of (P := P) (w := w) (base := base) G
  obtain ⟨_, F_weekday, o_weekday⟩ := ok_weekday (P := P) (w := w) (base := base) G
  obtain ⟨_, F_week_of, o_week_of⟩ := ok_week_of (P := P) (w := w) (base := base) G
  obtain ⟨_, F_year_start, o_year_start⟩ := ok_year_start (P := P) (w := w) (base := base) G
  have k_week_of_0_day := FunD.kwB (ps := ["day"]) (ks := ["day"]) (n := 0) (ix := [0]) F_week_of rfl (by decide) (fun _ _ _ _ _ _ us ws hu hw => match us, ws, hu, hw with | [], [_], _, _ => rfl)
  refine ⟨fd, Fd, Fd.kp, G.glo (by decide), Fd.bindsN fun _ _ _ _ _ _ us hl => match us, hl with | [_,_,_,_], _ => rfl, ?_⟩
  have sc := sc__law_day_right
  refine fnA_mir (N := N__law_day_right) (ps := ["one_day", "date", "number", "week"]) (k := 5) Fd sc none (by intro j hj; cases hj <;> decide) (by decide) b__law_day_right fun cdv A outer s H E c hg hr hc => ?_
  exact (dss_cons (ds_if (dt_bool (dw_or (dt_cmp (opr_ne hr.units) opd_ne (de_callB (call_reprD hg hr.units) cd_repr rfl (G.free (x := "repr") (by decide)) bt_repr (da_cons (de_callO rfl o_date_of hg hr (by decide) rfl (da_cons (de_var 0 (pv 0)) da_nil)) da_nil)) (de_callB (call_reprD hg hr.units) cd_repr rfl (G.free (x := "repr") (by decide)) bt_repr (da_cons (de_var 1 (pv 1)) da_nil)) (nomark _)) (dw_or1 (dt_cmp (opr_ne hr.units) opd_ne (de_callB (call_reprD hg hr.units) cd_repr rfl (G.free (x := "repr") (by decide)) bt_repr (da_cons (de_callO rfl o_day_of hg hr (by decide) rfl (da_cons (de_ix (de_var 1 (pv 1)) de_int (fun _ _ => rfl)) (da_cons (de_ix (de_var 1 (pv 1)) de_int (fun _ _ => rfl)) (da_cons (de_ix (de_var 1 (pv 1)) de_int (fun _ _ => rfl)) da_nil)))) da_nil)) (de_callB (call_reprD hg hr.units) cd_repr rfl (G.free (x := "repr") (by decide)) bt_repr (da_cons (de_var 0 (pv 0)) da_nil)) (nomark _)))))
   (dss_one (ds_ret de_bl))
   dss_nil)
  (dss_cons (ds_if (dt_bool (dw_or (dt_cmp (opr_ne hr.units) opd_ne (de_callB (call_reprD hg hr.units) cd_repr rfl (G.free (x := "repr") (by decide)) bt_repr (da_cons (de_callO rfl o_weekday hg hr (by decide) rfl (da_cons (de_var 0 (pv 0)) da_nil)) da_nil)) (de_callB (call_reprD hg hr.units) cd_repr rfl (G.free (x := "repr") (by decide)) bt_repr (da_cons (de_var 2 (pv 2)) da_nil)) (nomark _)) (dw_or1 (dt_cmp (opr_ne hr.units) opd_ne (de_callB (call_reprD hg hr.units) cd_repr rfl (G.free (x := "repr") (by decide)) bt_repr (da_cons (de_callO rfl o_week_of hg hr (by decide) rfl (da_cons (de_var 0 (pv 0)) da_nil)) da_nil)) (de_callB (call_reprD hg hr.units) cd_repr rfl (G.free (x := "repr") (by decide)) bt_repr (da_cons (de_add (de_var 3 (pv 3)) (de_tup (da_cons (de_add (de_var 2 (pv 2)) de_int) da_nil))) da_nil)) (nomark _)))))
   (dss_one (ds_ret de_bl))
   dss_nil)
  (dss_cons (ds_if (dt_bool (dw_or (dt_bool (dw_and (dt_cmp (opr_eq hr.units) opd_eq (de_sl (de_var 1 (pv 1)) (do_some de_int) do_none) (de_tup (da_cons de_int (da_cons de_int da_nil))) (nomark _)) (dw_and1 (dt_cmp (opr_ne hr.units) opd_ne (de_callO rfl o_year_start hg hr (by decide) rfl (da_cons (de_ix (de_var 1 (pv 1)) de_int (fun _ _ => rfl)) da_nil)) (de_var 0 (pv 0)) (nomark _))))) (dw_or1 (dt_bool (dw_and (dt_cmp (opr_eq hr.units) opd_eq (de_sl (de_var 1 (pv 1)) (do_some de_int) do_none) (de_tup (da_cons de_int (da_cons de_int da_nil))) (nomark _)) (dw_and1 (dt_cmp (opr_ne hr.units) opd_ne (de_var 3 (pv 3)) (de_tup (da_cons (de_ix (de_var 1 (pv 1)) de_int (fun _ _ => rfl)) (da_cons de_int da_nil))) (nomark _))))))))
   (dss_one (ds_ret de_bl))
   dss_nil)
  (dss_one (ds_ret (de_cmp op_in_rng opd_inR (de_ix (de_callOK0 rfl o_week_of rfl k_week_of_0_day hg hr (by decide) rfl (dk_cons (de_var 0 (pv 0)) dk_nil)) de_int (fun _ _ => rfl)) (de_callT cr_range2 cd_rng rfl (G.free (x := "range") (by decide)) bt_range (da_cons de_int (da_cons de_int da_nil))) rfl))))))
theorem ok__law_is_long (G : Gm K mg) : OkF P w K mg base d__law_is_long ["year"] 1 none m__law_is_long := by
  obtain ⟨_, _, _, cc, _⟩ := G.ex
  obtain ⟨fd, Fd⟩ := cc.def_ 19 (d := d__law_is_long) rfl
  refine ⟨fd, Fd, Fd.kp, G.glo (by decide), Fd.bindsN fun _ _ _ _ _ _ us hl => match us, hl with | [_], _ => rfl, ?_⟩
  have sc := sc__law_is_long
  refine fnA_mir (N := N__law_is_long) (ps := ["year"]) (k := 0) Fd sc none (by intro j hj; cases hj <;> decide) (by decide) b__law_is_long fun cdv A outer s H E c hg hr hc => ?_
  exact (dss_one (ds_ret (de_or (de_cmp (opr_eq hr.units) opd_eq (de_mod (de_callT call_int1 cd_int rfl (G.free (x := "int") (by decide)) bt_int (da_cons (de_var 0 (pv 0)) da_nil)) de_int) de_int (nomark _)) (de_one (de_and (de_cmp (opr_eq hr.units) opd_eq (de_mod (de_callT call_int1 cd_int rfl (G.free (x := "int") (by decide)) bt_int (da_cons (de_var 0 (pv 0)) da_nil)) de_int) de_int (nomark _)) (de_one (de_cmp (opr_ne hr.units) opd_ne (de_mod (de_callT call_int1 cd_int rfl (G.free (x := "int") (by decide)) bt_int (da_cons (de_var 0 (pv 0)) da_nil)) de_int) de_int (nomark _))))))))
theorem ok__law_size (G : Gm K mg) : OkF P w K mg base d__law_size ["year", "month"] 2 none m__law_size := by
  obtain ⟨_, _, _, cc, _⟩ := G.ex
  obtain ⟨fd, Fd⟩ := cc.def_ 20 (d := d__law_size) rfl
  obtain ⟨_, F__law_is_long, o__law_is_long⟩ := ok__law_is_long (P := P) (w := w) (base := base) G
  refine ⟨fd, Fd, Fd.kp, G.glo (by decide), Fd.bindsN fun _ _ _ _ _ _ us hl => match us, hl with | [_,_], _ => rfl, ?_⟩
  have sc := sc__law_size
  refine fnA_mir (N := N__law_size) (ps := ["year", "month"]) (k := 1) Fd sc none (by intro j hj; cases hj <;> decide) (by decide) b__law_size fun cdv A outer s H E c hg hr hc => ?_
  exact (dss_one (ds_ret (de_ix (de_lst (da_cons de_int (da_cons (de_if (dt_tru (de_callO rfl o__law_is_long hg hr (by decide) rfl (da_cons (de_var 0 (pv 0)) da_nil))) de_int de_int) (da_cons de_int (da_cons de_int (da_cons de_int (da_cons de_int (da_cons de_int (da_cons de_int (da_cons de_int (da_cons de_int (da_cons de_int (da_cons de_int da_nil))))))))))))) (de_sub (de_var 1 (pv 1)) de_int) (fun _ _ => rfl))))
theorem ok__law_next_date (G : Gm K mg) : OkF P w K mg base d__law_next_date ["date"] 3 none m__law_next_date := by
  obtain ⟨_, _, _, cc, _⟩ := G.ex
  obtain ⟨fd, Fd⟩ := cc.def_ 21 (d := d__law_next_date) rfl
  obtain ⟨_, F__law_size, o__law_size⟩ := ok__law_size (P := P) (w := w) (base := base) G
  refine ⟨fd, Fd, Fd.kp, G.glo (by decide), Fd.bindsN fun _ _ _ _ _ _ us hl => match us, hl with | [_], _ => rfl, ?_⟩
  have sc := sc__law_next_date
  refine fnA_mir (N := N__law_next_date) (ps := ["date"]) (k := 2) Fd sc none (by intro j hj; cases hj <;> decide) (by decide) b__law_next_date fun cdv A outer s H E c hg hr hc => ?_
  exact (dss_cons (ds_asg (at_all hc (by decide)) (de_var 0 (pv 0)) (pg_tup rfl (pgs_cons (pg_name (i := 1) sc.nd rfl (by first | exact Or.inl rfl | exact Or.inr rfl)) (pgs_cons (pg_name (i := 2) sc.nd rfl (by first | exact Or.inl rfl | exact Or.inr rfl)) (pgs_cons (pg_name (i := 3) sc.nd rfl (by first | exact Or.inl rfl | exact Or.inr rfl)) pgs_nil)))) (tg_tup [1, 2, 3]))
  (dss_cons (ds_if (dt_cmp op_lt (opd_cmp _) (de_var 3 (pv 3)) (de_callO rfl o__law_size hg hr (by decide) rfl (da_cons (de_var 1 (pv 1)) (da_cons (de_var 2 (pv 2)) da_nil))) (nomark _))
   (dss_one (ds_ret (de_tup (da_cons (de_var 1 (pv 1)) (da_cons (de_var 2 (pv 2)) (da_cons (de_add (de_var 3 (pv 3)) de_int) da_nil))))))
   dss_nil)
  (dss_one (ds_ret (de_if (dt_cmp op_lt (opd_cmp _) (de_var 2 (pv 2)) de_int (nomark _)) (de_tup (da_cons (de_var 1 (pv 1)) (da_cons (de_add (de_var 2 (pv 2)) de_int) (da_cons de_int da_nil)))) (de_tup (da_cons (de_add (de_var 1 (pv 1)) de_int) (da_cons de_int (da_cons de_int da_nil)))))))))
theorem ok__law_next_week (G : Gm K mg) : OkF P w K mg base d__law_next_week ["week", "date"] 4 none m__law_next_week := by
  obtain ⟨_, _, _, cc, _⟩ := G.ex
  obtain ⟨fd, Fd⟩ := cc.def_ 22 (d := d__law_next_week) rfl
  obtain ⟨_, F__law_next_date, o__law_next_date⟩ := ok__law_next_date (P := P) (w := w) (base := base) G
  refine ⟨fd, Fd, Fd.kp, G.glo (by decide), Fd.bindsN fun _ _ _ _ _ _ us hl => match us, hl with | [_,_], _ => rfl, ?_⟩
  have sc := sc__law_next_week
  refine fnA_mir (N := N__law_next_week) (ps := ["week", "date"]) (k := 3) Fd sc none (by intro j hj; cases hj <;> decide) (by decide) b__law_next_week fun cdv A outer s H E c hg hr hc => ?_
  exact (dss_cons (ds_set (i := 2) (at_ne hc (by decide)) sc.nd rfl (by first | exact Or.inl rfl | exact Or.inr rfl) (de_callO rfl o__law_next_date hg hr (by decide) rfl (da_cons (de_callO rfl o__law_next_date hg hr (by decide) rfl (da_cons (de_callO rfl o__law_next_date hg hr (by decide) rfl (da_cons (de_var 1 (pv 1)) da_nil)) da_nil)) da_nil)))
  (dss_one (ds_ret (de_if (dt_cmp (opr_ne hr.units) opd_ne (de_ix (de_var 2 (pv 2)) de_int (fun _ _ => rfl)) (de_ix (de_var 0 (pv 0)) de_int (fun _ _ => rfl)) (nomark _)) (de_tup (da_cons (de_ix (de_var 2 (pv 2)) de_int (fun _ _ => rfl)) (da_cons de_int da_nil))) (de_tup (da_cons (de_ix (de_var 0 (pv 0)) de_int (fun _ _ => rfl)) (da_cons (de_add (de_ix (de_var 0 (pv 0)) de_int (fun _ _ => rfl)) de_int) da_nil)))))))
theorem ok_law (G : Gm K mg) : OkF P w K mg base d_law ["script"] 7 none m_law := by
  obtain ⟨_, _, _, cc, _⟩ := G.ex
  obtain ⟨fd, Fd⟩ := cc.def_ 23 (d := d_law) rfl
  obtain ⟨_, F__law_begun, o__law_begun⟩ := ok__law_begun (P := P) (w := w) (base := base) G
  obtain ⟨_, F__law_take, o__law_take⟩ := ok__law_take (P := P) (w := w) (base := base) G
  obtain ⟨_, F__law_pick, o__law_pick⟩ := ok__law_pick (P := P) (w := w) (base := base) G
  obtain ⟨_, F__law_some_year, o__law_some_year⟩ := ok__law_some_year (P := P) (w := w) (base := base) G
  obtain ⟨_, F__law_size, o__law_size⟩ := ok__law_size (P := P) (w := w) (base := base) G
  obtain ⟨_, F__law_month, o__law_month⟩ := ok__law_month (P := P) (w := w) (base := base) G
  obtain ⟨_, F__law_first_week, o__law_first_week⟩ := ok__law_first_week (P := P) (w := w) (base := base) G
  obtain ⟨_, F__law_day_right, o__law_day_right⟩ := ok__law_day_right (P := P) (w := w) (base := base) G
  obtain ⟨_, F__law_next_date, o__law_next_date⟩ := ok__law_next_date (P := P) (w := w) (base := base) G
  obtain ⟨_, F__law_next_week, o__law_next_week⟩ := ok__law_next_week (P := P) (w := w) (base := base) G
  refine ⟨fd, Fd, Fd.kp, G.glo (by decide), Fd.bindsN fun _ _ _ _ _ _ us hl => match us, hl with | [_], _ => rfl, ?_⟩
  have sc := sc_law
  refine fnA_mir (N := N_law) (ps := ["script"]) (k := 6) Fd sc none (by intro j hj; cases hj <;> decide) (by decide) b_law fun cdv A outer s H E c hg hr hc => ?_
  exact (dss_cons (ds_setFO (i := 1) rfl o__law_begun hg hr (by decide) rfl (at_ne hc (by decide)) sc.nd rfl (by first | exact Or.inl rfl | exact Or.inr rfl) (da_cons (de_var 0 (pv 0)) da_nil))
  (dss_cons (ds_for (passes_of rfl) rfl (at_all hc (by decide)) (di_range1 rfl (G.free (x := "range") (by decide)) (da_cons (de_add de_int (de_callB (call_min2 rfl) cd_min rfl (G.free (x := "min") (by decide)) bt_min (da_cons (de_callB call_len cd_len rfl (G.free (x := "len") (by decide)) bt_len (da_cons (de_var 0 (pv 0)) da_nil)) (da_cons de_int da_nil)))) da_nil)) (pg_name (i := 2) sc.nd rfl (by first | exact Or.inl rfl | exact Or.inr rfl)) (tg_name 2)
   (dss_cons (ds_par (i := 3) (j := 4) (at_ne hc (by decide)) (at_ne hc (by decide)) rfl sc.nd rfl rfl (by decide) rfl rfl (da_cons (de_callOS rfl o__law_some_year (by decide) hg hr (by decide) rfl (das_here (pv 1) da_nil)) (da_cons (de_callOS rfl o__law_pick (by decide) hg hr (by decide) rfl (das_here (pv 1) (da_cons (de_lst (da_cons de_int (da_cons de_int (da_cons de_int (da_cons de_int (da_cons de_int (da_cons (de_add de_int (de_callOS rfl o__law_take (by decide) hg hr (by decide) rfl (das_here (pv 1) (da_cons de_int da_nil)))) da_nil))))))) da_nil))) da_nil)) rfl)
  (dss_cons (ds_set (i := 5) (at_ne hc (by decide)) sc.nd rfl (by first | exact Or.inl rfl | exact Or.inr rfl) (de_tup (da_cons (de_var 3 (pv 3)) (da_cons (de_var 4 (pv 4)) (da_cons (de_add de_int (de_callOS rfl o__law_take (by decide) hg hr (by decide) rfl (das_here (pv 1) (da_cons (de_callO rfl o__law_size hg hr (by decide) rfl (da_cons (de_var 3 (pv 3)) (da_cons (de_var 4 (pv 4)) da_nil))) da_nil)))) da_nil)))))
  (dss_cons (ds_set (i := 6) (at_ne hc (by decide)) sc.nd rfl (by first | exact Or.inl rfl | exact Or.inr rfl) (de_sub (de_add (de_callO rfl o__law_month hg hr (by decide) rfl (da_cons (de_var 3 (pv 3)) (da_cons (de_var 4 (pv 4)) da_nil))) (de_ix (de_var 5 (pv 5)) de_int (fun _ _ => rfl))) de_int))
  (dss_cons (ds_set (i := 7) (at_ne hc (by decide)) sc.nd rfl (by first | exact Or.inl rfl | exact Or.inr rfl) (de_mod (de_callT call_int1 cd_int rfl (G.free (x := "int") (by decide)) bt_int (da_cons (de_add (de_var 6 (pv 6)) de_int) da_nil)) de_int))
  (dss_cons (ds_set (i := 8) (at_ne hc (by decide)) sc.nd rfl (by first | exact Or.inl rfl | exact Or.inr rfl) (de_callO rfl o__law_first_week hg hr (by decide) rfl (da_cons (de_var 5 (pv 5)) (da_cons (de_var 7 (pv 7)) da_nil))))
  (dss_one (ds_for (passes_of rfl) rfl (at_all hc (by decide)) (di_range1 rfl (G.free (x := "range") (by decide)) (da_cons (de_callOS rfl o__law_pick (by decide) hg hr (by decide) rfl (das_here (pv 1) (da_cons (de_lst (da_cons de_int (da_cons de_int (da_cons de_int (da_cons de_int da_nil))))) da_nil))) da_nil)) (pg_name (i := 9) sc.nd rfl (by first | exact Or.inl rfl | exact Or.inr rfl)) (tg_name 9)
   (dss_cons (ds_if (dt_not (dt_tru (de_callO rfl o__law_day_right hg hr (by decide) rfl (da_cons (de_var 6 (pv 6)) (da_cons (de_var 5 (pv 5)) (da_cons (de_var 7 (pv 7)) (da_cons (de_var 8 (pv 8)) da_nil)))))))
   (dss_one (ds_ret de_bl))
   dss_nil)
  (dss_cons (ds_par3 (i := 6) (j := 5) (l := 7) (at_ne hc (by decide)) (at_ne hc (by decide)) (at_ne hc (by decide)) rfl sc.nd rfl rfl rfl (by decide) (by decide) (by decide) rfl rfl rfl (da_cons (de_add (de_var 6 (pv 6)) de_int) (da_cons (de_callO rfl o__law_next_date hg hr (by decide) rfl (da_cons (de_var 5 (pv 5)) da_nil)) (da_cons (de_mod (de_callT call_int1 cd_int rfl (G.free (x := "int") (by decide)) bt_int (da_cons (de_add (de_var 7 (pv 7)) de_int) da_nil)) de_int) da_nil))) rfl)
  (dss_one (ds_if (dt_cmp (opr_eq hr.units) opd_eq (de_var 7 (pv 7)) de_int (nomark _))
   (dss_one (ds_set (i := 8) (at_ne hc (by decide)) sc.nd rfl (by first | exact Or.inl rfl | exact Or.inr rfl) (de_callO rfl o__law_next_week hg hr (by decide) rfl (da_cons (de_var 8 (pv 8)) (da_cons (de_var 5 (pv 5)) da_nil)))))
   dss_nil))))))))))))
  (dss_one (ds_ret de_bl))))
end
/-! ### the draws -/
def Gd (b : Nat) (S : LSt) : Prop := 0 ≤ S.turn ∧ S.turn + b ≤ 10000000000000
theorem Gd.mono {a b : Nat} {S : LSt} (h : Gd b S) (hab : a ≤ b) : Gd a S := ⟨h.1, by have := h.2; omega⟩
theorem mx_inner (S : LSt) (t f p : Int) (hp : 0 < p) (hp2 : p < 4294967296) : ∀ (cs : List Int) (b : Int) (x : Sl), b.natAbs < 18446744073709551616 → ∃ b' x', forD (tgN 5) (sSet 4 (dOp gMod (dCall gInt (dCons (dOp gAdd (dOp gAdd (dOp gMul (dV 4) (dC (.int 48271))) (dV 5)) (dV 1)) dNil)) (dV 3))) (cs.map D.int) [.st S, .p (.int t), .p (.int f), .p (.int p), .p (.int b), x] = .nx [.st S, .p (.int t), .p (.int f), .p (.int p), .p (.int b'), x'] ∧ b'.natAbs < 18446744073709551616
  | [], b, x, h => ⟨b, x, rfl, h⟩
  | c :: cs, b, x, h => by
    have hm := Int.emod_nonneg (b * 48271 + c + t) (show p ≠ 0 by omega)
    have hm2 := Int.emod_lt_of_pos (b * 48271 + c + t) hp
    obtain ⟨b', x', h1, h2⟩ := mx_inner S t f p hp hp2 cs ((b * 48271 + c + t) % p) (.p (.int c)) (by omega)
    refine ⟨b', x', ?_, h2⟩
    rw [← h1]
    refine forD_nx (δ1 := [.st S, .p (.int t), .p (.int f), .p (.int p), .p (.int b), .p (.int c)]) rfl ?_
    simp [sSet, dOp, dCall, dCons, dNil, dV, dC, ev_mul, ev_add, ev_int, ev_mod, hp]
def mxBody : PV.Env → SRes := (sSeq (sSet 4 (dOp gAdd (dOp gMul (dC (.int 61441)) (dV 1)) (dOp gDiv (dV 3) (dC (.int 19)))))
  (sSeq (sFor (iStC 0) (tgN 5)
   (sSet 4 (dOp gMod (dCall gInt (dCons (dOp gAdd (dOp gAdd (dOp gMul (dV 4) (dC (.int 48271))) (dV 5)) (dV 1)) dNil)) (dV 3))))
  (sSet 2 (dOp gAdd (dOp gMul (dV 2) (dC (.int 2147483647))) (dOp gMod (dCall gInt (dCons (dOp gPow (dV 4) (dC (.int 5))) dNil)) (dV 3))))))
theorem mx_body (S : LSt) (t f p : Int) (hp : 0 < p) (hp2 : p < 4294967296) (ht : 0 ≤ t) (ht2 : t ≤ 10000000000000) (x y : Sl) : ∃ f' b' x', mxBody [.st S, .p (.int t), .p (.int f), .p (.int p), x, y] = .nx [.st S, .p (.int t), .p (.int f'), .p (.int p), .p (.int b'), x'] := by
  have h1 : sSet 4 (dOp gAdd (dOp gMul (dC (.int 61441)) (dV 1)) (dOp gDiv (dV 3) (dC (.int 19)))) [.st S, .p (.int t), .p (.int f), .p (.int p), x, y] = .nx [.st S, .p (.int t), .p (.int f), .p (.int p), .p (.int (61441 * t + p / 19)), y] := by
    simp [sSet, dOp, dV, dC, ev_mul, ev_add, ev_divL]
  have hb : (61441 * t + p / 19).natAbs < 18446744073709551616 := by omega
  obtain ⟨b', x', h2, h3⟩ := mx_inner S t f p hp hp2 S.cells (61441 * t + p / 19) y hb
  refine ⟨f * 2147483647 + b' ^ 5 % p, b', x', ?_⟩
  unfold mxBody sSeq
  rw [h1, SRes.seq_nx]
  have h4 : sFor (iStC 0) (tgN 5) (sSet 4 (dOp gMod (dCall gInt (dCons (dOp gAdd (dOp gAdd (dOp gMul (dV 4) (dC (.int 48271))) (dV 5)) (dV 1)) dNil)) (dV 3))) [.st S, .p (.int t), .p (.int f), .p (.int p), .p (.int (61441 * t + p / 19)), y] = .nx [.st S, .p (.int t), .p (.int f), .p (.int p), .p (.int b'), x'] := h2
  rw [h4, SRes.seq_nx]
  simp [sSet, dOp, dCall, dCons, dNil, dV, dC, ev_mul, ev_add, ev_int, ev_mod, ev_pow, h3, hp]
theorem e_mixed (S : LSt) (h : Gd 1 S) : ∃ v : Int, m__law_mixed [] (.st S) = some (.p (.int v), .st { S with turn := S.turn + 1 }) := by
  obtain ⟨h1, h2⟩ := h
  have h2' : S.turn + 1 ≤ 10000000000000 := h2
  let S' : LSt := { S with turn := S.turn + 1 }
  obtain ⟨f1, b1, x1, e1⟩ := mx_body S' (S.turn + 1) 0 2147483629 (by omega) (by omega) (by omega) h2' .emp .emp
  obtain ⟨f2, b2, x2, e2⟩ := mx_body S' (S.turn + 1) f1 2147483587 (by omega) (by omega) (by omega) h2' (.p (.int b1)) x1
  obtain ⟨f3, b3, x3, e3⟩ := mx_body S' (S.turn + 1) f2 2147483579 (by omega) (by omega) (by omega) h2' (.p (.int b2)) x2
  obtain ⟨f4, b4, x4, e4⟩ := mx_body S' (S.turn + 1) f3 2147483563 (by omega) (by omega) (by omega) h2' (.p (.int b3)) x3
  refine ⟨f4, ?_⟩
  have hb : b__law_mixed [.st S, .emp, .emp, .emp, .emp, .emp] = .rt (.int f4) [.st S', .p (.int (S.turn + 1)), .p (.int f4), .p (.int 2147483563), .p (.int b4), x4] := by
    have q1 : sPar [1, 2] (dCons (dOp gAdd (dStI 0 .turn) (dC (.int 1))) (dCons (dC (.int 0)) dNil)) [.st S, .emp, .emp, .emp, .emp, .emp] = .nx [.st S, .p (.int (S.turn + 1)), .p (.int 0), .emp, .emp, .emp] := by
      simp [sPar, tgsN, dOp, dCons, dNil, dStI, StK.get, dC, ev_add]
    have q2 : sStPut 0 .turn (dV 1) [.st S, .p (.int (S.turn + 1)), .p (.int 0), .emp, .emp, .emp] = .nx [.st S', .p (.int (S.turn + 1)), .p (.int 0), .emp, .emp, .emp] := rfl
    have q3 : sFor (iLst (dSeq .lst (dCons (dC (.int 2147483629)) (dCons (dC (.int 2147483587)) (dCons (dC (.int 2147483579)) (dCons (dC (.int 2147483563)) dNil)))))) (tgN 3) mxBody [.st S', .p (.int (S.turn + 1)), .p (.int 0), .emp, .emp, .emp] = .nx [.st S', .p (.int (S.turn + 1)), .p (.int f4), .p (.int 2147483563), .p (.int b4), x4] := by
      rw [sFor_ok (l := [.int 2147483629, .int 2147483587, .int 2147483579, .int 2147483563]) (δ1 := [.st S', .p (.int (S.turn + 1)), .p (.int 0), .emp, .emp, .emp]) (by simp [iLst, dSeq, dCons, dC, dNil, gLstOf])]
      rw [forD_nx rfl e1, forD_nx rfl e2, forD_nx rfl e3, forD_nx rfl e4]
      rfl
    exact (seq_nx q1).trans ((seq_nx q2).trans ((seq_nx q3).trans rfl))
  unfold m__law_mixed fnMir
  rw [show mkEnv (some 0) [] (.st S) 6 = [.st S, .emp, .emp, .emp, .emp, .emp] from rfl, hb]
  rfl
theorem e_take (n : Int) (S : LSt) (b : Nat) (h : Gd (b + 1) S) (hn : 0 < n) (hn2 : n < 1000000000000000000000000000000000000000000000000000000000000) : ∃ (v : Int) (S' : LSt), m__law_take [.int n] (.st S) = some (.p (.int v), .st S') ∧ 0 ≤ v ∧ v < n ∧ Gd b S' := by
  have tail : ∀ S1 : LSt, Gd b S1 → ∃ (v : Int) (S' : LSt), (sSeq (sSet 2 (dOp gMod (dCall gInt (dCons (dStI 0 .rest) dNil)) (dV 1)))
  (sSeq (sStPut 0 .rest (dOp gDiv (dStI 0 .rest) (dV 1)))
  (sRet (dV 2)))) [.st S1, .p (.int n), .emp] = .rt (.int v) [.st S', .p (.int n), .p (.int v)] ∧ 0 ≤ v ∧ v < n ∧ Gd b S' := fun S1 g => by
    refine ⟨S1.rest % n, { S1 with rest := S1.rest / n }, ?_, Int.emod_nonneg _ (by omega), Int.emod_lt_of_pos _ hn, g⟩
    simp [sSeq, sSet, sStPut, sRet, dOp, dCall, dCons, dNil, dStI, StK.get, StK.put, dV, ev_int, ev_mod, ev_divL, hn, hn2]
  have main : ∃ S1 : LSt, (sIf (dTst (dOp (gEq false) (dStI 0 .rest) (dC (.int 0)))) (sStPut 0 .rest (dIf (bStW 0) (dStPop 0) (dCallS 1 0 0 m__law_mixed (dHere 0 dNil)))) sNext) [.st S, .p (.int n), .emp] = .nx [.st S1, .p (.int n), .emp] ∧ Gd b S1 := by
    obtain ⟨wd, cl, rs, tn⟩ := S
    by_cases hr : rs = 0
    · cases wd with
      | cons x r =>
        refine ⟨⟨r, cl, x, tn⟩, ?_, ⟨h.1, by have := h.2; dsimp only at this ⊢; omega⟩⟩
        simp [sIf, dTst, dOp, dStI, StK.get, dC, ev_eq, hr, sStPut, dIf, bStW, dStPop, StK.put]
      | nil =>
        obtain ⟨v, hv⟩ := e_mixed ⟨[], cl, rs, tn⟩ (h.mono (by omega))
        refine ⟨⟨[], cl, v, tn + 1⟩, ?_, ⟨by have := h.1; dsimp only at this ⊢; omega, by have := h.2; dsimp only at this ⊢; omega⟩⟩
        simp [sIf, dTst, dOp, dStI, StK.get, dC, ev_eq, hr, sStPut, dIf, bStW, dCallS, dHere, dNil, StK.put]
        rw [hr] at hv
        simp [hv]
    · refine ⟨⟨wd, cl, rs, tn⟩, ?_, h.mono (by omega)⟩
      simp [sIf, dTst, dOp, dStI, StK.get, dC, ev_eq, hr, sNext]
  obtain ⟨S1, h1, g1⟩ := main
  obtain ⟨v, S', h2, h3, h4, h5⟩ := tail S1 g1
  refine ⟨v, S', ?_, h3, h4, h5⟩
  unfold m__law_take fnMir
  rw [show mkEnv (some 0) [.int n] (.st S) 3 = [.st S, .p (.int n), .emp] from rfl]
  unfold b__law_take
  rw [show (sSeq (sIf (dTst (dOp (gEq false) (dStI 0 .rest) (dC (.int 0)))) (sStPut 0 .rest (dIf (bStW 0) (dStPop 0) (dCallS 1 0 0 m__law_mixed (dHere 0 dNil)))) sNext) (sSeq (sSet 2 (dOp gMod (dCall gInt (dCons (dStI 0 .rest) dNil)) (dV 1))) (sSeq (sStPut 0 .rest (dOp gDiv (dStI 0 .rest) (dV 1))) (sRet (dV 2))))) [.st S, .p (.int n), .emp] = .rt (.int v) [.st S', .p (.int n), .p (.int v)] from by
    show (sIf _ _ _ _).seq _ = _
    rw [h1, SRes.seq_nx, h2]]
  rfl

theorem e_pick (l : List D) (S : LSt) (b : Nat) (h : Gd (b + 1) S) (h0 : l ≠ []) (hl : l.length < 1000000000) : ∃ (d : D) (S' : LSt), d ∈ l ∧ m__law_pick [.lst l] (.st S) = some (.p d, .st S') ∧ Gd b S' := by
  have hp : 0 < l.length := List.length_pos_iff.mpr h0
  obtain ⟨v, S', t, a, c, g⟩ := e_take (l.length : Int) S b h (by omega) (by omega)
  have hv : v.toNat < l.length := by omega
  refine ⟨l[v.toNat], S', List.getElem_mem hv, ?_, g⟩
  have q : dCallS 2 0 0 m__law_take (dHere 0 (dCons (dCall gLen (dCons (dV 1) dNil)) dNil)) [.st S, .p (.lst l)] = .ok (.int v) [.st S', .p (.lst l)] := by
    simp [dCallS, dHere, ev_lenL, t, dCall, dCons, dNil, dV]
  have e : gIx (.lst l) (.int v) = some l[v.toNat] := by
    show (ixN l.length v).bind (fun j => l[j]?) = _
    unfold ixN
    rw [if_pos a, if_pos (by omega)]
    show l[v.toNat]? = _
    exact List.getElem?_eq_getElem hv
  exact fnMir_rt (δ := [.st S', .p (.lst l)]) (sRet_ok (dOp_ok rfl q e)) rfl

/-! ### the calendar, in plain sums -/
def LD (y : Int) : Int := (y - 1) / 4 - (y - 1) / 100 + (y - 1) / 400
def NY (y : Int) : Int := 365 * (y - 2000) + (y - 2000 + 3) / 4 - (y - 2000 + 99) / 100 + (y - 2000 + 399) / 400
def lp (y : Int) : Bool := decide (y % 4 = 0) && (!decide (y % 100 = 0) || decide (y % 400 = 0))
def lpn (y : Int) : Int := if lp y = true then 1 else 0
def bm (m : Int) (b : Bool) : Int := (if m = 1 then 0 else if m = 2 then 31 else if m = 3 then 59 else if m = 4 then 90 else if m = 5 then 120 else if m = 6 then 151 else if m = 7 then 181 else if m = 8 then 212 else if m = 9 then 243 else if m = 10 then 273 else if m = 11 then 304 else if m = 12 then 334 else 365) + (if b = true ∧ 2 < m then 1 else 0)
theorem ny_ld (y : Int) : 365 * (y - 2000) + LD y - LD 2000 = NY y := by
  have : LD 2000 = 484 := by decide
  rw [this]; unfold LD NY; omega
theorem lp_step (y : Int) : NY (y + 1) = NY y + 365 + lpn y := by
  unfold NY lpn lp
  by_cases h1 : y % 4 = 0 <;> by_cases h2 : y % 100 = 0 <;> by_cases h3 : y % 400 = 0 <;> simp [h1, h2, h3] <;> omega
theorem lpn_le (y : Int) : 0 ≤ lpn y ∧ lpn y ≤ 1 := by unfold lpn; split <;> omega
theorem ny_mono {a b : Int} (h : a ≤ b) : NY a ≤ NY b := by
  obtain ⟨n, rfl⟩ : ∃ n : Nat, b = a + n := ⟨(b - a).toNat, by omega⟩
  induction n with
  | zero => simp
  | succ n ih =>
    have := ih (by omega)
    have h2 := lp_step (a + n)
    have h3 := lpn_le (a + n)
    have e : a + ((n + 1 : Nat) : Int) = a + n + 1 := by omega
    rw [e]; omega
theorem bm_13 (b : Bool) : bm 13 b = 365 + (if b = true then 1 else 0) := by cases b <;> decide
theorem bm_1 (b : Bool) : bm 1 b = 0 := by cases b <;> decide
theorem month_cases {m : Int} (h1 : 1 ≤ m) (h2 : m ≤ 12) : m = 1 ∨ m = 2 ∨ m = 3 ∨ m = 4 ∨ m = 5 ∨ m = 6 ∨ m = 7 ∨ m = 8 ∨ m = 9 ∨ m = 10 ∨ m = 11 ∨ m = 12 := by omega
theorem bm_lt {m : Int} (b : Bool) (h1 : 1 ≤ m) (h2 : m ≤ 12) : bm m b + 28 ≤ bm (m + 1) b ∧ bm (m + 1) b ≤ bm m b + 31 := by
  rcases month_cases h1 h2 with rfl | rfl | rfl | rfl | rfl | rfl | rfl | rfl | rfl | rfl | rfl | rfl <;> cases b <;> decide
theorem bm_mono {b : Bool} {m n : Int} (h1 : 1 ≤ m) (h : m ≤ n) (h2 : n ≤ 13) : bm m b ≤ bm n b := by
  obtain ⟨k, rfl⟩ : ∃ k : Nat, n = m + k := ⟨(n - m).toNat, by omega⟩
  induction k with
  | zero => simp
  | succ k ih =>
    have := ih (by omega) (by omega)
    have h3 := bm_lt (m := m + k) b (by omega) (by omega)
    have e : m + ((k + 1 : Nat) : Int) = m + k + 1 := by omega
    rw [e]; omega
/-! ### the program's functions of dates -/
theorem e_isnum (n : Int) : m_is_number [.int n] .emp = some (.p (.bl true), .emp) := by
  refine fnMir_rt (δ := [.p (.int n)]) ?_ rfl
  show sRet (dAndV (dIsi "int" (dV 0)) (dNotV (dIsi "bool" (dV 0)))) [.p (.int n)] = _
  have h1 := ev_isi_int n [.p (.int n)] (dV 0) rfl
  have h2 := ev_isi_bool n [.p (.int n)] (dV 0) rfl
  have h3 : dNotV (dIsi "bool" (dV 0)) [.p (.int n)] = .ok (.bl true) [.p (.int n)] := by unfold dNotV; rw [h2]; rfl
  unfold sRet; rw [dAndV_bl h1 h3]; rfl
theorem need_loop (l : D) : ∀ (ns : List Int) (x : Sl), ∃ x', forD (tgN 1) (sIf (dNot (dTru (dCallF 1 m_is_number [] (dCons (dV 1) dNil)))) sBad sNext) (ns.map D.int) [.p l, x] = .nx [.p l, x']
  | [], x => ⟨x, rfl⟩
  | n :: ns, x => by
    obtain ⟨x', h⟩ := need_loop l ns (.p (.int n))
    refine ⟨x', Eq.trans (forD_nx (δ1 := [.p l, .p (.int n)]) rfl ?_) h⟩
    simp [sIf, dNot, dTru, dCallF, dCons, dNil, dV, D.tru, e_isnum, sNext]
theorem e_need (ns : List Int) : m_need_numbers [.lst (ns.map D.int)] .emp = some (.p .non, .emp) := by
  obtain ⟨x', h⟩ := need_loop (.lst (ns.map D.int)) ns .emp
  refine fnMir_nx (δ := [.p (.lst (ns.map D.int)), x']) ?_ rfl
  exact (sFor_ok (l := ns.map D.int) (δ1 := [.p (.lst (ns.map D.int)), .emp]) rfl).trans h
theorem e_need1 (a : Int) : m_need_numbers [.lst [.int a]] .emp = some (.p .non, .emp) := e_need [a]
theorem e_need3 (a b c : Int) : m_need_numbers [.lst [.int a, .int b, .int c]] .emp = some (.p .non, .emp) := e_need [a, b, c]
theorem e_ld (y : Int) : m_leap_days_before [.int y] .emp = some (.p (.int (LD y)), .emp) := by
  simp [m_leap_days_before, b_leap_days_before, LD, fnMir, mkEnv, ioOut, sSeq, sRet, sRetN, sSet, sDrop, sIf, sNext, sPar, tgsN, dOp, dV, dC, dCall, dCallF, dCallK, dNil, dCons, dSeq, dIf, dTst, dTru, D.tru, dNot, dNotV, R.bind_ok, ev_add, ev_sub, ev_mul, ev_divL, ev_mod, ev_cmp, ev_eq, ev_ne, ev_eqB, ev_neB, ev_eqS, ev_neS, ev_int, ev_intB, ev_abs, ev_pow]
theorem e_ys (y : Int) : m_year_start [.int y] .emp = some (.p (.int (NY y)), .emp) := by
  rw [← ny_ld]
  simp [m_year_start, b_year_start, e_need1, e_ld, fnMir, mkEnv, ioOut, sSeq, sRet, sRetN, sSet, sDrop, sIf, sNext, sPar, tgsN, dOp, dV, dC, dCall, dCallF, dCallK, dNil, dCons, dSeq, dIf, dTst, dTru, D.tru, dNot, dNotV, R.bind_ok, ev_add, ev_sub, ev_mul, ev_divL, ev_mod, ev_cmp, ev_eq, ev_ne, ev_eqB, ev_neB, ev_eqS, ev_neS, ev_int, ev_intB, ev_abs, ev_pow]
theorem e_bm {m : Int} (b : Bool) (h1 : 1 ≤ m) (h2 : m ≤ 13) : m_day_before_month [.int m, .bl b] .emp = some (.p (.int (bm m b)), .emp) := by
  have : m = 1 ∨ m = 2 ∨ m = 3 ∨ m = 4 ∨ m = 5 ∨ m = 6 ∨ m = 7 ∨ m = 8 ∨ m = 9 ∨ m = 10 ∨ m = 11 ∨ m = 12 ∨ m = 13 := by omega
  rcases this with rfl | rfl | rfl | rfl | rfl | rfl | rfl | rfl | rfl | rfl | rfl | rfl | rfl <;> cases b <;> rfl
theorem e_lp (y : Int) : m_has_leap_day [.int y] .emp = some (.p (.bl (lp y)), .emp) := by
  refine fnMir_rt (δ := [.p (.int y)]) ?_ rfl
  have h1 : dOp (gEq false) (dOp gMod (dV 0) (dC (.int 4))) (dC (.int 0)) [.p (.int y)] = .ok (.bl (decide (y % 4 = 0))) [.p (.int y)] := by simp [fnMir, mkEnv, ioOut, sSeq, sRet, sRetN, sSet, sDrop, sIf, sNext, sPar, tgsN, dOp, dV, dC, dCall, dCallF, dCallK, dNil, dCons, dSeq, dIf, dTst, dTru, D.tru, dNot, dNotV, R.bind_ok, ev_add, ev_sub, ev_mul, ev_divL, ev_mod, ev_cmp, ev_eq, ev_ne, ev_eqB, ev_neB, ev_eqS, ev_neS, ev_int, ev_intB, ev_abs, ev_pow]
  have h2 : dOp (gEq true) (dOp gMod (dV 0) (dC (.int 100))) (dC (.int 0)) [.p (.int y)] = .ok (.bl (!decide (y % 100 = 0))) [.p (.int y)] := by simp [fnMir, mkEnv, ioOut, sSeq, sRet, sRetN, sSet, sDrop, sIf, sNext, sPar, tgsN, dOp, dV, dC, dCall, dCallF, dCallK, dNil, dCons, dSeq, dIf, dTst, dTru, D.tru, dNot, dNotV, R.bind_ok, ev_add, ev_sub, ev_mul, ev_divL, ev_mod, ev_cmp, ev_eq, ev_ne, ev_eqB, ev_neB, ev_eqS, ev_neS, ev_int, ev_intB, ev_abs, ev_pow]
  have h3 : dOp (gEq false) (dOp gMod (dV 0) (dC (.int 400))) (dC (.int 0)) [.p (.int y)] = .ok (.bl (decide (y % 400 = 0))) [.p (.int y)] := by simp [fnMir, mkEnv, ioOut, sSeq, sRet, sRetN, sSet, sDrop, sIf, sNext, sPar, tgsN, dOp, dV, dC, dCall, dCallF, dCallK, dNil, dCons, dSeq, dIf, dTst, dTru, D.tru, dNot, dNotV, R.bind_ok, ev_add, ev_sub, ev_mul, ev_divL, ev_mod, ev_cmp, ev_eq, ev_ne, ev_eqB, ev_neB, ev_eqS, ev_neS, ev_int, ev_intB, ev_abs, ev_pow]
  show sRet _ [.p (.int y)] = _
  unfold sRet; rw [dAndV_bl h1 (dOrV_bl h2 h3)]; rfl
theorem e_wd (d : Int) : m_weekday [.int d] .emp = some (.p (.int ((d + 5) % 7)), .emp) := by
  simp [m_weekday, b_weekday, e_need1, fnMir, mkEnv, ioOut, sSeq, sRet, sRetN, sSet, sDrop, sIf, sNext, sPar, tgsN, dOp, dV, dC, dCall, dCallF, dCallK, dNil, dCons, dSeq, dIf, dTst, dTru, D.tru, dNot, dNotV, R.bind_ok, ev_add, ev_sub, ev_mul, ev_divL, ev_mod, ev_cmp, ev_eq, ev_ne, ev_eqB, ev_neB, ev_eqS, ev_neS, ev_int, ev_intB, ev_abs, ev_pow]
/-- a date that is -/
def Dt (y m d : Int) : Prop := 1 ≤ m ∧ m ≤ 12 ∧ 1 ≤ d ∧ d ≤ bm (m + 1) (lp y) - bm m (lp y)
def DN (y m d : Int) : Int := NY y + bm m (lp y) + d - 1
theorem e_dayof {y m d : Int} (h : Dt y m d) : m_day_of [.int y, .int m, .int d] .emp = some (.p (.int (DN y m d)), .emp) := by
  obtain ⟨h1, h2, h3, h4⟩ := h
  have b1 := e_bm (lp y) h1 (by omega)
  have b2 := e_bm (m := m + 1) (lp y) (by omega) (by omega)
  have n1 : ¬ (12 < m) := by omega
  have n2 : ¬ (d < 1) := by omega
  have n3 : ¬ (bm (m + 1) (lp y) - bm m (lp y) < d) := by omega
  simp [m_day_of, b_day_of, e_need3, e_lp, e_ys, b1, b2, dOr, dChain, h1, h2, n1, n2, n3, DN, fnMir, mkEnv, ioOut, sSeq, sRet, sRetN, sSet, sDrop, sIf, sNext, sPar, tgsN, dOp, dV, dC, dCall, dCallF, dCallK, dNil, dCons, dSeq, dIf, dTst, dTru, D.tru, dNot, dNotV, R.bind_ok, ev_add, ev_sub, ev_mul, ev_divL, ev_mod, ev_cmp, ev_eq, ev_ne, ev_eqB, ev_neB, ev_eqS, ev_neS, ev_int, ev_intB, ev_abs, ev_pow]
/-- while that counts a slot up by one -/
theorem while_up {t : PV.Env → R Bool} {b : PV.Env → SRes} {mk : Int → PV.Env} : ∀ (n : Nat) (a : Int), (∀ i : Int, a ≤ i → i < a + n → t (mk i) = .ok true (mk i) ∧ b (mk i) = .nx (mk (i + 1))) → t (mk (a + n)) = .ok false (mk (a + n)) → sWhile t b (mk a) = .nx (mk (a + n)) := by
  have key : ∀ (n : Nat) (a : Int), (∀ i : Int, a ≤ i → i < a + n → t (mk i) = .ok true (mk i) ∧ b (mk i) = .nx (mk (i + 1))) → t (mk (a + n)) = .ok false (mk (a + n)) → whileN t b (n + 1) (mk a) = .nx (mk (a + n)) := by
    intro n
    induction n with
    | zero =>
      intro a _ h2
      have e : a + ((0 : Nat) : Int) = a := by omega
      rw [e] at h2 ⊢
      show (match t (mk a) with | .ok true δ1 => _ | .ok false δ1 => SRes.nx δ1 | .bad => .bad) = _
      rw [h2]
    | succ n ih =>
      intro a h1 h2
      obtain ⟨q1, q2⟩ := h1 a (by omega) (by omega)
      have e : a + ((n + 1 : Nat) : Int) = a + 1 + n := by omega
      rw [e] at h2 ⊢
      have := ih (a + 1) (fun i hi hi2 => h1 i (by omega) (by omega)) h2
      rw [← this]
      show (match t (mk a) with | .ok true δ1 => (match b δ1 with | .nx δ2 => whileN t b (n + 1) δ2 | .ct δ2 => whileN t b (n + 1) δ2 | .bk δ2 => .nx δ2 | .rt x δ2 => .rt x δ2 | .bad => .bad) | .ok false δ1 => SRes.nx δ1 | .bad => .bad) = _
      rw [q1]; dsimp only; rw [q2]
  intro n a h1 h2
  exact sWhile_eq (n + 1) (key n a h1 h2) (by intro z; cases z)
theorem yr_lo (d : Int) : NY (2000 + 400 * (d / 146097) + d % 146097 / 366) ≤ d := by
  unfold NY
  have h1 := Int.emod_nonneg d (show (146097 : Int) ≠ 0 by omega)
  have h2 := Int.emod_lt_of_pos d (show (0 : Int) < 146097 by omega)
  have h3 := Int.emod_add_mul_ediv d 146097
  generalize hq : d / 146097 = q at *
  generalize hr : d % 146097 = r at *
  omega
theorem e_dateof {y m d : Int} (h : Dt y m d) : m_date_of [.int (DN y m d)] .emp = some (.p (.tup [.int y, .int m, .int d]), .emp) := by
  obtain ⟨h1, h2, h3, h4⟩ := h
  have b13 := bm_mono (b := lp y) (m := m + 1) (n := 13) (by omega) (by omega) (by omega)
  have b1 := bm_mono (b := lp y) (m := 1) (n := m) (by omega) h1 (by omega)
  rw [bm_13] at b13
  rw [bm_1] at b1
  have st := lp_step y
  have lpe : lpn y = if lp y = true then 1 else 0 := rfl
  rw [lpe] at st
  generalize hN : DN y m d = N
  have hN' : NY y + bm m (lp y) + d - 1 = N := hN
  have lo : NY y ≤ N := by omega
  have hi : N < NY (y + 1) := by omega
  have y0 := yr_lo N
  generalize hy : 2000 + 400 * (N / 146097) + N % 146097 / 366 = a at y0
  have ay : a ≤ y := by
    rcases Int.lt_or_le y a with z | z
    · have := ny_mono (a := y + 1) (b := a) (by omega); omega
    · exact z
  have w1 : sWhile (dTst (dOp gLe (dCallF 1 m_year_start [] (dCons (dOp gAdd (dV 1) (dC (.int 1))) dNil)) (dV 0))) (sSet 1 (dOp gAdd (dV 1) (dC (.int 1)))) [.p (.int N), .p (.int a), .emp, .emp] = .nx [.p (.int N), .p (.int y), .emp, .emp] := by
    have := while_up (t := dTst (dOp gLe (dCallF 1 m_year_start [] (dCons (dOp gAdd (dV 1) (dC (.int 1))) dNil)) (dV 0))) (b := sSet 1 (dOp gAdd (dV 1) (dC (.int 1)))) (mk := fun i => [.p (.int N), .p (.int i), .emp, .emp]) (y - a).toNat a (fun i hi1 hi2 => by
      have := ny_mono (a := i + 1) (b := y) (by omega)
      have q : NY (i + 1) ≤ N := by omega
      constructor
      · simp [e_ys, q, fnMir, mkEnv, ioOut, sSeq, sRet, sRetN, sSet, sDrop, sIf, sNext, sPar, tgsN, dOp, dV, dC, dCall, dCallF, dCallK, dNil, dCons, dSeq, dIf, dTst, dTru, D.tru, dNot, dNotV, R.bind_ok, ev_add, ev_sub, ev_mul, ev_divL, ev_mod, ev_cmp, ev_eq, ev_ne, ev_eqB, ev_neB, ev_eqS, ev_neS, ev_int, ev_intB, ev_abs, ev_pow]
      · simp [fnMir, mkEnv, ioOut, sSeq, sRet, sRetN, sSet, sDrop, sIf, sNext, sPar, tgsN, dOp, dV, dC, dCall, dCallF, dCallK, dNil, dCons, dSeq, dIf, dTst, dTru, D.tru, dNot, dNotV, R.bind_ok, ev_add, ev_sub, ev_mul, ev_divL, ev_mod, ev_cmp, ev_eq, ev_ne, ev_eqB, ev_neB, ev_eqS, ev_neS, ev_int, ev_intB, ev_abs, ev_pow]) (by
      have e : a + ((y - a).toNat : Int) = y := by omega
      have q : ¬ NY (y + 1) ≤ N := by omega
      simp only [e]
      simp [e_ys, q, fnMir, mkEnv, ioOut, sSeq, sRet, sRetN, sSet, sDrop, sIf, sNext, sPar, tgsN, dOp, dV, dC, dCall, dCallF, dCallK, dNil, dCons, dSeq, dIf, dTst, dTru, D.tru, dNot, dNotV, R.bind_ok, ev_add, ev_sub, ev_mul, ev_divL, ev_mod, ev_cmp, ev_eq, ev_ne, ev_eqB, ev_neB, ev_eqS, ev_neS, ev_int, ev_intB, ev_abs, ev_pow])
    have e : a + ((y - a).toNat : Int) = y := by omega
    rw [e] at this
    exact this
  have w2 : sWhile (dTst (dOp gLe (dCallF 2 m_day_before_month [] (dCons (dOp gAdd (dV 3) (dC (.int 1))) (dCons (dCallF 1 m_has_leap_day [] (dCons (dV 1) dNil)) dNil))) (dV 2))) (sSet 3 (dOp gAdd (dV 3) (dC (.int 1)))) [.p (.int N), .p (.int y), .p (.int (N - NY y)), .p (.int 1)] = .nx [.p (.int N), .p (.int y), .p (.int (N - NY y)), .p (.int m)] := by
    have := while_up (t := dTst (dOp gLe (dCallF 2 m_day_before_month [] (dCons (dOp gAdd (dV 3) (dC (.int 1))) (dCons (dCallF 1 m_has_leap_day [] (dCons (dV 1) dNil)) dNil))) (dV 2))) (b := sSet 3 (dOp gAdd (dV 3) (dC (.int 1)))) (mk := fun i => [.p (.int N), .p (.int y), .p (.int (N - NY y)), .p (.int i)]) (m - 1).toNat 1 (fun i hi1 hi2 => by
      have := bm_mono (b := lp y) (m := i + 1) (n := m) (by omega) (by omega) (by omega)
      have q : bm (i + 1) (lp y) ≤ N - NY y := by omega
      have bb := e_bm (m := i + 1) (lp y) (by omega) (by omega)
      constructor
      · simp [e_lp, bb, q, fnMir, mkEnv, ioOut, sSeq, sRet, sRetN, sSet, sDrop, sIf, sNext, sPar, tgsN, dOp, dV, dC, dCall, dCallF, dCallK, dNil, dCons, dSeq, dIf, dTst, dTru, D.tru, dNot, dNotV, R.bind_ok, ev_add, ev_sub, ev_mul, ev_divL, ev_mod, ev_cmp, ev_eq, ev_ne, ev_eqB, ev_neB, ev_eqS, ev_neS, ev_int, ev_intB, ev_abs, ev_pow]
      · simp [fnMir, mkEnv, ioOut, sSeq, sRet, sRetN, sSet, sDrop, sIf, sNext, sPar, tgsN, dOp, dV, dC, dCall, dCallF, dCallK, dNil, dCons, dSeq, dIf, dTst, dTru, D.tru, dNot, dNotV, R.bind_ok, ev_add, ev_sub, ev_mul, ev_divL, ev_mod, ev_cmp, ev_eq, ev_ne, ev_eqB, ev_neB, ev_eqS, ev_neS, ev_int, ev_intB, ev_abs, ev_pow]) (by
      have e : 1 + ((m - 1).toNat : Int) = m := by omega
      have q : ¬ bm (m + 1) (lp y) ≤ N - NY y := by omega
      have bb := e_bm (m := m + 1) (lp y) (by omega) (by omega)
      simp only [e]
      simp [e_lp, bb, q, fnMir, mkEnv, ioOut, sSeq, sRet, sRetN, sSet, sDrop, sIf, sNext, sPar, tgsN, dOp, dV, dC, dCall, dCallF, dCallK, dNil, dCons, dSeq, dIf, dTst, dTru, D.tru, dNot, dNotV, R.bind_ok, ev_add, ev_sub, ev_mul, ev_divL, ev_mod, ev_cmp, ev_eq, ev_ne, ev_eqB, ev_neB, ev_eqS, ev_neS, ev_int, ev_intB, ev_abs, ev_pow])
    have e : 1 + ((m - 1).toNat : Int) = m := by omega
    rw [e] at this
    exact this
  have s1 : sDrop (dCallF 1 m_need_numbers [] (dCons (dSeq .lst (dCons (dV 0) dNil)) dNil)) [.p (.int N), .emp, .emp, .emp] = .nx [.p (.int N), .emp, .emp, .emp] := by simp [e_need1, fnMir, mkEnv, ioOut, sSeq, sRet, sRetN, sSet, sDrop, sIf, sNext, sPar, tgsN, dOp, dV, dC, dCall, dCallF, dCallK, dNil, dCons, dSeq, dIf, dTst, dTru, D.tru, dNot, dNotV, R.bind_ok, ev_add, ev_sub, ev_mul, ev_divL, ev_mod, ev_cmp, ev_eq, ev_ne, ev_eqB, ev_neB, ev_eqS, ev_neS, ev_int, ev_intB, ev_abs, ev_pow]
  have s2 : sSet 1 (dOp gAdd (dOp gAdd (dC (.int 2000)) (dOp gMul (dC (.int 400)) (dOp gDiv (dV 0) (dC (.int 146097))))) (dOp gDiv (dOp gMod (dV 0) (dC (.int 146097))) (dC (.int 366)))) [.p (.int N), .emp, .emp, .emp] = .nx [.p (.int N), .p (.int a), .emp, .emp] := by
    simp [fnMir, mkEnv, ioOut, sSeq, sRet, sRetN, sSet, sDrop, sIf, sNext, sPar, tgsN, dOp, dV, dC, dCall, dCallF, dCallK, dNil, dCons, dSeq, dIf, dTst, dTru, D.tru, dNot, dNotV, R.bind_ok, ev_add, ev_sub, ev_mul, ev_divL, ev_mod, ev_cmp, ev_eq, ev_ne, ev_eqB, ev_neB, ev_eqS, ev_neS, ev_int, ev_intB, ev_abs, ev_pow]; exact hy
  have s3 : sPar [2, 3] (dCons (dOp PV.gSub (dV 0) (dCallF 1 m_year_start [] (dCons (dV 1) dNil))) (dCons (dC (.int 1)) dNil)) [.p (.int N), .p (.int y), .emp, .emp] = .nx [.p (.int N), .p (.int y), .p (.int (N - NY y)), .p (.int 1)] := by simp [e_ys, fnMir, mkEnv, ioOut, sSeq, sRet, sRetN, sSet, sDrop, sIf, sNext, sPar, tgsN, dOp, dV, dC, dCall, dCallF, dCallK, dNil, dCons, dSeq, dIf, dTst, dTru, D.tru, dNot, dNotV, R.bind_ok, ev_add, ev_sub, ev_mul, ev_divL, ev_mod, ev_cmp, ev_eq, ev_ne, ev_eqB, ev_neB, ev_eqS, ev_neS, ev_int, ev_intB, ev_abs, ev_pow]
  have bb := e_bm (m := m) (lp y) (by omega) (by omega)
  have s4 : sRet (dSeq .tup (dCons (dV 1) (dCons (dV 3) (dCons (dOp gAdd (dOp PV.gSub (dV 2) (dCallF 2 m_day_before_month [] (dCons (dV 3) (dCons (dCallF 1 m_has_leap_day [] (dCons (dV 1) dNil)) dNil)))) (dC (.int 1))) dNil)))) [.p (.int N), .p (.int y), .p (.int (N - NY y)), .p (.int m)] = .rt (.tup [.int y, .int m, .int d]) [.p (.int N), .p (.int y), .p (.int (N - NY y)), .p (.int m)] := by
    have e : N - NY y - bm m (lp y) + 1 = d := by omega
    simp [e_lp, bb, e, fnMir, mkEnv, ioOut, sSeq, sRet, sRetN, sSet, sDrop, sIf, sNext, sPar, tgsN, dOp, dV, dC, dCall, dCallF, dCallK, dNil, dCons, dSeq, dIf, dTst, dTru, D.tru, dNot, dNotV, R.bind_ok, ev_add, ev_sub, ev_mul, ev_divL, ev_mod, ev_cmp, ev_eq, ev_ne, ev_eqB, ev_neB, ev_eqS, ev_neS, ev_int, ev_intB, ev_abs, ev_pow]
  exact fnMir_rt (δ := [.p (.int N), .p (.int y), .p (.int (N - NY y)), .p (.int m)]) ((seq_nx s1).trans ((seq_nx s2).trans ((seq_nx w1).trans ((seq_nx s3).trans ((seq_nx w2).trans s4))))) rfl

/-! ### the law's own sums -/
theorem l_ny (y : Int) : m__law_new_year [.int y] .emp = some (.p (.int (NY y)), .emp) := by
  simp [m__law_new_year, b__law_new_year, NY, fnMir, mkEnv, ioOut, sSeq, sRet, sRetN, sSet, sDrop, sIf, sNext, sPar, tgsN, dOp, dV, dC, dCall, dCallF, dCallK, dNil, dCons, dSeq, dIf, dTst, dTru, D.tru, dNot, dNotV, R.bind_ok, ev_add, ev_sub, ev_mul, ev_divL, ev_mod, ev_cmp, ev_eq, ev_ne, ev_eqB, ev_neB, ev_eqS, ev_neS, ev_int, ev_intB, ev_abs, ev_pow]
theorem l_long (y : Int) : m__law_is_long [.int y] .emp = some (.p (.bl (lp y)), .emp) := by
  refine fnMir_rt (δ := [.p (.int y)]) ?_ rfl
  have h1 : dOp (gEq false) (dOp gMod (dCall gInt (dCons (dV 0) dNil)) (dC (.int 400))) (dC (.int 0)) [.p (.int y)] = .ok (.bl (decide (y % 400 = 0))) [.p (.int y)] := by simp [fnMir, mkEnv, ioOut, sSeq, sRet, sRetN, sSet, sDrop, sIf, sNext, sPar, tgsN, dOp, dV, dC, dCall, dCallF, dCallK, dNil, dCons, dSeq, dIf, dTst, dTru, D.tru, dNot, dNotV, R.bind_ok, ev_add, ev_sub, ev_mul, ev_divL, ev_mod, ev_cmp, ev_eq, ev_ne, ev_eqB, ev_neB, ev_eqS, ev_neS, ev_int, ev_intB, ev_abs, ev_pow]
  have h2 : dOp (gEq false) (dOp gMod (dCall gInt (dCons (dV 0) dNil)) (dC (.int 4))) (dC (.int 0)) [.p (.int y)] = .ok (.bl (decide (y % 4 = 0))) [.p (.int y)] := by simp [fnMir, mkEnv, ioOut, sSeq, sRet, sRetN, sSet, sDrop, sIf, sNext, sPar, tgsN, dOp, dV, dC, dCall, dCallF, dCallK, dNil, dCons, dSeq, dIf, dTst, dTru, D.tru, dNot, dNotV, R.bind_ok, ev_add, ev_sub, ev_mul, ev_divL, ev_mod, ev_cmp, ev_eq, ev_ne, ev_eqB, ev_neB, ev_eqS, ev_neS, ev_int, ev_intB, ev_abs, ev_pow]
  have h3 : dOp (gEq true) (dOp gMod (dCall gInt (dCons (dV 0) dNil)) (dC (.int 100))) (dC (.int 0)) [.p (.int y)] = .ok (.bl (!decide (y % 100 = 0))) [.p (.int y)] := by simp [fnMir, mkEnv, ioOut, sSeq, sRet, sRetN, sSet, sDrop, sIf, sNext, sPar, tgsN, dOp, dV, dC, dCall, dCallF, dCallK, dNil, dCons, dSeq, dIf, dTst, dTru, D.tru, dNot, dNotV, R.bind_ok, ev_add, ev_sub, ev_mul, ev_divL, ev_mod, ev_cmp, ev_eq, ev_ne, ev_eqB, ev_neB, ev_eqS, ev_neS, ev_int, ev_intB, ev_abs, ev_pow]
  show sRet _ [.p (.int y)] = _
  unfold sRet; rw [dOrV_bl h1 (dAndV_bl h2 h3)]
  have e : (decide (y % 400 = 0) || decide (y % 4 = 0) && !decide (y % 100 = 0)) = lp y := by
    unfold lp
    by_cases q1 : y % 400 = 0
    · have : y % 4 = 0 := by omega
      simp [q1, this]
    · simp [q1]
  rw [e]
def sz (m : Int) (b : Bool) : Int := bm (m + 1) b - bm m b
theorem l_size {y m : Int} (h1 : 1 ≤ m) (h2 : m ≤ 12) : m__law_size [.int y, .int m] .emp = some (.p (.int (sz m (lp y))), .emp) := by
  have q : dIf (dTru (dCallF 1 m__law_is_long [] (dCons (dV 0) dNil))) (dC (.int 29)) (dC (.int 28)) [.p (.int y), .p (.int m)] = .ok (.int (if lp y = true then 29 else 28)) [.p (.int y), .p (.int m)] := by
    cases hb : lp y <;> simp [l_long, hb, fnMir, mkEnv, ioOut, sSeq, sRet, sRetN, sSet, sDrop, sIf, sNext, sPar, tgsN, dOp, dV, dC, dCall, dCallF, dCallK, dNil, dCons, dSeq, dIf, dTst, dTru, D.tru, dNot, dNotV, R.bind_ok, ev_add, ev_sub, ev_mul, ev_divL, ev_mod, ev_cmp, ev_eq, ev_ne, ev_eqB, ev_neB, ev_eqS, ev_neS, ev_int, ev_intB, ev_abs, ev_pow]
  refine fnMir_rt (δ := [.p (.int y), .p (.int m)]) ?_ rfl
  show sRet _ [.p (.int y), .p (.int m)] = _
  simp only [sRet, dOp, dSeq, dCons, q, dC, R.bind_ok, dNil, dV, ev_sub]
  rcases month_cases h1 h2 with rfl | rfl | rfl | rfl | rfl | rfl | rfl | rfl | rfl | rfl | rfl | rfl <;> cases lp y <;> rfl
theorem l_month {y m : Int} (h1 : 1 ≤ m) (h2 : m ≤ 12) : m__law_month [.int y, .int m] .emp = some (.p (.int (NY y + bm m (lp y))), .emp) := by
  have e : NY (y + 1) - NY y - 365 = if lp y = true then 1 else 0 := by
    have := lp_step y
    have h : lpn y = if lp y = true then 1 else 0 := rfl
    omega
  have s1 : sSet 2 (dOp PV.gSub (dOp PV.gSub (dCallF 1 m__law_new_year [] (dCons (dOp gAdd (dV 0) (dC (.int 1))) dNil)) (dCallF 1 m__law_new_year [] (dCons (dV 0) dNil))) (dC (.int 365))) [.p (.int y), .p (.int m), .emp, .emp] = .nx [.p (.int y), .p (.int m), .p (.int (if lp y = true then 1 else 0)), .emp] := by
    simp [l_ny, fnMir, mkEnv, ioOut, sSeq, sRet, sRetN, sSet, sDrop, sIf, sNext, sPar, tgsN, dOp, dV, dC, dCall, dCallF, dCallK, dNil, dCons, dSeq, dIf, dTst, dTru, D.tru, dNot, dNotV, R.bind_ok, ev_add, ev_sub, ev_mul, ev_divL, ev_mod, ev_cmp, ev_eq, ev_ne, ev_eqB, ev_neB, ev_eqS, ev_neS, ev_int, ev_intB, ev_abs, ev_pow]
    exact e
  have s2 : sSet 3 (dSeq .lst (dCons (dC (.int 31)) (dCons (dOp gAdd (dC (.int 28)) (dV 2)) (dCons (dC (.int 31)) (dCons (dC (.int 30)) (dCons (dC (.int 31)) (dCons (dC (.int 30)) (dCons (dC (.int 31)) (dCons (dC (.int 31)) (dCons (dC (.int 30)) (dCons (dC (.int 31)) (dCons (dC (.int 30)) (dCons (dC (.int 31)) dNil))))))))))))) [.p (.int y), .p (.int m), .p (.int (if lp y = true then 1 else 0)), .emp] =
      .nx [.p (.int y), .p (.int m), .p (.int (if lp y = true then 1 else 0)), .p (.lst [.int 31, .int (28 + (if lp y = true then 1 else 0)), .int 31, .int 30, .int 31, .int 30, .int 31, .int 31, .int 30, .int 31, .int 30, .int 31])] := by simp [fnMir, mkEnv, ioOut, sSeq, sRet, sRetN, sSet, sDrop, sIf, sNext, sPar, tgsN, dOp, dV, dC, dCall, dCallF, dCallK, dNil, dCons, dSeq, dIf, dTst, dTru, D.tru, dNot, dNotV, R.bind_ok, ev_add, ev_sub, ev_mul, ev_divL, ev_mod, ev_cmp, ev_eq, ev_ne, ev_eqB, ev_neB, ev_eqS, ev_neS, ev_int, ev_intB, ev_abs, ev_pow]
  refine fnMir_rt (δ := [.p (.int y), .p (.int m), .p (.int (if lp y = true then 1 else 0)), .p (.lst [.int 31, .int (28 + (if lp y = true then 1 else 0)), .int 31, .int 30, .int 31, .int 30, .int 31, .int 31, .int 30, .int 31, .int 30, .int 31])]) ((seq_nx s1).trans ((seq_nx s2).trans ?_)) rfl
  have q : dCall gSum (dCons (dSl (dV 3) dNo (dPart (dOp PV.gSub (dV 1) (dC (.int 1))))) dNil) [.p (.int y), .p (.int m), .p (.int (if lp y = true then 1 else 0)), .p (.lst [.int 31, .int (28 + (if lp y = true then 1 else 0)), .int 31, .int 30, .int 31, .int 30, .int 31, .int 31, .int 30, .int 31, .int 30, .int 31])] = .ok (.int (bm m (lp y))) [.p (.int y), .p (.int m), .p (.int (if lp y = true then 1 else 0)), .p (.lst [.int 31, .int (28 + (if lp y = true then 1 else 0)), .int 31, .int 30, .int 31, .int 30, .int 31, .int 31, .int 30, .int 31, .int 30, .int 31])] := by
    rcases month_cases h1 h2 with rfl | rfl | rfl | rfl | rfl | rfl | rfl | rfl | rfl | rfl | rfl | rfl <;> cases lp y <;> rfl
  have q0 : dCallF 1 m__law_new_year [] (dCons (dV 0) dNil) [.p (.int y), .p (.int m), .p (.int (if lp y = true then 1 else 0)), .p (.lst [.int 31, .int (28 + (if lp y = true then 1 else 0)), .int 31, .int 30, .int 31, .int 30, .int 31, .int 31, .int 30, .int 31, .int 30, .int 31])] = .ok (.int (NY y)) [.p (.int y), .p (.int m), .p (.int (if lp y = true then 1 else 0)), .p (.lst [.int 31, .int (28 + (if lp y = true then 1 else 0)), .int 31, .int 30, .int 31, .int 30, .int 31, .int 31, .int 30, .int 31, .int 30, .int 31])] := by simp [l_ny, fnMir, mkEnv, ioOut, sSeq, sRet, sRetN, sSet, sDrop, sIf, sNext, sPar, tgsN, dOp, dV, dC, dCall, dCallF, dCallK, dNil, dCons, dSeq, dIf, dTst, dTru, D.tru, dNot, dNotV, R.bind_ok, ev_add, ev_sub, ev_mul, ev_divL, ev_mod, ev_cmp, ev_eq, ev_ne, ev_eqB, ev_neB, ev_eqS, ev_neS, ev_int, ev_intB, ev_abs, ev_pow]
  exact sRet_ok (dOp_ok q0 q (ev_add _ _))
/-! ### the checks -/
/-- years that are drawn -/
def Yr (y : Int) : Prop := -10000000000000000000000000000 < y ∧ y < 10000000000000000000000000000
theorem ny_bd {y : Int} (h : Yr y) : -4000000000000000000000000000000 < NY y ∧ NY y < 4000000000000000000000000000000 := by
  obtain ⟨h1, h2⟩ := h
  unfold NY; omega
theorem sm_big {n : Int} (h : -5000000000000000000000000000000 < n) (h2 : n < 5000000000000000000000000000000) : Sm n := sm_of (by have : (10 : Nat) ^ 60 = 1000000000000000000000000000000000000000000000000000000000000 := by decide
                                                                                                                                   omega)
theorem sz_ge {m : Int} (b : Bool) (h1 : 1 ≤ m) (h2 : m ≤ 12) : 28 ≤ sz m b ∧ sz m b ≤ 31 := by
  have := bm_lt b h1 h2; unfold sz; omega
/-! ### a drawn year -/
theorem some_year (S : LSt) (b : Nat) (h : Gd (b + 9) S) : ∃ (y : Int) (S' : LSt), m__law_some_year [] (.st S) = some (.p (.int y), .st S') ∧ Yr y ∧ Gd b S' := by
  obtain ⟨v1, S1, t1, a1, b1, g1⟩ := e_take 1000000000 S (b + 8) h (by omega) (by omega)
  obtain ⟨v2, S2, t2, a2, b2, g2⟩ := e_take 1000000000 S1 (b + 7) g1 (by omega) (by omega)
  obtain ⟨v3, S3, t3, a3, b3, g3⟩ := e_take 1000000000 S2 (b + 6) g2 (by omega) (by omega)
  obtain ⟨v4, S4, t4, a4, b4, g4⟩ := e_take 60 S3 (b + 5) g3 (by omega) (by omega)
  obtain ⟨v5, S5, t5, a5, b5, g5⟩ := e_take 61 S4 (b + 4) g4 (by omega) (by omega)
  obtain ⟨v6, S6, t6, a6, b6, g6⟩ := e_take 3 S5 (b + 3) g5 (by omega) (by omega)
  obtain ⟨v7, S7, t7, a7, b7, g7⟩ := e_take 2000000 S6 (b + 2) g6 (by omega) (by omega)
  obtain ⟨v8, S8, t8, a8, b8, g8⟩ := e_take 5 S7 (b + 1) g7 (by omega) (by omega)
  obtain ⟨v9, S9, t9, a9, b9, g9⟩ := e_take 5 S8 b g8 (by omega) (by omega)
  have lp1 : sFor (iCall gRange1 (dCons (dC (.int 3)) dNil)) (tgN 2) (sSet 1 (dOp gAdd (dOp gMul (dV 1) (dOp gPow (dC (.int 10)) (dC (.int 9)))) (dCallS 2 0 0 m__law_take (dHere 0 (dCons (dOp gPow (dC (.int 10)) (dC (.int 9))) dNil))))) [.st S, .p (.int 0), .emp, .emp] = .nx [.st S3, .p (.int (((0 * 1000000000 + v1) * 1000000000 + v2) * 1000000000 + v3)), .p (.int 2), .emp] := by
    refine (sFor_ok (l := [.int 0, .int 1, .int 2]) (δ1 := [.st S, .p (.int 0), .emp, .emp]) rfl).trans ?_
    refine (forD_nx rfl (δ2 := [.st S1, .p (.int (0 * 1000000000 + v1)), .p (.int 0), .emp]) ?_).trans ((forD_nx rfl (δ2 := [.st S2, .p (.int ((0 * 1000000000 + v1) * 1000000000 + v2)), .p (.int 1), .emp]) ?_).trans ((forD_nx rfl (δ2 := [.st S3, .p (.int (((0 * 1000000000 + v1) * 1000000000 + v2) * 1000000000 + v3)), .p (.int 2), .emp]) ?_).trans rfl))
    · simp [dCallS, dHere, t1, fnMir, mkEnv, ioOut, sSeq, sRet, sRetN, sSet, sDrop, sIf, sNext, sPar, tgsN, dOp, dV, dC, dCall, dCallF, dCallK, dNil, dCons, dSeq, dIf, dTst, dTru, D.tru, dNot, dNotV, R.bind_ok, ev_add, ev_sub, ev_mul, ev_divL, ev_mod, ev_cmp, ev_eq, ev_ne, ev_eqB, ev_neB, ev_eqS, ev_neS, ev_int, ev_intB, ev_abs, ev_pow]
    · simp [dCallS, dHere, t2, fnMir, mkEnv, ioOut, sSeq, sRet, sRetN, sSet, sDrop, sIf, sNext, sPar, tgsN, dOp, dV, dC, dCall, dCallF, dCallK, dNil, dCons, dSeq, dIf, dTst, dTru, D.tru, dNot, dNotV, R.bind_ok, ev_add, ev_sub, ev_mul, ev_divL, ev_mod, ev_cmp, ev_eq, ev_ne, ev_eqB, ev_neB, ev_eqS, ev_neS, ev_int, ev_intB, ev_abs, ev_pow]
    · simp [dCallS, dHere, t3, fnMir, mkEnv, ioOut, sSeq, sRet, sRetN, sSet, sDrop, sIf, sNext, sPar, tgsN, dOp, dV, dC, dCall, dCallF, dCallK, dNil, dCons, dSeq, dIf, dTst, dTru, D.tru, dNot, dNotV, R.bind_ok, ev_add, ev_sub, ev_mul, ev_divL, ev_mod, ev_cmp, ev_eq, ev_ne, ev_eqB, ev_neB, ev_eqS, ev_neS, ev_int, ev_intB, ev_abs, ev_pow]
  generalize hf : ((0 * 1000000000 + v1) * 1000000000 + v2) * 1000000000 + v3 = far at lp1
  have s1 : sSet 3 (dSeq .lst (dCons (dOp gAdd (dC (.int 1990)) (dCallS 2 0 0 m__law_take (dHere 0 (dCons (dC (.int 60)) dNil)))) (dCons (dOp PV.gSub (dOp gAdd (dOp gMul (dC (.int 100)) (dOp PV.gSub (dCallS 2 0 0 m__law_take (dHere 0 (dCons (dC (.int 61)) dNil))) (dC (.int 10)))) (dCallS 2 0 0 m__law_take (dHere 0 (dCons (dC (.int 3)) dNil)))) (dC (.int 1))) dNil))) [.st S3, .p (.int far), .p (.int 2), .emp] = .nx [.st S6, .p (.int far), .p (.int 2), .p (.lst [.int (1990 + v4), .int (100 * (v5 - 10) + v6 - 1)])] := by
    simp [dCallS, dHere, t4, t5, t6, fnMir, mkEnv, ioOut, sSeq, sRet, sRetN, sSet, sDrop, sIf, sNext, sPar, tgsN, dOp, dV, dC, dCall, dCallF, dCallK, dNil, dCons, dSeq, dIf, dTst, dTru, D.tru, dNot, dNotV, R.bind_ok, ev_add, ev_sub, ev_mul, ev_divL, ev_mod, ev_cmp, ev_eq, ev_ne, ev_eqB, ev_neB, ev_eqS, ev_neS, ev_int, ev_intB, ev_abs, ev_pow]
  have s2 : sSet 3 (dOp gAdd (dV 3) (dSeq .lst (dCons (dOp PV.gSub (dOp gAdd (dOp gMul (dC (.int 400)) (dOp PV.gSub (dCallS 2 0 0 m__law_take (dHere 0 (dCons (dOp gMul (dC (.int 2)) (dOp gPow (dC (.int 10)) (dC (.int 6)))) dNil))) (dOp gPow (dC (.int 10)) (dC (.int 6))))) (dCallS 2 0 0 m__law_take (dHere 0 (dCons (dC (.int 5)) dNil)))) (dC (.int 2))) (dCons (dV 1) (dCons (dOp PV.gSub (dC (.int 0)) (dV 1)) dNil))))) [.st S6, .p (.int far), .p (.int 2), .p (.lst [.int (1990 + v4), .int (100 * (v5 - 10) + v6 - 1)])] =
      .nx [.st S8, .p (.int far), .p (.int 2), .p (.lst [.int (1990 + v4), .int (100 * (v5 - 10) + v6 - 1), .int (400 * (v7 - 1000000) + v8 - 2), .int far, .int (0 - far)])] := by
    simp [dCallS, dHere, t7, t8, gAdd, fnMir, mkEnv, ioOut, sSeq, sRet, sRetN, sSet, sDrop, sIf, sNext, sPar, tgsN, dOp, dV, dC, dCall, dCallF, dCallK, dNil, dCons, dSeq, dIf, dTst, dTru, D.tru, dNot, dNotV, R.bind_ok, ev_add, ev_sub, ev_mul, ev_divL, ev_mod, ev_cmp, ev_eq, ev_ne, ev_eqB, ev_neB, ev_eqS, ev_neS, ev_int, ev_intB, ev_abs, ev_pow]
  have s3 : ∃ y, Yr y ∧ sRet (dOp gIx (dV 3) (dCallS 2 0 0 m__law_take (dHere 0 (dCons (dC (.int 5)) dNil)))) [.st S8, .p (.int far), .p (.int 2), .p (.lst [.int (1990 + v4), .int (100 * (v5 - 10) + v6 - 1), .int (400 * (v7 - 1000000) + v8 - 2), .int far, .int (0 - far)])] = .rt (.int y) [.st S9, .p (.int far), .p (.int 2), .p (.lst [.int (1990 + v4), .int (100 * (v5 - 10) + v6 - 1), .int (400 * (v7 - 1000000) + v8 - 2), .int far, .int (0 - far)])] := by
    have q : dCallS 2 0 0 m__law_take (dHere 0 (dCons (dC (.int 5)) dNil)) [.st S8, .p (.int far), .p (.int 2), .p (.lst [.int (1990 + v4), .int (100 * (v5 - 10) + v6 - 1), .int (400 * (v7 - 1000000) + v8 - 2), .int far, .int (0 - far)])] = .ok (.int v9) [.st S9, .p (.int far), .p (.int 2), .p (.lst [.int (1990 + v4), .int (100 * (v5 - 10) + v6 - 1), .int (400 * (v7 - 1000000) + v8 - 2), .int far, .int (0 - far)])] := by
      simp [dCallS, dHere, t9, fnMir, mkEnv, ioOut, sSeq, sRet, sRetN, sSet, sDrop, sIf, sNext, sPar, tgsN, dOp, dV, dC, dCall, dCallF, dCallK, dNil, dCons, dSeq, dIf, dTst, dTru, D.tru, dNot, dNotV, R.bind_ok, ev_add, ev_sub, ev_mul, ev_divL, ev_mod, ev_cmp, ev_eq, ev_ne, ev_eqB, ev_neB, ev_eqS, ev_neS, ev_int, ev_intB, ev_abs, ev_pow]
    have c9 : v9 = 0 ∨ v9 = 1 ∨ v9 = 2 ∨ v9 = 3 ∨ v9 = 4 := by omega
    rcases c9 with rfl | rfl | rfl | rfl | rfl
    · exact ⟨1990 + v4, ⟨by omega, by omega⟩, sRet_ok (dOp_ok rfl q rfl)⟩
    · exact ⟨100 * (v5 - 10) + v6 - 1, ⟨by omega, by omega⟩, sRet_ok (dOp_ok rfl q rfl)⟩
    · exact ⟨400 * (v7 - 1000000) + v8 - 2, ⟨by omega, by omega⟩, sRet_ok (dOp_ok rfl q rfl)⟩
    · exact ⟨far, ⟨by omega, by omega⟩, sRet_ok (dOp_ok rfl q rfl)⟩
    · exact ⟨0 - far, ⟨by omega, by omega⟩, sRet_ok (dOp_ok rfl q rfl)⟩
  obtain ⟨y, hy, s3⟩ := s3
  refine ⟨y, S9, fnMir_rt ((seq_nx (δ1 := [.st S, .p (.int 0), .emp, .emp]) rfl).trans ((seq_nx lp1).trans ((seq_nx s1).trans ((seq_nx s2).trans s3)))) rfl, hy, g9⟩

/-! ### each day has a date -/
theorem yr_find : ∀ (n : Nat) (a N : Int), NY a ≤ N → N < NY (a + n) → ∃ y, NY y ≤ N ∧ N < NY (y + 1)
  | 0, a, N, h1, h2 => by
    have e : a + ((0 : Nat) : Int) = a := by omega
    rw [e] at h2; omega
  | n + 1, a, N, h1, h2 => by
    by_cases h : N < NY (a + 1)
    · exact ⟨a, h1, h⟩
    · refine yr_find n (a + 1) N (by omega) ?_
      have e : a + ((n + 1 : Nat) : Int) = a + 1 + n := by omega
      rw [← e]; exact h2
def IsY (N y : Int) : Prop := NY y ≤ N ∧ N < NY (y + 1)
theorem isY_ex (N : Int) : ∃ y, IsY N y := by
  refine yr_find 400 (2000 + 400 * (N / 146097)) N ?_ ?_
  · unfold NY
    have h1 := Int.emod_nonneg N (show (146097 : Int) ≠ 0 by omega)
    have h3 := Int.emod_add_mul_ediv N 146097
    generalize hq : N / 146097 = q at *
    omega
  · unfold NY
    have h2 := Int.emod_lt_of_pos N (show (0 : Int) < 146097 by omega)
    have h3 := Int.emod_add_mul_ediv N 146097
    generalize hq : N / 146097 = q at *
    have e : (2000 + 400 * q + ((400 : Nat) : Int)) = 2400 + 400 * q := by omega
    rw [e]
    omega
theorem isY_le {N y a : Int} (h : IsY N y) (ha : NY a ≤ N) : a ≤ y := by
  rcases Int.lt_or_le y a with z | z
  · have := ny_mono (a := y + 1) (b := a) (by omega); have := h.2; omega
  · exact z
theorem isY_uniq {N y z : Int} (h : IsY N y) (g : IsY N z) : y = z := by
  have := isY_le h g.1; have := isY_le g h.1; omega
theorem ny_len (y : Int) : NY y + 365 ≤ NY (y + 1) ∧ NY (y + 1) ≤ NY y + 366 := by
  have := lp_step y; have := lpn_le y; omega
theorem dt_isY {y m d : Int} (h : Dt y m d) : IsY (DN y m d) y := by
  obtain ⟨h1, h2, h3, h4⟩ := h
  have b13 := bm_mono (b := lp y) (m := m + 1) (n := 13) (by omega) (by omega) (by omega)
  have b1 := bm_mono (b := lp y) (m := 1) (n := m) (by omega) h1 (by omega)
  rw [bm_13] at b13
  rw [bm_1] at b1
  have st := lp_step y
  have lpe : lpn y = if lp y = true then 1 else 0 := rfl
  rw [lpe] at st
  unfold IsY DN
  omega
theorem mo_find (b : Bool) : ∀ (n : Nat) (a r : Int), 1 ≤ a → bm a b ≤ r → r < bm (a + n) b → a + n ≤ 13 → ∃ m, 1 ≤ m ∧ m ≤ 12 ∧ bm m b ≤ r ∧ r < bm (m + 1) b
  | 0, a, r, _, h1, h2, _ => by
    have e : a + ((0 : Nat) : Int) = a := by omega
    rw [e] at h2; omega
  | n + 1, a, r, h0, h1, h2, h3 => by
    by_cases h : r < bm (a + 1) b
    · exact ⟨a, h0, by omega, h1, h⟩
    · refine mo_find b n (a + 1) r (by omega) (by omega) ?_ (by omega)
      have e : a + ((n + 1 : Nat) : Int) = a + 1 + n := by omega
      rw [← e]; exact h2
theorem dt_ex {N y : Int} (h : IsY N y) : ∃ m d, Dt y m d ∧ DN y m d = N := by
  obtain ⟨h1, h2⟩ := h
  have st := lp_step y
  have lpe : lpn y = if lp y = true then 1 else 0 := rfl
  rw [lpe] at st
  have e13 : bm 13 (lp y) = 365 + (if lp y = true then 1 else 0) := bm_13 _
  obtain ⟨m, a1, a2, a3, a4⟩ := mo_find (lp y) 12 1 (N - NY y) (by omega) (by rw [bm_1]; omega) (by show N - NY y < bm 13 (lp y); omega) (by omega)
  refine ⟨m, N - NY y - bm m (lp y) + 1, ⟨a1, a2, by omega, by omega⟩, ?_⟩
  unfold DN; omega
theorem e_dateN {N y : Int} (h : IsY N y) : ∃ m d, m_date_of [.int N] .emp = some (.p (.tup [.int y, .int m, .int d]), .emp) := by
  obtain ⟨m, d, h1, h2⟩ := dt_ex h
  have := e_dateof h1
  rw [h2] at this
  exact ⟨m, d, this⟩
/-- the week's year and number: of the day th, a Thursday -/
theorem e_week {N Y : Int} (h : IsY (N - (N + 5) % 7 + 3) Y) : m_week_of [.int N] .emp = some (.p (.tup [.int Y, .int ((N - (N + 5) % 7 + 3 - NY Y) / 7 + 1), .int ((N + 5) % 7 + 1)]), .emp) := by
  obtain ⟨m, d, q⟩ := e_dateN h
  simp [m_week_of, b_week_of, e_need1, e_wd, e_ys, q, ev_t3_0, fnMir, mkEnv, ioOut, sSeq, sRet, sRetN, sSet, sDrop, sIf, sNext, sPar, tgsN, dOp, dV, dC, dCall, dCallF, dCallK, dNil, dCons, dSeq, dIf, dTst, dTru, D.tru, dNot, dNotV, R.bind_ok, ev_add, ev_sub, ev_mul, ev_divL, ev_mod, ev_cmp, ev_eq, ev_ne, ev_eqB, ev_neB, ev_eqS, ev_neS, ev_int, ev_intB, ev_abs, ev_pow]

/-! ### the law -/
theorem l_next {y m d : Int} (h : Dt y m d) : ∃ y' m' d', m__law_next_date [.tup [.int y, .int m, .int d]] .emp = some (.p (.tup [.int y', .int m', .int d']), .emp) ∧ Dt y' m' d' ∧ DN y' m' d' = DN y m d + 1 := by
  obtain ⟨h1, h2, h3, h4⟩ := h
  have ls := l_size (y := y) h1 h2
  by_cases c1 : d < sz m (lp y)
  · refine ⟨y, m, d + 1, ?_, ⟨h1, h2, by omega, by unfold sz at c1; omega⟩, by unfold DN; omega⟩
    simp [m__law_next_date, b__law_next_date, sAsg, tgT, ls, c1, fnMir, mkEnv, ioOut, sSeq, sRet, sRetN, sSet, sDrop, sIf, sNext, sPar, tgsN, dOp, dV, dC, dCall, dCallF, dCallK, dNil, dCons, dSeq, dIf, dTst, dTru, D.tru, dNot, dNotV, R.bind_ok, ev_add, ev_sub, ev_mul, ev_divL, ev_mod, ev_cmp, ev_eq, ev_ne, ev_eqB, ev_neB, ev_eqS, ev_neS, ev_int, ev_intB, ev_abs, ev_pow]
  · have ed : d = sz m (lp y) := by unfold sz at c1 ⊢; omega
    by_cases c2 : m < 12
    · refine ⟨y, m + 1, 1, ?_, ⟨by omega, by omega, by omega, ?_⟩, ?_⟩
      · simp [m__law_next_date, b__law_next_date, sAsg, tgT, ls, c1, c2, fnMir, mkEnv, ioOut, sSeq, sRet, sRetN, sSet, sDrop, sIf, sNext, sPar, tgsN, dOp, dV, dC, dCall, dCallF, dCallK, dNil, dCons, dSeq, dIf, dTst, dTru, D.tru, dNot, dNotV, R.bind_ok, ev_add, ev_sub, ev_mul, ev_divL, ev_mod, ev_cmp, ev_eq, ev_ne, ev_eqB, ev_neB, ev_eqS, ev_neS, ev_int, ev_intB, ev_abs, ev_pow]
      · have := bm_lt (m := m + 1) (lp y) (by omega) (by omega); omega
      · unfold DN; unfold sz at ed; omega
    · have em : m = 12 := by omega
      subst em
      refine ⟨y + 1, 1, 1, ?_, ⟨by omega, by omega, by omega, by have := bm_lt (m := 1) (lp (y + 1)) (by omega) (by omega); omega⟩, ?_⟩
      · simp [m__law_next_date, b__law_next_date, sAsg, tgT, ls, c1, fnMir, mkEnv, ioOut, sSeq, sRet, sRetN, sSet, sDrop, sIf, sNext, sPar, tgsN, dOp, dV, dC, dCall, dCallF, dCallK, dNil, dCons, dSeq, dIf, dTst, dTru, D.tru, dNot, dNotV, R.bind_ok, ev_add, ev_sub, ev_mul, ev_divL, ev_mod, ev_cmp, ev_eq, ev_ne, ev_eqB, ev_neB, ev_eqS, ev_neS, ev_int, ev_intB, ev_abs, ev_pow]
      · have st := lp_step y
        have lpe : lpn y = if lp y = true then 1 else 0 := rfl
        have e13 : bm 13 (lp y) = 365 + (if lp y = true then 1 else 0) := bm_13 _
        have e12 : (12 : Int) + 1 = 13 := by omega
        unfold sz at ed
        rw [e12] at ed
        unfold DN
        rw [bm_1]
        omega
/-- week number of Monday M, by the year Y of its Thursday -/
def WN (M Y : Int) : Int := (M + 3 - NY Y) / 7 + 1
theorem l_nextweek {M Y k y m d : Int} (hY : IsY (M + 3) Y) (hk : k = WN M Y) (h : Dt y m d) (hN : DN y m d = M + 7) : ∃ Y', m__law_next_week [.tup [.int Y, .int k], .tup [.int y, .int m, .int d]] .emp = some (.p (.tup [.int Y', .int (WN (M + 7) Y')]), .emp) ∧ IsY (M + 7 + 3) Y' := by
  obtain ⟨y1, m1, d1, q1, t1, n1⟩ := l_next h
  obtain ⟨y2, m2, d2, q2, t2, n2⟩ := l_next t1
  obtain ⟨y3, m3, d3, q3, t3, n3⟩ := l_next t2
  have iy : IsY (M + 7 + 3) y3 := by
    have := dt_isY t3
    have e : DN y3 m3 d3 = M + 7 + 3 := by omega
    rwa [e] at this
  refine ⟨y3, ?_, iy⟩
  by_cases c : y3 = Y
  · subst c
    have e : k + 1 = WN (M + 7) y3 := by rw [hk]; unfold WN; omega
    simp [m__law_next_week, b__law_next_week, q1, q2, q3, ev_t3_0, ev_t2_0, ev_t2_1, e, fnMir, mkEnv, ioOut, sSeq, sRet, sRetN, sSet, sDrop, sIf, sNext, sPar, tgsN, dOp, dV, dC, dCall, dCallF, dCallK, dNil, dCons, dSeq, dIf, dTst, dTru, D.tru, dNot, dNotV, R.bind_ok, ev_add, ev_sub, ev_mul, ev_divL, ev_mod, ev_cmp, ev_eq, ev_ne, ev_eqB, ev_neB, ev_eqS, ev_neS, ev_int, ev_intB, ev_abs, ev_pow]
  · have lt : Y + 1 ≤ y3 := by
      have := isY_le iy (a := Y) (by have := hY.1; omega)
      omega
    have := ny_mono lt
    have e : WN (M + 7) y3 = 1 := by
      have a1 := hY.2; have a2 := iy.1
      unfold WN
      have : (M + 7 + 3 - NY y3) / 7 = 0 := by omega
      omega
    rw [e]
    simp [m__law_next_week, b__law_next_week, q1, q2, q3, ev_t3_0, ev_t2_0, c, fnMir, mkEnv, ioOut, sSeq, sRet, sRetN, sSet, sDrop, sIf, sNext, sPar, tgsN, dOp, dV, dC, dCall, dCallF, dCallK, dNil, dCons, dSeq, dIf, dTst, dTru, D.tru, dNot, dNotV, R.bind_ok, ev_add, ev_sub, ev_mul, ev_divL, ev_mod, ev_cmp, ev_eq, ev_ne, ev_eqB, ev_neB, ev_eqS, ev_neS, ev_int, ev_intB, ev_abs, ev_pow]
/-- the body of the law's search: one year tried -/
theorem fw_try {y m d nb monday one : Int} (x5 x8 x9 : Sl) (bg : Int) : (sSeq (sSet 8 (dOp gAdd (dCallF 1 m__law_new_year [] (dCons (dV 7) dNil)) (dC (.int 3))))
  (sSeq (sSet 9 (dOp PV.gSub (dV 8) (dOp gMod (dCall gInt (dCons (dOp gAdd (dV 8) (dC (.int 5))) dNil)) (dC (.int 7)))))
  (sIf (dTst (dOp gGe (dV 6) (dV 9)))
   (sRet (dSeq .tup (dCons (dV 7) (dCons (dOp gAdd (dOp gDiv (dOp PV.gSub (dV 6) (dV 9)) (dC (.int 7))) (dC (.int 1))) dNil))))
   sNext))) [.p (.tup [.int y, .int m, .int d]), .p (.int nb), .p (.int y), .p (.int m), .p (.int d), x5, .p (.int monday), .p (.int one), x8, x9] =
  if monday ≥ NY one + 3 - (NY one + 3 + 5) % 7 then .rt (.tup [.int one, .int ((monday - (NY one + 3 - (NY one + 3 + 5) % 7)) / 7 + 1)]) [.p (.tup [.int y, .int m, .int d]), .p (.int nb), .p (.int y), .p (.int m), .p (.int d), x5, .p (.int monday), .p (.int one), .p (.int (NY one + 3)), .p (.int (NY one + 3 - (NY one + 3 + 5) % 7))]
  else .nx [.p (.tup [.int y, .int m, .int d]), .p (.int nb), .p (.int y), .p (.int m), .p (.int d), x5, .p (.int monday), .p (.int one), .p (.int (NY one + 3)), .p (.int (NY one + 3 - (NY one + 3 + 5) % 7))] := by
  by_cases c : NY one + 3 - (NY one + 3 + 5) % 7 ≤ monday
  · rw [if_pos c]; simp [l_ny, c, fnMir, mkEnv, ioOut, sSeq, sRet, sRetN, sSet, sDrop, sIf, sNext, sPar, tgsN, dOp, dV, dC, dCall, dCallF, dCallK, dNil, dCons, dSeq, dIf, dTst, dTru, D.tru, dNot, dNotV, R.bind_ok, ev_add, ev_sub, ev_mul, ev_divL, ev_mod, ev_cmp, ev_eq, ev_ne, ev_eqB, ev_neB, ev_eqS, ev_neS, ev_int, ev_intB, ev_abs, ev_pow]
  · rw [if_neg c]; simp [l_ny, c, fnMir, mkEnv, ioOut, sSeq, sRet, sRetN, sSet, sDrop, sIf, sNext, sPar, tgsN, dOp, dV, dC, dCall, dCallF, dCallK, dNil, dCons, dSeq, dIf, dTst, dTru, D.tru, dNot, dNotV, R.bind_ok, ev_add, ev_sub, ev_mul, ev_divL, ev_mod, ev_cmp, ev_eq, ev_ne, ev_eqB, ev_neB, ev_eqS, ev_neS, ev_int, ev_intB, ev_abs, ev_pow]
theorem fw_cmp {M one Y : Int} (hM : (M + 5) % 7 = 0) (hY : IsY (M + 3) Y) : (NY one + 3 - (NY one + 3 + 5) % 7 ≤ M ↔ one ≤ Y) ∧ (one = Y → (M - (NY one + 3 - (NY one + 3 + 5) % 7)) / 7 + 1 = WN M Y) := by
  constructor
  · constructor
    · intro h
      exact isY_le hY (by omega)
    · intro h
      have := ny_mono h
      have := hY.1
      omega
  · rintro rfl
    unfold WN; omega
theorem forD_rt {g : D → PV.Env → Option PV.Env} {b : PV.Env → SRes} {d x : D} {ds : List D} {δ δ1 δ2 : PV.Env} (h1 : g d δ = some δ1) (h2 : b δ1 = .rt x δ2) : forD g b (d :: ds) δ = .rt x δ2 := by
  show (match g d δ with | none => SRes.bad | some δ1 => match b δ1 with | .nx δ2 => forD g b ds δ2 | .ct δ2 => forD g b ds δ2 | .bk δ2 => .nx δ2 | .rt x δ2 => .rt x δ2 | .bad => .bad) = _
  rw [h1]; dsimp only; rw [h2]
theorem l_first {y m d : Int} (h : Dt y m d) : ∃ Y, m__law_first_week [.tup [.int y, .int m, .int d], .int ((DN y m d + 5) % 7)] .emp = some (.p (.tup [.int Y, .int (WN (DN y m d - (DN y m d + 5) % 7) Y)]), .emp) ∧ IsY (DN y m d - (DN y m d + 5) % 7 + 3) Y := by
  generalize hN : DN y m d = N
  have iN : IsY N y := by rw [← hN]; exact dt_isY h
  generalize hM : N - (N + 5) % 7 = M
  have m0 : (M + 5) % 7 = 0 := by omega
  obtain ⟨Y, hY⟩ := isY_ex (M + 3)
  refine ⟨Y, ?_, hY⟩
  have y1 : Y ≤ y + 1 := isY_le (y := y + 1) (N := NY (y + 1)) ⟨Int.le_refl _, by have := ny_len (y + 1); omega⟩ (by
    have := hY.1; have := iN.2
    rcases Int.lt_or_le (y + 1) Y with z | z
    · have := ny_mono (a := y + 1 + 1) (b := Y) (by omega); have := ny_len (y + 1); omega
    · exact ny_mono z)
  have y2 : y - 1 ≤ Y := isY_le hY (by
    have := iN.1; have := ny_len (y - 1)
    have e : y - 1 + 1 = y := by omega
    rw [e] at this
    omega)
  have lm := l_month (y := y) h.1 h.2.1
  have eM : NY y + bm m (lp y) + d - 1 - (N + 5) % 7 = M := by
    rw [← hM, ← hN]; unfold DN; omega
  have s1 : sAsg (tgT [2, 3, 4]) (dV 0) [.p (.tup [.int y, .int m, .int d]), .p (.int ((N + 5) % 7)), .emp, .emp, .emp, .emp, .emp, .emp, .emp, .emp] = .nx [.p (.tup [.int y, .int m, .int d]), .p (.int ((N + 5) % 7)), .p (.int y), .p (.int m), .p (.int d), .emp, .emp, .emp, .emp, .emp] := by
    simp [sAsg, tgT, fnMir, mkEnv, ioOut, sSeq, sRet, sRetN, sSet, sDrop, sIf, sNext, sPar, tgsN, dOp, dV, dC, dCall, dCallF, dCallK, dNil, dCons, dSeq, dIf, dTst, dTru, D.tru, dNot, dNotV, R.bind_ok, ev_add, ev_sub, ev_mul, ev_divL, ev_mod, ev_cmp, ev_eq, ev_ne, ev_eqB, ev_neB, ev_eqS, ev_neS, ev_int, ev_intB, ev_abs, ev_pow]
  have s2 : sSet 5 (dCallF 1 m__law_new_year [] (dCons (dV 2) dNil)) [.p (.tup [.int y, .int m, .int d]), .p (.int ((N + 5) % 7)), .p (.int y), .p (.int m), .p (.int d), .emp, .emp, .emp, .emp, .emp] = .nx [.p (.tup [.int y, .int m, .int d]), .p (.int ((N + 5) % 7)), .p (.int y), .p (.int m), .p (.int d), .p (.int (NY y)), .emp, .emp, .emp, .emp] := by
    simp [l_ny, fnMir, mkEnv, ioOut, sSeq, sRet, sRetN, sSet, sDrop, sIf, sNext, sPar, tgsN, dOp, dV, dC, dCall, dCallF, dCallK, dNil, dCons, dSeq, dIf, dTst, dTru, D.tru, dNot, dNotV, R.bind_ok, ev_add, ev_sub, ev_mul, ev_divL, ev_mod, ev_cmp, ev_eq, ev_ne, ev_eqB, ev_neB, ev_eqS, ev_neS, ev_int, ev_intB, ev_abs, ev_pow]
  have s3 : sSet 6 (dOp PV.gSub (dOp PV.gSub (dOp gAdd (dCallF 2 m__law_month [] (dCons (dV 2) (dCons (dV 3) dNil))) (dV 4)) (dC (.int 1))) (dV 1)) [.p (.tup [.int y, .int m, .int d]), .p (.int ((N + 5) % 7)), .p (.int y), .p (.int m), .p (.int d), .p (.int (NY y)), .emp, .emp, .emp, .emp] = .nx [.p (.tup [.int y, .int m, .int d]), .p (.int ((N + 5) % 7)), .p (.int y), .p (.int m), .p (.int d), .p (.int (NY y)), .p (.int M), .emp, .emp, .emp] := by
    simp [lm, eM, fnMir, mkEnv, ioOut, sSeq, sRet, sRetN, sSet, sDrop, sIf, sNext, sPar, tgsN, dOp, dV, dC, dCall, dCallF, dCallK, dNil, dCons, dSeq, dIf, dTst, dTru, D.tru, dNot, dNotV, R.bind_ok, ev_add, ev_sub, ev_mul, ev_divL, ev_mod, ev_cmp, ev_eq, ev_ne, ev_eqB, ev_neB, ev_eqS, ev_neS, ev_int, ev_intB, ev_abs, ev_pow]
  have fin : ∀ (one : Int) (x8 x9 : Sl), one = Y → ∃ δ, (sSeq (sSet 8 (dOp gAdd (dCallF 1 m__law_new_year [] (dCons (dV 7) dNil)) (dC (.int 3))))
  (sSeq (sSet 9 (dOp PV.gSub (dV 8) (dOp gMod (dCall gInt (dCons (dOp gAdd (dV 8) (dC (.int 5))) dNil)) (dC (.int 7)))))
  (sIf (dTst (dOp gGe (dV 6) (dV 9)))
   (sRet (dSeq .tup (dCons (dV 7) (dCons (dOp gAdd (dOp gDiv (dOp PV.gSub (dV 6) (dV 9)) (dC (.int 7))) (dC (.int 1))) dNil))))
   sNext))) [.p (.tup [.int y, .int m, .int d]), .p (.int ((N + 5) % 7)), .p (.int y), .p (.int m), .p (.int d), .p (.int (NY y)), .p (.int M), .p (.int one), x8, x9] = .rt (.tup [.int Y, .int (WN M Y)]) δ := fun one x8 x9 e => by
    have c := fw_cmp (one := one) m0 hY
    refine ⟨[.p (.tup [.int y, .int m, .int d]), .p (.int ((N + 5) % 7)), .p (.int y), .p (.int m), .p (.int d), .p (.int (NY y)), .p (.int M), .p (.int one), .p (.int (NY one + 3)), .p (.int (NY one + 3 - (NY one + 3 + 5) % 7))], (fw_try (.p (.int (NY y))) x8 x9 0).trans ?_⟩
    rw [if_pos (c.1.mpr (by omega)), c.2 e, e]
  have skip : ∀ (one : Int) (x8 x9 : Sl), Y < one → (sSeq (sSet 8 (dOp gAdd (dCallF 1 m__law_new_year [] (dCons (dV 7) dNil)) (dC (.int 3))))
  (sSeq (sSet 9 (dOp PV.gSub (dV 8) (dOp gMod (dCall gInt (dCons (dOp gAdd (dV 8) (dC (.int 5))) dNil)) (dC (.int 7)))))
  (sIf (dTst (dOp gGe (dV 6) (dV 9)))
   (sRet (dSeq .tup (dCons (dV 7) (dCons (dOp gAdd (dOp gDiv (dOp PV.gSub (dV 6) (dV 9)) (dC (.int 7))) (dC (.int 1))) dNil))))
   sNext))) [.p (.tup [.int y, .int m, .int d]), .p (.int ((N + 5) % 7)), .p (.int y), .p (.int m), .p (.int d), .p (.int (NY y)), .p (.int M), .p (.int one), x8, x9] = .nx [.p (.tup [.int y, .int m, .int d]), .p (.int ((N + 5) % 7)), .p (.int y), .p (.int m), .p (.int d), .p (.int (NY y)), .p (.int M), .p (.int one), .p (.int (NY one + 3)), .p (.int (NY one + 3 - (NY one + 3 + 5) % 7))] := fun one x8 x9 e => by
    have c := fw_cmp (one := one) m0 hY
    refine (fw_try (.p (.int (NY y))) x8 x9 0).trans (if_neg fun z => ?_)
    have := c.1.mp z; omega
  have it : iLst (dSeq .lst (dCons (dOp gAdd (dV 2) (dC (.int 1))) (dCons (dV 2) (dCons (dOp PV.gSub (dV 2) (dC (.int 1))) dNil)))) [.p (.tup [.int y, .int m, .int d]), .p (.int ((N + 5) % 7)), .p (.int y), .p (.int m), .p (.int d), .p (.int (NY y)), .p (.int M), .emp, .emp, .emp] = .ok [.int (y + 1), .int y, .int (y - 1)] [.p (.tup [.int y, .int m, .int d]), .p (.int ((N + 5) % 7)), .p (.int y), .p (.int m), .p (.int d), .p (.int (NY y)), .p (.int M), .emp, .emp, .emp] := by
    simp [iLst, gLstOf, fnMir, mkEnv, ioOut, sSeq, sRet, sRetN, sSet, sDrop, sIf, sNext, sPar, tgsN, dOp, dV, dC, dCall, dCallF, dCallK, dNil, dCons, dSeq, dIf, dTst, dTru, D.tru, dNot, dNotV, R.bind_ok, ev_add, ev_sub, ev_mul, ev_divL, ev_mod, ev_cmp, ev_eq, ev_ne, ev_eqB, ev_neB, ev_eqS, ev_neS, ev_int, ev_intB, ev_abs, ev_pow]
  have cs : y + 1 = Y ∨ (Y < y + 1 ∧ y = Y) ∨ (Y < y + 1 ∧ Y < y ∧ y - 1 = Y) := by omega
  rcases cs with c | ⟨c1, c2⟩ | ⟨c1, c2, c3⟩
  · obtain ⟨δ, f⟩ := fin (y + 1) .emp .emp c
    exact fnMir_rt ((seq_nx s1).trans ((seq_nx s2).trans ((seq_nx s3).trans (seq_rt ((sFor_ok it).trans (forD_rt rfl f)))))) rfl
  · obtain ⟨δ, f⟩ := fin y (.p (.int (NY (y + 1) + 3))) (.p (.int (NY (y + 1) + 3 - (NY (y + 1) + 3 + 5) % 7))) c2
    exact fnMir_rt ((seq_nx s1).trans ((seq_nx s2).trans ((seq_nx s3).trans (seq_rt ((sFor_ok it).trans ((forD_nx rfl (skip (y + 1) .emp .emp c1)).trans (forD_rt rfl f))))))) rfl
  · obtain ⟨δ, f⟩ := fin (y - 1) (.p (.int (NY y + 3))) (.p (.int (NY y + 3 - (NY y + 3 + 5) % 7))) c3
    exact fnMir_rt ((seq_nx s1).trans ((seq_nx s2).trans ((seq_nx s3).trans (seq_rt ((sFor_ok it).trans ((forD_nx rfl (skip (y + 1) .emp .emp c1)).trans ((forD_nx rfl (skip y _ _ c2)).trans (forD_rt rfl f)))))))) rfl
theorem gAdd_t2 (a b c : D) : gAdd (.tup [a, b]) (.tup [c]) = some (.tup [a, b, c]) := rfl
theorem sl_t3 (a b c : D) : gSl (.tup [a, b, c]) (some 1) none = some (.tup [b, c]) := rfl
def BdN (N : Int) : Prop := -4500000000000000000000000000000 < N ∧ N < 4500000000000000000000000000000
theorem yr_bd {N y : Int} (h : IsY N y) (h3 : -4600000000000000000000000000000 < N) (h4 : N < 4600000000000000000000000000000) : -5000000000000000000000000000000 < y ∧ y < 5000000000000000000000000000000 := by
  obtain ⟨h1, h2⟩ := h
  unfold NY at h1 h2; omega
theorem day_right {y m d Y : Int} (h : Dt y m d) (hb : BdN (DN y m d)) (hY : IsY (DN y m d - (DN y m d + 5) % 7 + 3) Y) :
    m__law_day_right [.int (DN y m d), .tup [.int y, .int m, .int d], .int ((DN y m d + 5) % 7), .tup [.int Y, .int (WN (DN y m d - (DN y m d + 5) % 7) Y)]] .emp = some (.p (.bl true), .emp) := by
  have e1 := e_dateof h
  have e2 := e_dayof h
  have iN := dt_isY h
  have hd31 : 1 ≤ d ∧ d ≤ 31 := by
    have := bm_lt (lp y) h.1 h.2.1; have := h.2.2; omega
  have hdn : DN y m d = NY y + bm m (lp y) + d - 1 := rfl
  have hm := h.1
  have hm2 := h.2.1
  generalize hN : DN y m d = N at *
  have e3 := e_wd N
  have e4 := e_week hY
  have ew : (N - (N + 5) % 7 + 3 - NY Y) / 7 + 1 = WN (N - (N + 5) % 7) Y := rfl
  rw [ew] at e4
  obtain ⟨hb1, hb2⟩ := hb
  have yb := yr_bd iN (by omega) (by omega)
  have Yb := yr_bd hY (by omega) (by omega)
  have wk : 1 ≤ WN (N - (N + 5) % 7) Y ∧ WN (N - (N + 5) % 7) Y < 54 := by
    have := hY.1; have := hY.2; have := ny_len Y; unfold WN; omega
  have r1 := ev_reprT3 (a := y) (b := m) (c := d) (sm_big yb.1 yb.2) (sm_big (by omega) (by omega)) (sm_big (by omega) (by omega))
  have r2 := ev_reprI (n := N) (sm_big (by omega) (by omega))
  have r3 := ev_reprI (n := (N + 5) % 7) (sm_big (by omega) (by omega))
  have r4 := ev_reprT3 (a := Y) (b := WN (N - (N + 5) % 7) Y) (c := (N + 5) % 7 + 1) (sm_big Yb.1 Yb.2) (sm_big (by omega) (by omega)) (sm_big (by omega) (by omega))
  generalize hδ : ([.p (.int N), .p (.tup [.int y, .int m, .int d]), .p (.int ((N + 5) % 7)), .p (.tup [.int Y, .int (WN (N - (N + 5) % 7) Y)])] : PV.Env) = δ
  have s1 : (sIf (dOr (dTst (dOp (gEq true) (dCall gRepr (dCons (dCallF 1 m_date_of [] (dCons (dV 0) dNil)) dNil)) (dCall gRepr (dCons (dV 1) dNil)))) (dTst (dOp (gEq true) (dCall gRepr (dCons (dCallF 3 m_day_of [] (dCons (dOp gIx (dV 1) (dC (.int 0))) (dCons (dOp gIx (dV 1) (dC (.int 1))) (dCons (dOp gIx (dV 1) (dC (.int 2))) dNil)))) dNil)) (dCall gRepr (dCons (dV 0) dNil)))))
   (sRet (dC (.bl false)))
   sNext) δ = .nx δ := by
    subst hδ
    simp [e1, e2, r1, r2, ev_t3_0, ev_t3_1, ev_t3_2, dOr, fnMir, mkEnv, ioOut, sSeq, sRet, sRetN, sSet, sDrop, sIf, sNext, sPar, tgsN, dOp, dV, dC, dCall, dCallF, dCallK, dNil, dCons, dSeq, dIf, dTst, dTru, D.tru, dNot, dNotV, R.bind_ok, ev_add, ev_sub, ev_mul, ev_divL, ev_mod, ev_cmp, ev_eq, ev_ne, ev_eqB, ev_neB, ev_eqS, ev_neS, ev_int, ev_intB, ev_abs, ev_pow]
  have s2 : (sIf (dOr (dTst (dOp (gEq true) (dCall gRepr (dCons (dCallF 1 m_weekday [] (dCons (dV 0) dNil)) dNil)) (dCall gRepr (dCons (dV 2) dNil)))) (dTst (dOp (gEq true) (dCall gRepr (dCons (dCallF 1 m_week_of [] (dCons (dV 0) dNil)) dNil)) (dCall gRepr (dCons (dOp gAdd (dV 3) (dSeq .tup (dCons (dOp gAdd (dV 2) (dC (.int 1))) dNil))) dNil)))))
   (sRet (dC (.bl false)))
   sNext) δ = .nx δ := by
    subst hδ
    simp [e3, e4, r3, r4, gAdd_t2, dOr, fnMir, mkEnv, ioOut, sSeq, sRet, sRetN, sSet, sDrop, sIf, sNext, sPar, tgsN, dOp, dV, dC, dCall, dCallF, dCallK, dNil, dCons, dSeq, dIf, dTst, dTru, D.tru, dNot, dNotV, R.bind_ok, ev_add, ev_sub, ev_mul, ev_divL, ev_mod, ev_cmp, ev_eq, ev_ne, ev_eqB, ev_neB, ev_eqS, ev_neS, ev_int, ev_intB, ev_abs, ev_pow]
  have t1 : dTst (dOp (gEq false) (dSl (dV 1) (dPart (dC (.int 1))) dNo) (dSeq .tup (dCons (dC (.int 1)) (dCons (dC (.int 1)) dNil)))) δ = .ok (decide (m = 1 ∧ d = 1)) δ := by
    subst hδ
    simp [dSl, dPart, dNo, sl_t3, ev_eqT2, fnMir, mkEnv, ioOut, sSeq, sRet, sRetN, sSet, sDrop, sIf, sNext, sPar, tgsN, dOp, dV, dC, dCall, dCallF, dCallK, dNil, dCons, dSeq, dIf, dTst, dTru, D.tru, dNot, dNotV, R.bind_ok, ev_add, ev_sub, ev_mul, ev_divL, ev_mod, ev_cmp, ev_eq, ev_ne, ev_eqB, ev_neB, ev_eqS, ev_neS, ev_int, ev_intB, ev_abs, ev_pow]
  have t2 : dTst (dOp (gEq true) (dCallF 1 m_year_start [] (dCons (dOp gIx (dV 1) (dC (.int 0))) dNil)) (dV 0)) δ = .ok (!decide (NY y = N)) δ := by
    subst hδ
    simp [e_ys, ev_t3_0, fnMir, mkEnv, ioOut, sSeq, sRet, sRetN, sSet, sDrop, sIf, sNext, sPar, tgsN, dOp, dV, dC, dCall, dCallF, dCallK, dNil, dCons, dSeq, dIf, dTst, dTru, D.tru, dNot, dNotV, R.bind_ok, ev_add, ev_sub, ev_mul, ev_divL, ev_mod, ev_cmp, ev_eq, ev_ne, ev_eqB, ev_neB, ev_eqS, ev_neS, ev_int, ev_intB, ev_abs, ev_pow]
  have t3 : dTst (dOp (gEq false) (dSl (dV 1) (dPart (dC (.int 1))) dNo) (dSeq .tup (dCons (dC (.int 1)) (dCons (dC (.int 4)) dNil)))) δ = .ok (decide (m = 1 ∧ d = 4)) δ := by
    subst hδ
    simp [dSl, dPart, dNo, sl_t3, ev_eqT2, fnMir, mkEnv, ioOut, sSeq, sRet, sRetN, sSet, sDrop, sIf, sNext, sPar, tgsN, dOp, dV, dC, dCall, dCallF, dCallK, dNil, dCons, dSeq, dIf, dTst, dTru, D.tru, dNot, dNotV, R.bind_ok, ev_add, ev_sub, ev_mul, ev_divL, ev_mod, ev_cmp, ev_eq, ev_ne, ev_eqB, ev_neB, ev_eqS, ev_neS, ev_int, ev_intB, ev_abs, ev_pow]
  have t4 : dTst (dOp (gEq true) (dV 3) (dSeq .tup (dCons (dOp gIx (dV 1) (dC (.int 0))) (dCons (dC (.int 1)) dNil)))) δ = .ok (!decide (Y = y ∧ WN (N - (N + 5) % 7) Y = 1)) δ := by
    subst hδ
    simp [ev_t3_0, ev_eqT2, fnMir, mkEnv, ioOut, sSeq, sRet, sRetN, sSet, sDrop, sIf, sNext, sPar, tgsN, dOp, dV, dC, dCall, dCallF, dCallK, dNil, dCons, dSeq, dIf, dTst, dTru, D.tru, dNot, dNotV, R.bind_ok, ev_add, ev_sub, ev_mul, ev_divL, ev_mod, ev_cmp, ev_eq, ev_ne, ev_eqB, ev_neB, ev_eqS, ev_neS, ev_int, ev_intB, ev_abs, ev_pow]
  have u1 : (decide (m = 1 ∧ d = 1) && !decide (NY y = N)) = false := by
    by_cases c : m = 1 ∧ d = 1
    · have : NY y = N := by rw [hdn, c.1, c.2, bm_1]; omega
      simp [this]
    · simp [c]
  have u2 : (decide (m = 1 ∧ d = 4) && !decide (Y = y ∧ WN (N - (N + 5) % 7) Y = 1)) = false := by
    by_cases c : m = 1 ∧ d = 4
    · have eN : N = NY y + 3 := by rw [hdn, c.1, c.2, bm_1]; omega
      have iy : IsY (N - (N + 5) % 7 + 3) y := by
        have := ny_len y
        unfold IsY; omega
      have eY := isY_uniq hY iy
      subst eY
      have : WN (N - (N + 5) % 7) Y = 1 := by
        unfold WN; omega
      simp [this]
    · simp [c]
  have s3 : (sIf (dOr (dAnd (dTst (dOp (gEq false) (dSl (dV 1) (dPart (dC (.int 1))) dNo) (dSeq .tup (dCons (dC (.int 1)) (dCons (dC (.int 1)) dNil))))) (dTst (dOp (gEq true) (dCallF 1 m_year_start [] (dCons (dOp gIx (dV 1) (dC (.int 0))) dNil)) (dV 0)))) (dAnd (dTst (dOp (gEq false) (dSl (dV 1) (dPart (dC (.int 1))) dNo) (dSeq .tup (dCons (dC (.int 1)) (dCons (dC (.int 4)) dNil))))) (dTst (dOp (gEq true) (dV 3) (dSeq .tup (dCons (dOp gIx (dV 1) (dC (.int 0))) (dCons (dC (.int 1)) dNil)))))))
   (sRet (dC (.bl false)))
   sNext) δ = .nx δ := by
    have q := dOr_bl (dAnd_bl t1 t2) (dAnd_bl t3 t4)
    rw [u1, u2] at q
    unfold sIf; rw [q]; rfl
  refine fnMir_rt (δ := δ) ?_ rfl
  show (sSeq _ _) [.p (.int N), .p (.tup [.int y, .int m, .int d]), .p (.int ((N + 5) % 7)), .p (.tup [.int Y, .int (WN (N - (N + 5) % 7) Y)])] = _
  rw [hδ]
  refine (seq_nx s1).trans ((seq_nx s2).trans ((seq_nx s3).trans ?_))
  subst hδ
  have w1 := wk.1
  have w2 := wk.2
  simp [e4, pick, ev_t3_1, ev_rng, ev_inR, w1, w2, fnMir, mkEnv, ioOut, sSeq, sRet, sRetN, sSet, sDrop, sIf, sNext, sPar, tgsN, dOp, dV, dC, dCall, dCallF, dCallK, dNil, dCons, dSeq, dIf, dTst, dTru, D.tru, dNot, dNotV, R.bind_ok, ev_add, ev_sub, ev_mul, ev_divL, ev_mod, ev_cmp, ev_eq, ev_ne, ev_eqB, ev_neB, ev_eqS, ev_neS, ev_int, ev_intB, ev_abs, ev_pow]
/-- one day of the walk -/
theorem step_ok {y m d Y : Int} (sc : D) (S : LSt) (x2 x3 x4 x9 : Sl) (h : Dt y m d) (hb : BdN (DN y m d)) (hY : IsY (DN y m d - (DN y m d + 5) % 7 + 3) Y) : ∃ y' m' d' Y', Dt y' m' d' ∧ DN y' m' d' = DN y m d + 1 ∧ IsY (DN y' m' d' - (DN y' m' d' + 5) % 7 + 3) Y' ∧
    (sSeq (sIf (dNot (dTru (dCallF 4 m__law_day_right [] (dCons (dV 6) (dCons (dV 5) (dCons (dV 7) (dCons (dV 8) dNil)))))))
   (sRet (dC (.bl false)))
   sNext)
  (sSeq (sPar [6, 5, 7] (dCons (dOp gAdd (dV 6) (dC (.int 1))) (dCons (dCallF 1 m__law_next_date [] (dCons (dV 5) dNil)) (dCons (dOp gMod (dCall gInt (dCons (dOp gAdd (dV 7) (dC (.int 1))) dNil)) (dC (.int 7))) dNil))))
  (sIf (dTst (dOp (gEq false) (dV 7) (dC (.int 0))))
   (sSet 8 (dCallF 2 m__law_next_week [] (dCons (dV 8) (dCons (dV 5) dNil))))
   sNext))) [.p sc, .st S, x2, x3, x4, .p (.tup [.int y, .int m, .int d]), .p (.int (DN y m d)), .p (.int ((DN y m d + 5) % 7)), .p (.tup [.int Y, .int (WN (DN y m d - (DN y m d + 5) % 7) Y)]), x9] =
   .nx [.p sc, .st S, x2, x3, x4, .p (.tup [.int y', .int m', .int d']), .p (.int (DN y' m' d')), .p (.int ((DN y' m' d' + 5) % 7)), .p (.tup [.int Y', .int (WN (DN y' m' d' - (DN y' m' d' + 5) % 7) Y')]), x9] := by
  have q0 := day_right h hb hY
  obtain ⟨y', m', d', q1, t', n'⟩ := l_next h
  have s1 : (sIf (dNot (dTru (dCallF 4 m__law_day_right [] (dCons (dV 6) (dCons (dV 5) (dCons (dV 7) (dCons (dV 8) dNil)))))))
   (sRet (dC (.bl false)))
   sNext) [.p sc, .st S, x2, x3, x4, .p (.tup [.int y, .int m, .int d]), .p (.int (DN y m d)), .p (.int ((DN y m d + 5) % 7)), .p (.tup [.int Y, .int (WN (DN y m d - (DN y m d + 5) % 7) Y)]), x9] = .nx [.p sc, .st S, x2, x3, x4, .p (.tup [.int y, .int m, .int d]), .p (.int (DN y m d)), .p (.int ((DN y m d + 5) % 7)), .p (.tup [.int Y, .int (WN (DN y m d - (DN y m d + 5) % 7) Y)]), x9] := by
    simp [q0, fnMir, mkEnv, ioOut, sSeq, sRet, sRetN, sSet, sDrop, sIf, sNext, sPar, tgsN, dOp, dV, dC, dCall, dCallF, dCallK, dNil, dCons, dSeq, dIf, dTst, dTru, D.tru, dNot, dNotV, R.bind_ok, ev_add, ev_sub, ev_mul, ev_divL, ev_mod, ev_cmp, ev_eq, ev_ne, ev_eqB, ev_neB, ev_eqS, ev_neS, ev_int, ev_intB, ev_abs, ev_pow]
  have em : ((DN y m d + 5) % 7 + 1) % 7 = (DN y' m' d' + 5) % 7 := by rw [n']; omega
  have s2 : (sPar [6, 5, 7] (dCons (dOp gAdd (dV 6) (dC (.int 1))) (dCons (dCallF 1 m__law_next_date [] (dCons (dV 5) dNil)) (dCons (dOp gMod (dCall gInt (dCons (dOp gAdd (dV 7) (dC (.int 1))) dNil)) (dC (.int 7))) dNil)))) [.p sc, .st S, x2, x3, x4, .p (.tup [.int y, .int m, .int d]), .p (.int (DN y m d)), .p (.int ((DN y m d + 5) % 7)), .p (.tup [.int Y, .int (WN (DN y m d - (DN y m d + 5) % 7) Y)]), x9] = .nx [.p sc, .st S, x2, x3, x4, .p (.tup [.int y', .int m', .int d']), .p (.int (DN y' m' d')), .p (.int ((DN y' m' d' + 5) % 7)), .p (.tup [.int Y, .int (WN (DN y m d - (DN y m d + 5) % 7) Y)]), x9] := by
    simp [q1, em, n', fnMir, mkEnv, ioOut, sSeq, sRet, sRetN, sSet, sDrop, sIf, sNext, sPar, tgsN, dOp, dV, dC, dCall, dCallF, dCallK, dNil, dCons, dSeq, dIf, dTst, dTru, D.tru, dNot, dNotV, R.bind_ok, ev_add, ev_sub, ev_mul, ev_divL, ev_mod, ev_cmp, ev_eq, ev_ne, ev_eqB, ev_neB, ev_eqS, ev_neS, ev_int, ev_intB, ev_abs, ev_pow]
  generalize hN : DN y m d = N at *
  by_cases c : (N + 1 + 5) % 7 = 0
  · have eM : N - (N + 5) % 7 + 7 = N + 1 := by omega
    obtain ⟨Y', q2, i2⟩ := l_nextweek (M := N - (N + 5) % 7) (Y := Y) (k := WN (N - (N + 5) % 7) Y) hY rfl t' (by omega)
    have e' : N - (N + 5) % 7 + 7 = DN y' m' d' - (DN y' m' d' + 5) % 7 := by rw [n', c]; omega
    rw [e'] at q2 i2
    refine ⟨y', m', d', Y', t', n', i2, (seq_nx s1).trans ((seq_nx s2).trans ?_)⟩
    have c' : (DN y' m' d' + 5) % 7 = 0 := by rw [n']; exact c
    rw [c'] at q2 ⊢
    simp [q2, fnMir, mkEnv, ioOut, sSeq, sRet, sRetN, sSet, sDrop, sIf, sNext, sPar, tgsN, dOp, dV, dC, dCall, dCallF, dCallK, dNil, dCons, dSeq, dIf, dTst, dTru, D.tru, dNot, dNotV, R.bind_ok, ev_add, ev_sub, ev_mul, ev_divL, ev_mod, ev_cmp, ev_eq, ev_ne, ev_eqB, ev_neB, ev_eqS, ev_neS, ev_int, ev_intB, ev_abs, ev_pow]
  · have e' : N - (N + 5) % 7 = DN y' m' d' - (DN y' m' d' + 5) % 7 := by rw [n']; omega
    have c' : ¬ (DN y' m' d' + 5) % 7 = 0 := by rw [n']; exact c
    rw [e'] at hY s2
    refine ⟨y', m', d', Y, t', n', hY, ?_⟩
    rw [e'] at s1 ⊢
    refine (seq_nx s1).trans ((seq_nx s2).trans ?_)
    simp [c', fnMir, mkEnv, ioOut, sSeq, sRet, sRetN, sSet, sDrop, sIf, sNext, sPar, tgsN, dOp, dV, dC, dCall, dCallF, dCallK, dNil, dCons, dSeq, dIf, dTst, dTru, D.tru, dNot, dNotV, R.bind_ok, ev_add, ev_sub, ev_mul, ev_divL, ev_mod, ev_cmp, ev_eq, ev_ne, ev_eqB, ev_neB, ev_eqS, ev_neS, ev_int, ev_intB, ev_abs, ev_pow]
theorem steps_ok (sc : D) (S : LSt) (x2 x3 x4 : Sl) : ∀ (l : List D) (y m d Y : Int) (x9 : Sl), Dt y m d → -4500000000000000000000000000000 < DN y m d → DN y m d + l.length < 4500000000000000000000000000000 → IsY (DN y m d - (DN y m d + 5) % 7 + 3) Y → ∃ δ5 δ6 δ7 δ8 δ9,
    forD (tgN 9) (sSeq (sIf (dNot (dTru (dCallF 4 m__law_day_right [] (dCons (dV 6) (dCons (dV 5) (dCons (dV 7) (dCons (dV 8) dNil)))))))
   (sRet (dC (.bl false)))
   sNext)
  (sSeq (sPar [6, 5, 7] (dCons (dOp gAdd (dV 6) (dC (.int 1))) (dCons (dCallF 1 m__law_next_date [] (dCons (dV 5) dNil)) (dCons (dOp gMod (dCall gInt (dCons (dOp gAdd (dV 7) (dC (.int 1))) dNil)) (dC (.int 7))) dNil))))
  (sIf (dTst (dOp (gEq false) (dV 7) (dC (.int 0))))
   (sSet 8 (dCallF 2 m__law_next_week [] (dCons (dV 8) (dCons (dV 5) dNil))))
   sNext))) l [.p sc, .st S, x2, x3, x4, .p (.tup [.int y, .int m, .int d]), .p (.int (DN y m d)), .p (.int ((DN y m d + 5) % 7)), .p (.tup [.int Y, .int (WN (DN y m d - (DN y m d + 5) % 7) Y)]), x9] = .nx [.p sc, .st S, x2, x3, x4, δ5, δ6, δ7, δ8, δ9]
  | [], y, m, d, Y, x9, _, _, _, _ => ⟨_, _, _, _, _, rfl⟩
  | a :: l, y, m, d, Y, x9, h, h1, h2, hY => by
    rw [List.length_cons] at h2
    obtain ⟨y', m', d', Y', t', n', i', q⟩ := step_ok sc S x2 x3 x4 (.p a) h ⟨h1, by omega⟩ hY
    obtain ⟨δ5, δ6, δ7, δ8, δ9, q2⟩ := steps_ok sc S x2 x3 x4 l y' m' d' Y' (.p a) t' (by omega) (by omega) i'
    exact ⟨δ5, δ6, δ7, δ8, δ9, (forD_nx rfl q).trans q2⟩
theorem gRange1_ok {n : Int} (h0 : 0 ≤ n) (h : n < 1000000) : ∃ items : List D, items.length = n.toNat ∧ gRange1 [.int n] = some items := by
  refine ⟨(List.range n.toNat).map fun (i : Nat) => D.int (0 + (i : Int)), by rw [List.length_map, List.length_range], ?_⟩
  unfold gRange1; exact if_pos (by omega)
theorem law_turn (ns : List Int) (S : LSt) (b : Nat) (x2 x3 x4 x5 x6 x7 x8 x9 : Sl) (h : Gd (b + 13) S) : ∃ S' x3' x4' x5' x6' x7' x8' x9', Gd b S' ∧ (sSeq (sPar [3, 4] (dCons (dCallS 1 1 0 m__law_some_year (dHere 1 dNil)) (dCons (dCallS 2 1 0 m__law_pick (dHere 1 (dCons (dSeq .lst (dCons (dC (.int 1)) (dCons (dC (.int 2)) (dCons (dC (.int 11)) (dCons (dC (.int 12)) (dCons (dC (.int 12)) (dCons (dOp gAdd (dC (.int 1)) (dCallS 2 1 0 m__law_take (dHere 1 (dCons (dC (.int 12)) dNil)))) dNil))))))) dNil))) dNil)))
  (sSeq (sSet 5 (dSeq .tup (dCons (dV 3) (dCons (dV 4) (dCons (dOp gAdd (dC (.int 1)) (dCallS 2 1 0 m__law_take (dHere 1 (dCons (dCallF 2 m__law_size [] (dCons (dV 3) (dCons (dV 4) dNil))) dNil)))) dNil)))))
  (sSeq (sSet 6 (dOp PV.gSub (dOp gAdd (dCallF 2 m__law_month [] (dCons (dV 3) (dCons (dV 4) dNil))) (dOp gIx (dV 5) (dC (.int 2)))) (dC (.int 1))))
  (sSeq (sSet 7 (dOp gMod (dCall gInt (dCons (dOp gAdd (dV 6) (dC (.int 5))) dNil)) (dC (.int 7))))
  (sSeq (sSet 8 (dCallF 2 m__law_first_week [] (dCons (dV 5) (dCons (dV 7) dNil))))
  (sFor (iCall gRange1 (dCons (dCallS 2 1 0 m__law_pick (dHere 1 (dCons (dSeq .lst (dCons (dC (.int 60)) (dCons (dC (.int 100)) (dCons (dC (.int 400)) (dCons (dC (.int 800)) dNil))))) dNil))) dNil)) (tgN 9)
   (sSeq (sIf (dNot (dTru (dCallF 4 m__law_day_right [] (dCons (dV 6) (dCons (dV 5) (dCons (dV 7) (dCons (dV 8) dNil)))))))
   (sRet (dC (.bl false)))
   sNext)
  (sSeq (sPar [6, 5, 7] (dCons (dOp gAdd (dV 6) (dC (.int 1))) (dCons (dCallF 1 m__law_next_date [] (dCons (dV 5) dNil)) (dCons (dOp gMod (dCall gInt (dCons (dOp gAdd (dV 7) (dC (.int 1))) dNil)) (dC (.int 7))) dNil))))
  (sIf (dTst (dOp (gEq false) (dV 7) (dC (.int 0))))
   (sSet 8 (dCallF 2 m__law_next_week [] (dCons (dV 8) (dCons (dV 5) dNil))))
   sNext))))))))) [.p (.scr ns), .st S, x2, x3, x4, x5, x6, x7, x8, x9] = .nx [.p (.scr ns), .st S', x2, x3', x4', x5', x6', x7', x8', x9'] := by
  obtain ⟨y, S1, q1, hy, g1⟩ := some_year S (b + 4) h
  obtain ⟨v2, S2, t2, a2, b2, g2⟩ := e_take 12 S1 (b + 3) g1 (by omega) (by omega)
  obtain ⟨dm, S3, m3, p3, g3⟩ := e_pick [.int 1, .int 2, .int 11, .int 12, .int 12, .int (1 + v2)] S2 (b + 2) g2 (by simp) (by simp)
  have hm : ∃ m : Int, dm = .int m ∧ 1 ≤ m ∧ m ≤ 12 := by
    simp only [List.mem_cons, List.mem_nil_iff, or_false] at m3
    rcases m3 with rfl | rfl | rfl | rfl | rfl | rfl
    · exact ⟨1, rfl, by omega, by omega⟩
    · exact ⟨2, rfl, by omega, by omega⟩
    · exact ⟨11, rfl, by omega, by omega⟩
    · exact ⟨12, rfl, by omega, by omega⟩
    · exact ⟨12, rfl, by omega, by omega⟩
    · exact ⟨1 + v2, rfl, by omega, by omega⟩
  obtain ⟨m, rfl, hm1, hm2⟩ := hm
  have hs := sz_ge (m := m) (lp y) hm1 hm2
  obtain ⟨v4, S4, t4, a4, b4, g4⟩ := e_take (sz m (lp y)) S3 (b + 1) g3 (by omega) (by omega)
  have dt : Dt y m (1 + v4) := ⟨hm1, hm2, by omega, by unfold sz at b4; omega⟩
  obtain ⟨Y, q5, hY⟩ := l_first dt
  obtain ⟨dn, S5, m5, p5, g5⟩ := e_pick [.int 60, .int 100, .int 400, .int 800] S4 b g4 (by simp) (by simp)
  have hn : ∃ n : Int, dn = .int n ∧ 0 ≤ n ∧ n ≤ 800 := by
    simp only [List.mem_cons, List.mem_nil_iff, or_false] at m5
    rcases m5 with rfl | rfl | rfl | rfl
    · exact ⟨60, rfl, by omega, by omega⟩
    · exact ⟨100, rfl, by omega, by omega⟩
    · exact ⟨400, rfl, by omega, by omega⟩
    · exact ⟨800, rfl, by omega, by omega⟩
  obtain ⟨n, rfl, hn1, hn2⟩ := hn
  obtain ⟨items, il, ig⟩ := gRange1_ok hn1 (by omega)
  have bd := ny_bd hy
  have db : -4500000000000000000000000000000 < DN y m (1 + v4) ∧ DN y m (1 + v4) + items.length < 4500000000000000000000000000000 := by
    have b1 := bm_mono (b := lp y) (m := 1) (n := m) (by omega) hm1 (by omega)
    have b2 := bm_mono (b := lp y) (m := m) (n := 13) hm1 (by omega) (by omega)
    rw [bm_1] at b1
    have e13 : bm 13 (lp y) ≤ 366 := by rw [bm_13]; split <;> omega
    unfold DN; rw [il]; omega
  obtain ⟨δ5, δ6, δ7, δ8, δ9, q9⟩ := steps_ok (.scr ns) S5 x2 (.p (.int y)) (.p (.int m)) items y m (1 + v4) Y x9 dt db.1 db.2 hY
  refine ⟨S5, .p (.int y), .p (.int m), δ5, δ6, δ7, δ8, δ9, g5, ?_⟩
  have lm := l_month (y := y) hm1 hm2
  have ls := l_size (y := y) hm1 hm2
  have eD : NY y + bm m (lp y) + (1 + v4) - 1 = DN y m (1 + v4) := rfl
  refine (seq_nx (δ1 := [.p (.scr ns), .st S3, x2, .p (.int y), .p (.int m), x5, x6, x7, x8, x9]) (by simp [dCallS, dHere, q1, t2, p3, fnMir, mkEnv, ioOut, sSeq, sRet, sRetN, sSet, sDrop, sIf, sNext, sPar, tgsN, dOp, dV, dC, dCall, dCallF, dCallK, dNil, dCons, dSeq, dIf, dTst, dTru, D.tru, dNot, dNotV, R.bind_ok, ev_add, ev_sub, ev_mul, ev_divL, ev_mod, ev_cmp, ev_eq, ev_ne, ev_eqB, ev_neB, ev_eqS, ev_neS, ev_int, ev_intB, ev_abs, ev_pow])).trans ?_
  refine (seq_nx (δ1 := [.p (.scr ns), .st S4, x2, .p (.int y), .p (.int m), .p (.tup [.int y, .int m, .int (1 + v4)]), x6, x7, x8, x9]) (by simp [dCallS, dHere, ls, t4, fnMir, mkEnv, ioOut, sSeq, sRet, sRetN, sSet, sDrop, sIf, sNext, sPar, tgsN, dOp, dV, dC, dCall, dCallF, dCallK, dNil, dCons, dSeq, dIf, dTst, dTru, D.tru, dNot, dNotV, R.bind_ok, ev_add, ev_sub, ev_mul, ev_divL, ev_mod, ev_cmp, ev_eq, ev_ne, ev_eqB, ev_neB, ev_eqS, ev_neS, ev_int, ev_intB, ev_abs, ev_pow])).trans ?_
  refine (seq_nx (δ1 := [.p (.scr ns), .st S4, x2, .p (.int y), .p (.int m), .p (.tup [.int y, .int m, .int (1 + v4)]), .p (.int (DN y m (1 + v4))), x7, x8, x9]) (by simp [lm, ev_t3_2, eD, fnMir, mkEnv, ioOut, sSeq, sRet, sRetN, sSet, sDrop, sIf, sNext, sPar, tgsN, dOp, dV, dC, dCall, dCallF, dCallK, dNil, dCons, dSeq, dIf, dTst, dTru, D.tru, dNot, dNotV, R.bind_ok, ev_add, ev_sub, ev_mul, ev_divL, ev_mod, ev_cmp, ev_eq, ev_ne, ev_eqB, ev_neB, ev_eqS, ev_neS, ev_int, ev_intB, ev_abs, ev_pow])).trans ?_
  refine (seq_nx (δ1 := [.p (.scr ns), .st S4, x2, .p (.int y), .p (.int m), .p (.tup [.int y, .int m, .int (1 + v4)]), .p (.int (DN y m (1 + v4))), .p (.int ((DN y m (1 + v4) + 5) % 7)), x8, x9]) (by simp [fnMir, mkEnv, ioOut, sSeq, sRet, sRetN, sSet, sDrop, sIf, sNext, sPar, tgsN, dOp, dV, dC, dCall, dCallF, dCallK, dNil, dCons, dSeq, dIf, dTst, dTru, D.tru, dNot, dNotV, R.bind_ok, ev_add, ev_sub, ev_mul, ev_divL, ev_mod, ev_cmp, ev_eq, ev_ne, ev_eqB, ev_neB, ev_eqS, ev_neS, ev_int, ev_intB, ev_abs, ev_pow])).trans ?_
  refine (seq_nx (δ1 := [.p (.scr ns), .st S4, x2, .p (.int y), .p (.int m), .p (.tup [.int y, .int m, .int (1 + v4)]), .p (.int (DN y m (1 + v4))), .p (.int ((DN y m (1 + v4) + 5) % 7)), .p (.tup [.int Y, .int (WN (DN y m (1 + v4) - (DN y m (1 + v4) + 5) % 7) Y)]), x9]) (by simp [q5, fnMir, mkEnv, ioOut, sSeq, sRet, sRetN, sSet, sDrop, sIf, sNext, sPar, tgsN, dOp, dV, dC, dCall, dCallF, dCallK, dNil, dCons, dSeq, dIf, dTst, dTru, D.tru, dNot, dNotV, R.bind_ok, ev_add, ev_sub, ev_mul, ev_divL, ev_mod, ev_cmp, ev_eq, ev_ne, ev_eqB, ev_neB, ev_eqS, ev_neS, ev_int, ev_intB, ev_abs, ev_pow])).trans ?_
  exact (sFor_ok (by simp [iCall, dCallS, dHere, p5, ig, fnMir, mkEnv, ioOut, sSeq, sRet, sRetN, sSet, sDrop, sIf, sNext, sPar, tgsN, dOp, dV, dC, dCall, dCallF, dCallK, dNil, dCons, dSeq, dIf, dTst, dTru, D.tru, dNot, dNotV, R.bind_ok, ev_add, ev_sub, ev_mul, ev_divL, ev_mod, ev_cmp, ev_eq, ev_ne, ev_eqB, ev_neB, ev_eqS, ev_neS, ev_int, ev_intB, ev_abs, ev_pow])).trans q9
theorem law_loop (ns : List Int) : ∀ (l : List D) (S : LSt) (x2 x3 x4 x5 x6 x7 x8 x9 : Sl), Gd (13 * l.length) S → ∃ δ, forD (tgN 2) (sSeq (sPar [3, 4] (dCons (dCallS 1 1 0 m__law_some_year (dHere 1 dNil)) (dCons (dCallS 2 1 0 m__law_pick (dHere 1 (dCons (dSeq .lst (dCons (dC (.int 1)) (dCons (dC (.int 2)) (dCons (dC (.int 11)) (dCons (dC (.int 12)) (dCons (dC (.int 12)) (dCons (dOp gAdd (dC (.int 1)) (dCallS 2 1 0 m__law_take (dHere 1 (dCons (dC (.int 12)) dNil)))) dNil))))))) dNil))) dNil)))
  (sSeq (sSet 5 (dSeq .tup (dCons (dV 3) (dCons (dV 4) (dCons (dOp gAdd (dC (.int 1)) (dCallS 2 1 0 m__law_take (dHere 1 (dCons (dCallF 2 m__law_size [] (dCons (dV 3) (dCons (dV 4) dNil))) dNil)))) dNil)))))
  (sSeq (sSet 6 (dOp PV.gSub (dOp gAdd (dCallF 2 m__law_month [] (dCons (dV 3) (dCons (dV 4) dNil))) (dOp gIx (dV 5) (dC (.int 2)))) (dC (.int 1))))
  (sSeq (sSet 7 (dOp gMod (dCall gInt (dCons (dOp gAdd (dV 6) (dC (.int 5))) dNil)) (dC (.int 7))))
  (sSeq (sSet 8 (dCallF 2 m__law_first_week [] (dCons (dV 5) (dCons (dV 7) dNil))))
  (sFor (iCall gRange1 (dCons (dCallS 2 1 0 m__law_pick (dHere 1 (dCons (dSeq .lst (dCons (dC (.int 60)) (dCons (dC (.int 100)) (dCons (dC (.int 400)) (dCons (dC (.int 800)) dNil))))) dNil))) dNil)) (tgN 9)
   (sSeq (sIf (dNot (dTru (dCallF 4 m__law_day_right [] (dCons (dV 6) (dCons (dV 5) (dCons (dV 7) (dCons (dV 8) dNil)))))))
   (sRet (dC (.bl false)))
   sNext)
  (sSeq (sPar [6, 5, 7] (dCons (dOp gAdd (dV 6) (dC (.int 1))) (dCons (dCallF 1 m__law_next_date [] (dCons (dV 5) dNil)) (dCons (dOp gMod (dCall gInt (dCons (dOp gAdd (dV 7) (dC (.int 1))) dNil)) (dC (.int 7))) dNil))))
  (sIf (dTst (dOp (gEq false) (dV 7) (dC (.int 0))))
   (sSet 8 (dCallF 2 m__law_next_week [] (dCons (dV 8) (dCons (dV 5) dNil))))
   sNext))))))))) l [.p (.scr ns), .st S, x2, x3, x4, x5, x6, x7, x8, x9] = .nx δ
  | [], S, x2, x3, x4, x5, x6, x7, x8, x9, _ => ⟨_, rfl⟩
  | d :: l, S, x2, x3, x4, x5, x6, x7, x8, x9, h => by
    obtain ⟨S', x3', x4', x5', x6', x7', x8', x9', g, q⟩ := law_turn ns S (13 * l.length) (.p d) x3 x4 x5 x6 x7 x8 x9 (by rw [List.length_cons] at h; exact h.mono (by omega))
    obtain ⟨δ, q3⟩ := law_loop ns l S' (.p d) x3' x4' x5' x6' x7' x8' x9' g
    exact ⟨δ, Eq.trans (forD_nx rfl q) q3⟩
theorem law_true (ns : List Int) (hl : ns.length ≤ 63) : ∃ s', m_law [.scr ns] .emp = some (.p (.bl true), s') := by
  obtain ⟨items, il, ig⟩ := gRange1_ok (n := 1 + (if (3 : Int) < (ns.length : Int) then 3 else (ns.length : Int))) (by split <;> omega) (by split <;> omega)
  have h20 : items.length ≤ 4 := by rw [il]; split <;> omega
  have hi : iCall gRange1 (dCons (dOp gAdd (dC (.int 1)) (dCall gMin (dCons (dCall gLen (dCons (dV 0) dNil)) (dCons (dC (.int 3)) dNil)))) dNil) [.p (.scr ns), .st ⟨fw ns, fc ns, 0, 0⟩, .emp, .emp, .emp, .emp, .emp, .emp, .emp, .emp] = .ok items [.p (.scr ns), .st ⟨fw ns, fc ns, 0, 0⟩, .emp, .emp, .emp, .emp, .emp, .emp, .emp, .emp] := by
    simp [iCall, ev_lenSc, ev_min, ig, fnMir, mkEnv, ioOut, sSeq, sRet, sRetN, sSet, sDrop, sIf, sNext, sPar, tgsN, dOp, dV, dC, dCall, dCallF, dCallK, dNil, dCons, dSeq, dIf, dTst, dTru, D.tru, dNot, dNotV, R.bind_ok, ev_add, ev_sub, ev_mul, ev_divL, ev_mod, ev_cmp, ev_eq, ev_ne, ev_eqB, ev_neB, ev_eqS, ev_neS, ev_int, ev_intB, ev_abs, ev_pow]
  obtain ⟨δ, q⟩ := law_loop ns items ⟨fw ns, fc ns, 0, 0⟩ .emp .emp .emp .emp .emp .emp .emp .emp ⟨by show (0 : Int) ≤ 0; omega, by show (0 : Int) + _ ≤ _; omega⟩
  have s1 : dSetF 1 1 m__law_begun (dCons (dV 0) dNil) [.p (.scr ns), .emp, .emp, .emp, .emp, .emp, .emp, .emp, .emp, .emp] = .nx [.p (.scr ns), .st ⟨fw ns, fc ns, 0, 0⟩, .emp, .emp, .emp, .emp, .emp, .emp, .emp, .emp] := by
    have e : m__law_begun [.scr ns] .emp = some (.st ⟨fw ns, fc ns, 0, 0⟩, .emp) := if_pos hl
    simp [dSetF, dCons, dV, dNil, e]
  exact ⟨.emp, fnMir_rt ((seq_nx s1).trans ((seq_nx ((sFor_ok hi).trans q)).trans rfl)) rfl⟩

set_option maxHeartbeats 0

abbrev R0 : PySem.W.OpenRow := PySem.W.OpenLaw.row PySem.Challenge.rw_clockfolds_k02_whole_calendar_walked
abbrev hk : PySem.W.Hook := PV.hookE 4 fa fn ex
def ob (s : PySem.W.SharedT) : PV.AlE := PV.obsE 4 fa fn ex (HandSHeadRun.getT s)
theorem ob_eq (s : PySem.W.SharedT) : ob s = hk.obs s.abs := PV.obsE_eq (HandSHeadRun.getT_eq s)
theorem run (w : World) : HandSHeadRun.RunEq R0 (PySem.W.view R0.prog [35]) hk ob 2000 ["ClockError", "BadNumber", "BadDate", "FIRST_YEAR", "YEARS", "DAYS", "WEEK", "FIRST_WEEKDAY", "BEFORE_MONTHS", "is_number", "need_numbers", "has_leap_day", "leap_days_before", "day_before_month", "year_start", "day_of", "date_of", "weekday", "week_of", "_law_begun", "_law_mixed", "_law_take", "_law_pick", "_law_new_year", "_law_month", "_law_is_long", "_law_size", "_law_some_year", "_law_next_date", "_law_next_week", "_law_first_week", "_law_day_right"] w := by
  intro os
  kernel_rfl
end K02

open PySem PySem.W PySem.Calls PyProof.Rows
theorem PySem.Challenge.cw_clockfolds_k02_whole_calendar_walked_holds : PySem.Challenge.rw_clockfolds_k02_whole_calendar_walked.Holds := by
  w_on; o_law
  refine HandSHeadRun.head_any (r := OpenLaw.row PySem.Challenge.rw_clockfolds_k02_whole_calendar_walked) (q := view (OpenLaw.row PySem.Challenge.rw_clockfolds_k02_whole_calendar_walked).prog [35]) (H := K02.hk) (ob := K02.ob) (M := 2000) (loose := ["ClockError", "BadNumber", "BadDate", "FIRST_YEAR", "YEARS", "DAYS", "WEEK", "FIRST_WEEKDAY", "BEFORE_MONTHS", "is_number", "need_numbers", "has_leap_day", "leap_days_before", "day_before_month", "year_start", "day_of", "date_of", "weekday", "week_of", "_law_begun", "_law_mixed", "_law_take", "_law_pick", "_law_new_year", "_law_month", "_law_is_long", "_law_size", "_law_some_year", "_law_next_date", "_law_next_week", "_law_first_week", "_law_day_right"]) (d := HandSHeadRun.topDef (OpenLaw.row PySem.Challenge.rw_clockfolds_k02_whole_calendar_walked).prog 35) (kwd := []) K02.ob_eq
    (by kernel_rfl) (fun s => by kernel_rfl) K02.run (by kernel_rfl) (by kernel_rfl) (by kernel_rfl) (by rfl) (by first | assumption | decide +kernel) (by decide +kernel) ⟨rfl, rfl, rfl, rfl, rfl, by decide +kernel⟩ ?hw ?hc
  case hw => w_witness2
  case hc =>
    refine PV.walk_end (l := PySem.Challenge.rw_clockfolds_k02_whole_calendar_walked) (n := 63) (k := 7) (x := "script") (CX := L2.CX0) rfl (by decide) (by kernel_rfl) ⟨rfl, by decide, by decide⟩ ?F (fun _ _ _ _ z => z)
    intro w mg fa h Y G hmg0
    obtain ⟨K, KX, c, cx⟩ := Y
    have hmg : mg ("law" : PySem.Str) = some (.ref fa) := by
      have e : (HandSHeadRun.topDef (OpenLaw.row PySem.Challenge.rw_clockfolds_k02_whole_calendar_walked).prog 35).name = ("law" : PySem.Str) := by kernel_rfl
      rw [← e]
      exact hmg0
    have gm : K02.Gm K mg := ⟨h, KX, G, c, cx⟩
    have e := hmg.symm.trans (gm.glo (x := "law") (by decide))
    cases e
    obtain ⟨fd, F⟩ := c.def_ (K02.fn.length - 1) (d := K02.d_law) rfl
    refine ⟨K, fd, K02.m_law, KX, ?_, fun ns hl => K02.law_true ns hl, fun base _ _ => ?_⟩
    · have b := L2.FunD.bindsA (ps := ["script"]) F fun _ _ _ _ _ _ us hl => match us, hl with | [_], _ => rfl
      exact fun s v => b s [v] rfl
    · obtain ⟨fd2, F2, o⟩ := K02.ok_law (P := (PySem.Challenge.rw_clockfolds_k02_whole_calendar_walked).prog) (w := w) (base := base) gm
      have ef : fd2 = fd := PV.FunD.fd_eq F2 F
      subst ef
      exact o.fn
