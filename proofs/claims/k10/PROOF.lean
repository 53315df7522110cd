import PyProof.Rows.All
import Wide.All
import OpenK.AllK
import Wide.FinOn
import HandS.ForMost
import HandS.More
import HandS.Flow
import HandS.Style
import HandS.Zip
import HandS.Wide
import HandS.Defaults
import HandS.Head0
import HandS.Head1
import HandS.Head2
import HandS.HeadEnd
import HandS.HeadHook1
import HandS.HeadHook2
import HandS.Exc
import PyProof.FitsInt
import HandS.IsInst
import HandS.ClsMeth
import HandS.Property
import KE.KOpsOwn
import PyProof.InstNe
import PyProof.Draws
import PyProof.EnumMake
import PyProof.Rows.StrStep
import KE.KxField
import KE.KIntText
import HandS.IntHex
import HandS.WideBits
import HandS.SortKw
import HandS.Star
import HandS.FStr
import KE.DataMinMax
import HandS.DictComp
import HandS.Text
import HandS.MakeKw
import KE.IntBitsLaws
import KE.KRevSl
import PyProof.Rows.StrRev
import HandS.SortInts
import PyProof.Rows.CountFlat
import PySem.Challenge.RW_clockfolds_k10_whole_counts_add_up
set_option Elab.async false
set_option linter.all false
set_option maxRecDepth 100000
set_option maxHeartbeats 4000000
namespace PV
open PySem PySem.Spec PyProof.Rows L2

/-! ## values -/
inductive D where
  | non | bl (b : Bool) | int (i : Int) | str (x : Str) | tup (l : List D) | lst (l : List D) | ref (a : Addr) | scr (l : List Int) | obj (x : Str) (ks : List Str) (l : List D) | dct (ks l : List D) | cls (x : Str)

def KTup (K : PySem.W.Frag) (a : Addr) (xs : List V) : Prop := ∃ (o : Obj) (its : Array Value) (n : Nat), K.lookup a = some o ∧ o.cls = .type "tuple" ∧ o.data = .seq its n ∧ its.size ≤ sizeLine ∧ Vals xs its.toList
def KLst (K : PySem.W.Frag) (a : Addr) (xs : List V) : Prop := ∃ (o : Obj) (its : Array Value) (n : Nat), K.lookup a = some o ∧ o.cls = .type "list" ∧ o.dict = none ∧ o.data = .seq its n ∧ its.size ≤ sizeLine ∧ Vals xs its.toList

mutual
inductive Rep (K : PySem.W.Frag) (F : Addr → Prop) (H : Hp) : V → D → Prop
  | non : Rep K F H .non .non
  | bl (b : Bool) : Rep K F H (.bl b) (.bl b)
  | int (i : Int) : Rep K F H (.int i) (.int i)
  | str (x : Str) : Rep K F H (.str x) (.str x)
  | ref (a : Addr) : Rep K F H (.ref a) (.ref a)
  | cls (x : Str) : Rep K F H (.ref (He.ga K x)) (.cls x)
  | tup {a : Addr} {vs : List V} {ds : List D} : F a → H a = some (.tup vs) → Reps K F H vs ds → Rep K F H (.ref a) (.tup ds)
  | tupK {a : Addr} {vs : List V} {ds : List D} : KTup K a vs → Reps K F H vs ds → Rep K F H (.ref a) (.tup ds)
  | lst {a : Addr} {vs : List V} {ds : List D} : F a → H a = some (.lst vs) → Reps K F H vs ds → Rep K F H (.ref a) (.lst ds)
  | scr {a : Addr} {o : Obj} {ns : List Int} : F a → H a = some (.frz o (.lst (ns.map V.int))) → Rep K F H (.ref a) (.scr ns)
  | scrK {a : Addr} {ns : List Int} : KLst K a (ns.map V.int) → Rep K F H (.ref a) (.scr ns)
  | obj {a dx : Addr} {x : Str} {ks : List Str} {vs : List V} {ds : List D} : F a → H a = some (.ins (He.ga K x) dx (ks.zip vs)) → Reps K F H vs ds → ks.length = vs.length → Rep K F H (.ref a) (.obj x ks ds)
  | dct {a : Addr} {kvs : List (Key × V)} {ks vs : List V} {kd ds : List D} : F a → H a = some (.dK kvs) → ks = kvs.map (fun p => kV p.1) → vs = kvs.map (·.2) → Reps K F H ks kd → Reps K F H vs ds → Rep K F H (.ref a) (.dct kd ds)
inductive Reps (K : PySem.W.Frag) (F : Addr → Prop) (H : Hp) : List V → List D → Prop
  | nil : Reps K F H [] []
  | cons {v : V} {d : D} {vs : List V} {ds : List D} : Rep K F H v d → Reps K F H vs ds → Reps K F H (v :: vs) (d :: ds)
end

/-- F's objects stand -/
structure Ext (F : Addr → Prop) (H : Hp) (F' : Addr → Prop) (H' : Hp) : Prop where
  sub : ∀ a, F a → F' a
  kp : ∀ a o, F a → H a = some o → H' a = some o
theorem Ext.refl (F : Addr → Prop) (H : Hp) : Ext F H F H := ⟨fun _ h => h, fun _ _ _ e => e⟩
theorem Ext.trans {F F1 F2 : Addr → Prop} {H H1 H2 : Hp} (a : Ext F H F1 H1) (b : Ext F1 H1 F2 H2) : Ext F H F2 H2 :=
  ⟨fun x h => b.sub x (a.sub x h), fun x o h e => b.kp x o (a.sub x h) (a.kp x o h e)⟩

section
variable {K : PySem.W.Frag} {F F' : Addr → Prop} {H H' : Hp}
mutual
theorem Rep.mono (e : Ext F H F' H') {v : V} {d : D} : Rep K F H v d → Rep K F' H' v d
  | .non => .non
  | .bl b => .bl b
  | .int i => .int i
  | .str x => .str x
  | .ref a => .ref a
  | .cls x => .cls x
  | .tup f h r => .tup (e.sub _ f) (e.kp _ _ f h) (Reps.mono e r)
  | .tupK h r => .tupK h (Reps.mono e r)
  | .lst f h r => .lst (e.sub _ f) (e.kp _ _ f h) (Reps.mono e r)
  | .scr f h => .scr (e.sub _ f) (e.kp _ _ f h)
  | .scrK h => .scrK h
  | .obj f h r l => .obj (e.sub _ f) (e.kp _ _ f h) (Reps.mono e r) l
  | .dct f h ek ev r q => .dct (e.sub _ f) (e.kp _ _ f h) ek ev (Reps.mono e r) (Reps.mono e q)
theorem Reps.mono (e : Ext F H F' H') {vs : List V} {ds : List D} : Reps K F H vs ds → Reps K F' H' vs ds
  | .nil => .nil
  | .cons r t => .cons (Rep.mono e r) (Reps.mono e t)
end
theorem Reps.length {vs : List V} {ds : List D} : Reps K F H vs ds → vs.length = ds.length
  | .nil => rfl
  | .cons _ t => congrArg (· + 1) (Reps.length t)
theorem Reps.get {ds : List D} : ∀ {vs : List V} {i : Nat} {d : D}, Reps K F H vs ds → ds[i]? = some d → ∃ v, vs[i]? = some v ∧ Rep K F H v d := by
  induction ds with
  | nil => intro vs i d _ e; simp at e
  | cons x r ih =>
    intro vs i d h e
    cases h with
    | cons hv ht =>
      cases i with
      | zero => simp at e; subst e; exact ⟨_, rfl, hv⟩
      | succ i => simpa using ih ht (by simpa using e)
theorem Reps.getV {vs : List V} : ∀ {ds : List D} {i : Nat} {v : V}, Reps K F H vs ds → vs[i]? = some v → ∃ d, ds[i]? = some d ∧ Rep K F H v d := by
  induction vs with
  | nil => intro ds i d _ e; simp at e
  | cons x r ih =>
    intro ds i d h e
    cases h with
    | cons hv ht =>
      cases i with
      | zero => simp at e; subst e; exact ⟨_, rfl, hv⟩
      | succ i => simpa using ih ht (by simpa using e)
theorem Reps.append {ds es : List D} : ∀ {vs ws : List V}, Reps K F H vs ds → Reps K F H ws es → Reps K F H (vs ++ ws) (ds ++ es) := by
  induction ds with
  | nil => intro vs ws h q; cases h; exact q
  | cons x r ih => intro vs ws h q; cases h with | cons a b => exact .cons a (ih b q)
theorem Reps.take {ds : List D} : ∀ {vs : List V} (n : Nat), Reps K F H vs ds → Reps K F H (vs.take n) (ds.take n) := by
  induction ds with
  | nil => intro vs n h; cases h; simp; exact .nil
  | cons x r ih => intro vs n h; cases h with | cons a b => cases n with
    | zero => exact .nil
    | succ n => exact .cons a (ih n b)
theorem Reps.drop {ds : List D} : ∀ {vs : List V} (n : Nat), Reps K F H vs ds → Reps K F H (vs.drop n) (ds.drop n) := by
  induction ds with
  | nil => intro vs n h; cases h; simp; exact .nil
  | cons x r ih => intro vs n h; cases h with | cons a b => cases n with
    | zero => exact .cons a b
    | succ n => exact ih n b
theorem Reps.ints {ds : List Int} : Reps K F H (ds.map V.int) (ds.map D.int) := by
  induction ds with
  | nil => exact .nil
  | cons x r ih => exact .cons (.int x) ih
theorem Reps.of_ints {ns : List Int} : ∀ {vs : List V}, Reps K F H vs (ns.map D.int) → vs = ns.map V.int := by
  induction ns with
  | nil => intro vs h; cases h; rfl
  | cons x r ih => intro vs h; cases h with | cons a b => cases a; rw [List.map_cons, ih b]
theorem Reps.set {ds : List D} : ∀ {vs : List V} (n : Nat) {v : V} {d : D}, Rep K F H v d → Reps K F H vs ds → Reps K F H (vs.set n v) (ds.set n d) := by
  induction ds with
  | nil => intro vs n v d q h; cases h; exact .nil
  | cons x r ih => intro vs n v d q h; cases h with | cons a b => cases n with
    | zero => exact .cons q b
    | succ n => exact .cons a (ih n q b)
theorem Reps.eraseIdx {ds : List D} : ∀ {vs : List V} (n : Nat), Reps K F H vs ds → Reps K F H (vs.eraseIdx n) (ds.eraseIdx n) := by
  induction ds with
  | nil => intro vs n h; cases h; exact .nil
  | cons x r ih => intro vs n h; cases h with | cons a b => cases n with
    | zero => exact b
    | succ n => exact .cons a (ih n b)
theorem Rep.int_inv {v : V} {i : Int} (h : Rep K F H v (.int i)) : v = .int i := by cases h; rfl
theorem Rep.bl_inv {v : V} {b : Bool} (h : Rep K F H v (.bl b)) : v = .bl b := by cases h; rfl
theorem Rep.str_inv {v : V} {x : Str} (h : Rep K F H v (.str x)) : v = .str x := by cases h; rfl
theorem Rep.non_inv {v : V} (h : Rep K F H v .non) : v = .non := by cases h; rfl
theorem Rep.ref_inv {v : V} {a : Addr} (h : Rep K F H v (.ref a)) : v = .ref a := by cases h; rfl
theorem Rep.tup_inv {v : V} {ds : List D} (h : Rep K F H v (.tup ds)) : ∃ a vs, v = .ref a ∧ SqT K H a vs ∧ Reps K F H vs ds := by
  cases h with
  | tup f h r => exact ⟨_, _, rfl, SqT.of h, r⟩
  | tupK h r => exact ⟨_, _, rfl, .inr h, r⟩
theorem Rep.lst_inv {v : V} {ds : List D} (h : Rep K F H v (.lst ds)) : ∃ a vs, v = .ref a ∧ H a = some (.lst vs) ∧ F a ∧ Reps K F H vs ds := by
  cases h with
  | lst f h r => exact ⟨_, _, rfl, h, f, r⟩
theorem Rep.scr_inv {v : V} {ns : List Int} (h : Rep K F H v (.scr ns)) : ∃ a, v = .ref a ∧ SqL K H a (ns.map V.int) := by
  cases h with
  | scr f h => exact ⟨_, rfl, .inl (.inr ⟨_, h⟩)⟩
  | scrK h => exact ⟨_, rfl, .inr h⟩
theorem Rep.obj_inv {v : V} {x : Str} {ks : List Str} {ds : List D} (h : Rep K F H v (.obj x ks ds)) : ∃ a dx vs, v = .ref a ∧ F a ∧ H a = some (.ins (He.ga K x) dx (ks.zip vs)) ∧ Reps K F H vs ds ∧ ks.length = vs.length := by
  cases h with
  | obj f h r l => exact ⟨_, _, _, rfl, f, h, r, l⟩
theorem Rep.dct_inv {v : V} {kd ds : List D} (h : Rep K F H v (.dct kd ds)) : ∃ a kvs, v = .ref a ∧ F a ∧ H a = some (.dK kvs) ∧ Reps K F H (kvs.map fun p => kV p.1) kd ∧ Reps K F H (kvs.map (·.2)) ds := by
  cases h with
  | dct f h ek ev r q => subst ek; subst ev; exact ⟨_, _, rfl, f, h, r, q⟩
end

/-! ## slots -/
structure LSt where
  wide : List Int
  cells : List Int
  rest : Int
  turn : Int
inductive Sl where
  | emp | p (d : D) | st (S : LSt) | ml (l : List D) | ob (x : Str) (ks : List Str) (l : List D)
abbrev Env := List Sl

def stKvs (b c : Addr) (S : LSt) : List (Key × V) := [(Sum.inr ("wide" : Str), V.ref b), (Sum.inr ("cells" : Str), V.ref c), (Sum.inr ("rest" : Str), V.int S.rest), (Sum.inr ("turn" : Str), V.int S.turn)]
def stH (F : Addr → Prop) (H : Hp) (P : Addr → Prop) (a : Addr) (S : LSt) : Prop := ∃ b c, P a ∧ P b ∧ F c ∧ a ≠ b ∧
  H a = some (.dK (stKvs b c S)) ∧ H b = some (.lst (S.wide.map V.int)) ∧ H c = some (.lst (S.cells.map V.int))
inductive SlR (K : PySem.W.Frag) (F : Addr → Prop) (H : Hp) (P : Addr → Prop) : V → Sl → Prop
  | p {v : V} {d : D} : Rep K F H v d → SlR K F H P v (.p d)
  | st {a : Addr} {S : LSt} : stH F H P a S → SlR K F H P (.ref a) (.st S)
  | ml {a : Addr} {vs : List V} {ds : List D} : P a → H a = some (.lst vs) → Reps K F H vs ds → SlR K F H P (.ref a) (.ml ds)
  | ob {a dx : Addr} {x : Str} {ks : List Str} {vs : List V} {ds : List D} : P a → H a = some (.ins (He.ga K x) dx (ks.zip vs)) → Reps K F H vs ds → ks.length = vs.length → SlR K F H P (.ref a) (.ob x ks ds)
theorem SlR.mono {K : PySem.W.Frag} {F F' P P' : Addr → Prop} {H H' : Hp} (e : Ext F H F' H') (k : ∀ a, P a → P' a ∧ H' a = H a) {v : V} {s : Sl} (h : SlR K F H P v s) : SlR K F' H' P' v s := by
  cases h with
  | p r => exact .p (r.mono e)
  | st h =>
    obtain ⟨b, c, pa, pb, pc, n1, ha, hb, hc⟩ := h
    exact .st ⟨b, c, (k _ pa).1, (k _ pb).1, e.sub _ pc, n1, by rw [(k _ pa).2]; exact ha, by rw [(k _ pb).2]; exact hb, e.kp _ _ pc hc⟩
  | ml pa h r => exact .ml (k _ pa).1 (by rw [(k _ pa).2]; exact h) (r.mono e)
  | ob pa h r l => exact .ob (k _ pa).1 (by rw [(k _ pa).2]; exact h) (r.mono e) l

/-- the function's ground: its entry heap, what was frozen, what it may write, where its shared argument stands -/
structure FC where
  F0 : Addr → Prop
  H0 : Hp
  fp0 : Addr → Prop
  io : Option (Nat × V)

structure W (K : PySem.W.Frag) (c : FC) (F : Addr → Prop) (ow : Addr → Option Nat) (H : Hp) (σ : L2.St) (δ : Env) : Prop where
  len : σ.length = δ.length
  sl : ∀ i s, δ[i]? = some s → s = .emp ∨ ∃ v, σ[i]? = some (some v) ∧ SlR K F H (fun a => ow a = some i) v s
  df : ∀ a i, ow a = some i → ¬ F a ∧ H a ≠ none ∧ (c.fp0 a ∨ c.H0 a = none)
  ft : ∀ a, F a → H a ≠ none ∧ (c.F0 a ∨ c.fp0 a ∨ c.H0 a = none)
  kp : ∀ a o, c.H0 a = some o → ¬ c.fp0 a → H a = some o
  io : ∀ j a, c.io = some (j, a) → σ[j]? = some (some a)

section
variable {K : PySem.W.Frag} {c : FC} {F F' : Addr → Prop} {ow ow' : Addr → Option Nat} {H H' : Hp} {σ : L2.St} {δ : Env}
theorem W.pur (w : W K c F ow H σ δ) {i : Nat} {d : D} (h : δ[i]? = some (.p d)) : ∃ v, σ[i]? = some (some v) ∧ Rep K F H v d := by
  rcases w.sl i _ h with z | ⟨v, e, r⟩
  · cases z
  · cases r with | p r => exact ⟨v, e, r⟩
theorem W.fresh (w : W K c F ow H σ δ) {p : Addr} (h : H p = none) : ow p = none ∧ ¬ F p ∧ (c.fp0 p ∨ c.H0 p = none) := by
  refine ⟨?_, fun f => (w.ft p f).1 h, ?_⟩
  · cases q : ow p with
    | none => rfl
    | some i => exact absurd h (w.df p i q).2.1
  · by_cases z : c.fp0 p
    · exact .inl z
    · cases q : c.H0 p with
      | none => exact .inr rfl
      | some o => rw [w.kp p o q z] at h; cases h
/-- a new object, frozen -/
theorem Ext.new (w : W K c F ow H σ δ) {p : Addr} {o : HO} (h : H p = none) : Ext F H (fun a => F a ∨ a = p) (upd H p o) :=
  ⟨fun _ f => .inl f, fun a u f e => by rw [upd_ne (ne_of_none e h)]; exact e⟩
theorem W.new (w : W K c F ow H σ δ) {p : Addr} {o : HO} (h : H p = none) : W K c (fun a => F a ∨ a = p) ow (upd H p o) σ δ where
  len := w.len
  sl := fun i s e => (w.sl i s e).imp id fun ⟨v, q, r⟩ => ⟨v, q, r.mono (Ext.new w h) fun a z => ⟨z, upd_ne fun z' => by subst z'; exact (w.df _ _ z).2.1 h⟩⟩
  df := fun a i z => ⟨fun f => f.elim (w.df a i z).1 fun e => by subst e; exact (w.df _ _ z).2.1 h, by rw [upd_ne (fun e => by subst e; exact (w.df _ _ z).2.1 h)]; exact (w.df a i z).2.1, (w.df a i z).2.2⟩
  ft := fun a f => by
    by_cases e : a = p
    · subst e; rw [upd_same]; exact ⟨by simp, .inr (w.fresh h).2.2⟩
    · rw [upd_ne e]; exact w.ft a (f.resolve_right e)
  kp := fun a u e z => by
    have q := w.kp a u e z
    rw [upd_ne (ne_of_none q h)]; exact q
  io := w.io
/-- a slot is given a frozen value -/
theorem W.set (w : W K c F ow H σ δ) {i : Nat} {v : V} {d : D} (r : Rep K F H v d) (hio : ∀ a, c.io ≠ some (i, a)) : W K c F ow H (σ.set i (some v)) (δ.set i (.p d)) where
  len := by simp [w.len]
  sl := fun j s e => by
    by_cases hj : i = j
    · subst hj
      have hl : i < δ.length := by
        rcases Nat.lt_or_ge i δ.length with z | z
        · exact z
        · rw [List.getElem?_eq_none (by simpa using z)] at e; cases e
      rw [List.getElem?_set_self hl] at e
      cases e
      exact .inr ⟨v, List.getElem?_set_self (by rw [w.len]; exact hl), .p r⟩
    · rw [List.getElem?_set_ne hj] at e
      rw [List.getElem?_set_ne hj]
      exact w.sl j s e
  df := w.df
  ft := w.ft
  kp := w.kp
  io := fun j a e => by
    rw [List.getElem?_set_ne (fun z => by subst z; exact hio a e)]
    exact w.io j a e
end

/-! ## outcomes -/
inductive R (α : Type) where
  | ok (a : α) (δ : Env) | bad
def R.bind {α β : Type} : R α → (α → Env → R β) → R β
  | .ok a δ, k => k a δ
  | .bad, _ => .bad
@[simp] theorem R.bind_ok {α β : Type} (a : α) (δ : Env) (k : α → Env → R β) : (R.ok a δ).bind k = k a δ := rfl
@[simp] theorem R.bind_bad {α β : Type} (k : α → Env → R β) : (R.bad : R α).bind k = .bad := rfl
inductive SRes where
  | nx (δ : Env) | rt (d : D) (δ : Env) | bk (δ : Env) | ct (δ : Env) | bad
def SRes.seq : SRes → (Env → SRes) → SRes
  | .nx δ, g => g δ
  | r, _ => r
@[simp] theorem SRes.seq_nx (δ : Env) (g : Env → SRes) : (SRes.nx δ).seq g = g δ := rfl
@[simp] theorem SRes.seq_rt (d : D) (δ : Env) (g : Env → SRes) : (SRes.rt d δ).seq g = .rt d δ := rfl
@[simp] theorem SRes.seq_bk (δ : Env) (g : Env → SRes) : (SRes.bk δ).seq g = .bk δ := rfl
@[simp] theorem SRes.seq_ct (δ : Env) (g : Env → SRes) : (SRes.ct δ).seq g = .ct δ := rfl
@[simp] theorem SRes.seq_bad (g : Env → SRes) : SRes.bad.seq g = .bad := rfl

abbrev RepF (α β : Type) := (Addr → Prop) → Hp → β → α → Prop
def Go {α β : Type} (K : PySem.W.Frag) (c : FC) (rep : RepF α β) (F : Addr → Prop) (H : Hp) (σ : L2.St) (r : R α) (Q : β → Hp → Prop) : Prop :=
  match r with
  | .ok d δ' => ∀ F' ow' H' v, Ext F H F' H' → W K c F' ow' H' σ δ' → rep F' H' v d → Q v H'
  | .bad => False
def tG {α β : Type} (K : PySem.W.Frag) (c : FC) (rep : RepF α β) (f : Env → R α) : L2.St → Hp → (β → Hp → Prop) → Prop :=
  fun σ H Q => ∃ F ow δ, W K c F ow H σ δ ∧ Go K c rep F H σ (f δ) Q
abbrev repB : RepF Bool Bool := fun _ _ b b' => b = b'
abbrev tD (K : PySem.W.Frag) (c : FC) (f : Env → R D) : TE := tG K c (Rep K) f
abbrev tBn (K : PySem.W.Frag) (c : FC) (f : Env → R Bool) : TT := tG K c repB f
abbrev tAr (K : PySem.W.Frag) (c : FC) (f : Env → R (List D)) : TA := tG K c (Reps K) f

def GoS (K : PySem.W.Frag) (c : FC) (F : Addr → Prop) (H : Hp) (r : SRes) (Dn : Ends) : Prop :=
  match r with
  | .nx δ' => ∀ F' ow' H' σ', Ext F H F' H' → W K c F' ow' H' σ' δ' → Dn.nx σ' H'
  | .rt d δ' => ∀ F' ow' H' σ' v, Ext F H F' H' → W K c F' ow' H' σ' δ' → Rep K F' H' v d → Dn.rt v H'
  | .bk δ' => ∀ F' ow' H' σ', Ext F H F' H' → W K c F' ow' H' σ' δ' → Dn.bk σ' H'
  | .ct δ' => ∀ F' ow' H' σ', Ext F H F' H' → W K c F' ow' H' σ' δ' → Dn.ct σ' H'
  | .bad => False
def tSt (K : PySem.W.Frag) (c : FC) (f : Env → SRes) : TS := fun Dn σ H => ∃ F ow δ, W K c F ow H σ δ ∧ GoS K c F H (f δ) Dn

section
variable {K : PySem.W.Frag} {c : FC} {F F' : Addr → Prop} {H H' : Hp} {σ : L2.St}
theorem Go.mono {α β : Type} {rep : RepF α β} {r : R α} {Q : β → Hp → Prop} (e : Ext F H F' H') (h : Go K c rep F H σ r Q) : Go K c rep F' H' σ r Q := by
  cases r with
  | ok d δ => exact fun F2 ow2 H2 v e2 w2 r2 => h F2 ow2 H2 v (e.trans e2) w2 r2
  | bad => exact h
theorem Go.imp {α β : Type} {rep : RepF α β} {r : R α} {Q Q' : β → Hp → Prop} (i : ∀ v H, Q v H → Q' v H) (h : Go K c rep F H σ r Q) : Go K c rep F H σ r Q' := by
  cases r with
  | ok d δ => exact fun F2 ow2 H2 v e2 w2 r2 => i _ _ (h F2 ow2 H2 v e2 w2 r2)
  | bad => exact h
theorem GoS.mono {r : SRes} {Dn : Ends} (e : Ext F H F' H') (h : GoS K c F H r Dn) : GoS K c F' H' r Dn := by
  cases r with
  | nx δ => exact fun F2 ow2 H2 s2 e2 w2 => h F2 ow2 H2 s2 (e.trans e2) w2
  | rt d δ => exact fun F2 ow2 H2 s2 v e2 w2 r2 => h F2 ow2 H2 s2 v (e.trans e2) w2 r2
  | bk δ => exact fun F2 ow2 H2 s2 e2 w2 => h F2 ow2 H2 s2 (e.trans e2) w2
  | ct δ => exact fun F2 ow2 H2 s2 e2 w2 => h F2 ow2 H2 s2 (e.trans e2) w2
  | bad => exact h
/-- first one part, then what follows, in one state more -/
theorem Go.bind {α β α' β' : Type} {rep : RepF α β} {rep' : RepF α' β'} {r : R α} {k : α → Env → R α'} {Q : β' → Hp → Prop} (h : Go K c rep' F H σ (r.bind k) Q) :
    Go K c rep F H σ r fun v H1 => ∃ F1 ow1 d δ1, Ext F H F1 H1 ∧ W K c F1 ow1 H1 σ δ1 ∧ rep F1 H1 v d ∧ r = .ok d δ1 ∧ Go K c rep' F1 H1 σ (k d δ1) Q := by
  cases r with
  | ok d δ => exact fun F2 ow2 H2 v e2 w2 r2 => ⟨F2, ow2, d, δ, e2, w2, r2, rfl, Go.mono e2 h⟩
  | bad => exact h
end

/-! ## judgements -/
theorem PE.imp {X : Cx} {e : Expr} {t t' : TE} (h : PE X e t) (i : ∀ σ H Q, t' σ H Q → t σ H Q) : PE X e t' := ⟨fun pins s σ H Q I q => h.run pins s σ H Q I (i σ H Q q)⟩
theorem PT.imp {X : Cx} {e : Expr} {t t' : TT} (h : PT X e t) (i : ∀ σ H Q, t' σ H Q → t σ H Q) : PT X e t' := ⟨fun pins s σ H Q I q => h.run pins s σ H Q I (i σ H Q q)⟩
theorem PW.imp {X : Cx} {e : Expr} {t t' : TT} (h : PW X e t) (i : ∀ σ H Q, t' σ H Q → t σ H Q) : PW X e t' := ⟨fun w pins s σ H Q I q => h.run w pins s σ H Q I (i σ H Q q)⟩
theorem PA.imp {X : Cx} {e : List Expr} {t t' : TA} (h : PA X e t) (i : ∀ σ H Q, t' σ H Q → t σ H Q) : PA X e t' := ⟨fun pos pins s σ H Q I q => h.run pos pins s σ H Q I (i σ H Q q)⟩
theorem PS.imp {X : Cx} {e : Stmt} {t t' : TS} (h : PS X e t) (i : ∀ D σ H, t' D σ H → t D σ H) : PS X e t' := ⟨fun pins s σ H D I q => h.run pins s σ H D I (i D σ H q)⟩
theorem PSs.imp {X : Cx} {e : List Stmt} {t t' : TS} (h : PSs X e t) (i : ∀ D σ H, t' D σ H → t D σ H) : PSs X e t' := ⟨fun pins s σ H D I q => h.run pins s σ H D I (i D σ H q)⟩

abbrev DE (X : Cx) (c : FC) (e : Expr) (f : Env → R D) : Prop := PE X e (tD X.K c f)
abbrev DT (X : Cx) (c : FC) (e : Expr) (f : Env → R Bool) : Prop := PT X e (tBn X.K c f)
abbrev DW (X : Cx) (c : FC) (e : Expr) (f : Env → R Bool) : Prop := PW X e (tBn X.K c f)
abbrev DA (X : Cx) (c : FC) (es : List Expr) (f : Env → R (List D)) : Prop := PA X es (tAr X.K c f)
abbrev DS (X : Cx) (c : FC) (s : Stmt) (f : Env → SRes) : Prop := PS X s (tSt X.K c f)
abbrev DSs (X : Cx) (c : FC) (s : List Stmt) (f : Env → SRes) : Prop := PSs X s (tSt X.K c f)

section
variable {X : Cx} {c : FC} {a b e : Expr} {fa fb : Env → R D} {pos : Pos}
/-! ### names, constants -/
def dV (i : Nat) (δ : Env) : R D := match δ[i]? with
  | some (.p d) => .ok d δ
  | _ => .bad
def dC (d : D) (δ : Env) : R D := .ok d δ
theorem de_var (i : Nat) (h : PE X e (tVar i)) : DE X c e (dV i) := PE.imp h fun σ H Q ⟨F, ow, δ, w, g⟩ => by
  unfold dV at g
  split at g
  · rename_i d q
    obtain ⟨v, ev, r⟩ := w.pur q
    exact ⟨v, ev, g F ow H v (Ext.refl _ _) w r⟩
  · exact g.elim
theorem de_con {v : V} {d : D} (h : PE X e (tC v)) (r : ∀ F H, Rep X.K F H v d) : DE X c e (dC d) := PE.imp h fun σ H Q ⟨F, ow, δ, w, g⟩ => g F ow H v (Ext.refl _ _) w (r F H)
theorem de_int {i : Int} {j : Nat} {p : Pos} : DE X c (.Constant (.int i) j p) (dC (.int i)) := de_con pe_int fun _ _ => .int i
theorem de_bl {i : Bool} {j : Nat} {p : Pos} : DE X c (.Constant (.bool i) j p) (dC (.bl i)) := de_con pe_bl fun _ _ => .bl i
theorem de_non {j : Nat} {p : Pos} : DE X c (.Constant .none j p) (dC .non) := de_con pe_non fun _ _ => .non
theorem de_str {x : Str} {j : Nat} {p : Pos} : DE X c (.Constant (.str x) j p) (dC (.str x)) := de_con pe_str fun _ _ => .str x

/-! ### two-place operators -/
def dOp (g : D → D → Option D) (fa fb : Env → R D) (δ : Env) : R D := (fa δ).bind fun x δ1 => (fb δ1).bind fun y δ2 => match g x y with
  | some z => .ok z δ2
  | none => .bad
/-- an operation that makes nothing: r by values, g by data -/
def OpD (K : PySem.W.Frag) (r : R2) (g : D → D → Option D) : Prop := ∀ (c : FC) (F : Addr → Prop) (ow : Addr → Option Nat) (H : Hp) (σ : L2.St) (δ : Env) (x y : D) (v u : V) (z : D) (Q : VK), W K c F ow H σ δ → Rep K F H v x → Rep K F H u y → g x y = some z →
  Go K c (Rep K) F H σ (.ok z δ) Q → r v u H Q
theorem op_imp {r : R2} {g : D → D → Option D} (ho : OpD X.K r g) (σ : L2.St) (H : Hp) (Q : VK) (h : tD X.K c (dOp g fa fb) σ H Q) : tOp r (tD X.K c fa) (tD X.K c fb) σ H Q := by
  obtain ⟨F, ow, δ, w, g1⟩ := h
  refine ⟨F, ow, δ, w, Go.imp (fun v H1 h1 => ?_) (Go.bind (rep := Rep X.K) g1)⟩
  obtain ⟨F1, ow1, d, δ1, e1, w1, r1, _, g2⟩ := h1
  refine ⟨F1, ow1, δ1, w1, Go.imp (fun u H2 h2 => ?_) (Go.bind (rep := Rep X.K) g2)⟩
  obtain ⟨F2, ow2, d2, δ2, e2, w2, r2, _, g3⟩ := h2
  cases q : g d d2 with
  | none => rw [q] at g3; exact g3.elim
  | some z =>
    rw [q] at g3
    exact ho c F2 ow2 H2 σ δ2 d d2 v u z Q w2 (r1.mono e2) r2 q g3
theorem de_op {op : Operator} {r : R2} {g : D → D → Option D} (hr : OpR X (binaryOp op) r) (ho : OpD X.K r g) (ha : DE X c a fa) (hb : DE X c b fb) : DE X c (.BinOp a op b pos) (dOp g fa fb) :=
  PE.imp (pe_op hr ha hb) (op_imp ho)
end
end PV

namespace PV
open PySem PySem.Spec PyProof.Rows L2

/-! ## data as the library's -/
mutual
def D.py : D → Option PyData
  | .non => some .none
  | .bl b => some (.bool b)
  | .int i => some (.int i)
  | .str x => some (.str x)
  | .tup l => (D.pys l).map .tuple
  | .lst l => (D.pys l).map .list
  | .ref _ => none
  | .scr _ => none
  | .obj _ _ _ => none
  | .dct _ _ => none
  | .cls _ => none
def D.pys : List D → Option (List PyData)
  | [] => some []
  | x :: r => (D.py x).bind fun a => (D.pys r).map fun b => a :: b
end
section
variable {K : PySem.W.Frag} {F : Addr → Prop} {H : Hp}
mutual
theorem Rep.dp : ∀ {d : D} {v : V} {p : PyData}, Rep K F H v d → d.py = some p → Dp K H v p
  | .non, _, _, h, e => by cases h; cases e; exact .non
  | .bl b, _, _, h, e => by cases h; cases e; exact .bl b
  | .int i, _, _, h, e => by cases h; cases e; exact .int i
  | .str x, _, _, h, e => by cases h; cases e; exact .str x
  | .tup l, v, p, h, e => by
    obtain ⟨a, vs, rfl, hq, hr⟩ := Rep.tup_inv h
    have e' : (D.pys l).map PyData.tuple = some p := by rw [D.py] at e; exact e
    cases q : D.pys l with
    | none => rw [q] at e'; cases e'
    | some ps => rw [q] at e'; cases e'; exact .tup hq (Reps.dp hr q)
  | .lst l, v, p, h, e => by
    obtain ⟨a, vs, rfl, hq, _, hr⟩ := Rep.lst_inv h
    have e' : (D.pys l).map PyData.list = some p := by rw [D.py] at e; exact e
    cases q : D.pys l with
    | none => rw [q] at e'; cases e'
    | some ps => rw [q] at e'; cases e'; exact .lst (SqL.of hq) (Reps.dp hr q)
  | .ref _, _, _, _, e => by rw [D.py] at e; cases e
  | .scr _, _, _, _, e => by rw [D.py] at e; cases e
  | .obj _ _ _, _, _, _, e => by rw [D.py] at e; cases e
  | .dct _ _, _, _, _, e => by rw [D.py] at e; cases e
  | .cls _, _, _, _, e => by rw [D.py] at e; cases e
theorem Reps.dp : ∀ {ds : List D} {vs : List V} {ps : List PyData}, Reps K F H vs ds → D.pys ds = some ps → DpAll K H vs ps
  | [], _, _, h, e => by cases h; rw [D.pys] at e; cases e; exact .nil
  | x :: r, _, ps, h, e => by
    cases h with
    | cons hx hr =>
      rw [D.pys] at e
      cases q : D.py x with
      | none => rw [q] at e; cases e
      | some a =>
        cases q2 : D.pys r with
        | none => rw [q, q2] at e; cases e
        | some b => rw [q, q2] at e; cases e; exact .cons (Rep.dp hx q) (Reps.dp hr q2)
end
end

/-! ## operators -/
def gAdd : D → D → Option D
  | .int i, .int j => some (.int (i + j))
  | .lst a, .lst b => if a.length + b.length ≤ 16000000 then some (.lst (a ++ b)) else none
  | .tup a, .tup b => if a.length + b.length ≤ 16000000 ∧ a ≠ [] ∧ b ≠ [] then some (.tup (a ++ b)) else none
  | .str a, .str b => if a.length + b.length ≤ 16000000 then some (.str (a ++ b)) else none
  | _, _ => none
instance decNil {α : Type} (l : List α) : Decidable (l = []) := match l with
  | [] => isTrue rfl
  | _ :: _ => isFalse (fun h => by cases h)
def gSub : D → D → Option D
  | .int i, .int j => some (.int (i - j))
  | _, _ => none
def gMul : D → D → Option D
  | .int i, .int j => if (i.natAbs < 18446744073709551616 ∨ j.natAbs < 18446744073709551616) ∨ i.natAbs.log2 + j.natAbs.log2 < 1000000 then some (.int (i * j)) else none
  | .lst a, .int j => if 0 ≤ j ∧ j < 16000000 ∧ a.length * j.toNat ≤ 16000000 then some (.lst (List.replicate j.toNat a).flatten) else none
  | _, _ => none
def gDiv : D → D → Option D
  | .int i, .int j => if 0 < j ∧ j.natAbs.log2 < 9000 then some (.int (i / j)) else none
  | _, _ => none
def gMod : D → D → Option D
  | .int i, .int j => if 0 < j then some (.int (i % j)) else none
  | _, _ => none
def gPow : D → D → Option D
  | .int i, .int j => if 0 ≤ j ∧ j ≤ 1000000 ∧ i.natAbs < 18446744073709551616 then some (.int (i ^ j.toNat)) else none
  | _, _ => none
theorem line16 : (16000000 : Nat) ≤ sizeLine := by decide
theorem line16' : sizeLine = 16777216 := by decide
section
variable {K : PySem.W.Frag}
/-- a scalar comes out -/
theorem go_val {c : FC} {F : Addr → Prop} {ow : Addr → Option Nat} {H : Hp} {σ : L2.St} {δ : Env} {z : D} {v : V} {Q : VK} (w : W K c F ow H σ δ) (r : Rep K F H v z) (g : Go K c (Rep K) F H σ (.ok z δ) Q) : Q v H := g F ow H v (Ext.refl _ _) w r
theorem go_new {c : FC} {F : Addr → Prop} {ow : Addr → Option Nat} {H : Hp} {σ : L2.St} {δ : Env} {z : D} {o : HO} {Q : VK} (w : W K c F ow H σ δ) (g : Go K c (Rep K) F H σ (.ok z δ) Q) (r : ∀ p, H p = none → Rep K (fun a => F a ∨ a = p) (upd H p o) (.ref p) z) :
    ∀ p, H p = none → Q (.ref p) (upd H p o) := fun p hp => g _ ow _ _ (Ext.new w hp) (w.new hp) (r p hp)
theorem new_lst {c : FC} {F : Addr → Prop} {ow : Addr → Option Nat} {H : Hp} {σ : L2.St} {δ : Env} {vs : List V} {ds : List D} {Q : VK} (w : W K c F ow H σ δ) (r : Reps K F H vs ds) (g : Go K c (Rep K) F H σ (.ok (.lst ds) δ) Q) :
    ∀ p, H p = none → Q (.ref p) (upd H p (.lst vs)) := go_new w g fun p hp => .lst (.inr rfl) upd_same (r.mono (Ext.new w hp))
theorem new_tup {c : FC} {F : Addr → Prop} {ow : Addr → Option Nat} {H : Hp} {σ : L2.St} {δ : Env} {vs : List V} {ds : List D} {Q : VK} (w : W K c F ow H σ δ) (r : Reps K F H vs ds) (g : Go K c (Rep K) F H σ (.ok (.tup ds) δ) Q) :
    ∀ p, H p = none → Q (.ref p) (upd H p (.tup vs)) := go_new w g fun p hp => .tup (.inr rfl) upd_same (r.mono (Ext.new w hp))
def rAddP (K : PySem.W.Frag) : R2 := fun x y H Q => (rI0 fun i j => .int (i + j)) x y H Q ∨ rCat x y H Q ∨ rCatT K x y H Q ∨ (∃ i j, x = .str i ∧ y = .str j ∧ i.length + j.length ≤ sizeLine ∧ Q (.str (i ++ j)) H)
theorem opr_add {X : Cx} : OpR X (binaryOp .Add) (rAddP X.K) := op_add.or (op_cat.or (op_catT.or op_add_str))
theorem opd_add : OpD K (rAddP K) gAdd := by
  intro c F ow H σ δ x y v u z Q w rx ry e g
  unfold gAdd at e
  split at e
  · cases e; cases rx; cases ry
    exact .inl ⟨_, _, rfl, rfl, go_val w (.int _) g⟩
  · split at e
    · rename_i hz
      cases e
      obtain ⟨p, vs, rfl, hp, _, r1⟩ := rx.lst_inv
      obtain ⟨q, us, rfl, hq, _, r2⟩ := ry.lst_inv
      have := line16
      have l1 := r1.length
      have l2 := r2.length
      exact .inr (.inl ⟨p, q, vs, us, rfl, rfl, hp, hq, by omega, new_lst w (r1.append r2) g⟩)
    · cases e
  · split at e
    · rename_i a b hz
      cases e
      obtain ⟨p, vs, rfl, hp, r1⟩ := rx.tup_inv
      obtain ⟨q, us, rfl, hq, r2⟩ := ry.tup_inv
      have := line16
      have l1 := r1.length
      have l2 := r2.length
      refine .inr (.inr (.inl ⟨p, q, vs, us, rfl, rfl, hp, hq, fun h => ?_, by omega, fun h => ?_, fun _ => new_tup w (r1.append r2) g⟩))
      · subst h; cases a with
        | nil => exact hz.2.1 rfl
        | cons _ _ => cases r1
      · subst h; cases b with
        | nil => exact absurd rfl hz.2.2
        | cons _ _ => cases r2
    · cases e
  · split at e
    · rename_i a b hz
      cases e; cases rx; cases ry
      have := line16
      exact .inr (.inr (.inr ⟨_, _, rfl, rfl, by omega, go_val w (.str _) g⟩))
    · cases e
  · cases e
theorem opd_sub : OpD K (rI0 fun i j => .int (i - j)) gSub := by
  intro c F ow H σ δ x y v u z Q w rx ry e g
  unfold gSub at e
  split at e
  · cases e; cases rx; cases ry; exact ⟨_, _, rfl, rfl, go_val w (.int _) g⟩
  · cases e
def rMulP : R2 := fun x y H Q => (rI CMul fun i j => .int (i * j)) x y H Q ∨ (rI CMulW fun i j => .int (i * j)) x y H Q ∨ rRep x y H Q
theorem opr_mul {X : Cx} : OpR X (binaryOp .Mult) rMulP := op_mul.or (op_mulW.or op_rep)
theorem opd_mul : OpD K rMulP gMul := by
  intro c F ow H σ δ x y v u z Q w rx ry e g
  unfold gMul at e
  split at e
  · split at e
    · rename_i i j hz
      cases e; cases rx; cases ry
      rcases hz with hz | hz
      · refine .inl ⟨_, _, rfl, rfl, ?_, go_val w (.int _) g⟩
        unfold CMul
        omega
      · exact .inr (.inl ⟨_, _, rfl, rfl, hz, go_val w (.int _) g⟩)
    · cases e
  · split at e
    · rename_i a j hz
      cases e; cases ry
      obtain ⟨p, vs, rfl, hp, _, r1⟩ := rx.lst_inv
      have := line16
      have l1 := r1.length
      refine .inr (.inr ⟨p, j, vs, rfl, rfl, hp, by omega, by omega, by rw [l1]; omega, new_lst w ?_ g⟩)
      generalize j.toNat = n
      induction n with
      | zero => exact .nil
      | succ n ih => simp only [List.replicate_succ, List.flatten_cons]; exact r1.append ih
    · cases e
  · cases e
theorem opd_div : OpD K (rI CDivW fun i j => .int (i / j)) gDiv := by
  intro c F ow H σ δ x y v u z Q w rx ry e g
  unfold gDiv at e
  split at e
  · split at e
    · rename_i hz; cases e; cases rx; cases ry; exact ⟨_, _, rfl, rfl, hz, go_val w (.int _) g⟩
    · cases e
  · cases e
theorem opd_mod : OpD K (rI (fun _ j => 0 < j) fun i j => .int (i % j)) gMod := by
  intro c F ow H σ δ x y v u z Q w rx ry e g
  unfold gMod at e
  split at e
  · split at e
    · rename_i hz; cases e; cases rx; cases ry; exact ⟨_, _, rfl, rfl, hz, go_val w (.int _) g⟩
    · cases e
  · cases e
theorem opd_pow : OpD K (rI CPow fun i j => .int (i ^ j.toNat)) gPow := by
  intro c F ow H σ δ x y v u z Q w rx ry e g
  unfold gPow at e
  split at e
  · split at e
    · rename_i hz; cases e; cases rx; cases ry; exact ⟨_, _, rfl, rfl, ⟨hz.1, hz.2.1, by omega⟩, go_val w (.int _) g⟩
    · cases e
  · cases e

/-! ### comparisons -/
def gCmp (f : Int → Int → Bool) : D → D → Option D
  | .int i, .int j => some (.bl (f i j))
  | _, _ => none
theorem opd_cmp (f : Int → Int → Bool) : OpD K (rI0 fun i j => .bl (f i j)) (gCmp f) := by
  intro c F ow H σ δ x y v u z Q w rx ry e g
  unfold gCmp at e
  split at e
  · cases e; cases rx; cases ry; exact ⟨_, _, rfl, rfl, go_val w (.bl _) g⟩
  · cases e
def gEqB : D → D → Option Bool
  | .int i, .int j => some (decide (i = j))
  | .bl i, .bl j => some (decide (i = j))
  | .str i, .str j => some (decide (i = j))
  | x, y => match x.py, y.py with
    | some p, some q => if SeqAt.shaped p = true ∧ SeqAt.shaped q = true then some (PyData.eqv p q) else none
    | _, _ => none
def gEq (neg : Bool) (x y : D) : Option D := (gEqB x y).map fun b => .bl (if neg then !b else b)
def rEqP (K : PySem.W.Frag) : R2 := fun x y H Q => rEq x y H Q ∨ rEqD K x y H Q
def rNeP (K : PySem.W.Frag) : R2 := fun x y H Q => rNe x y H Q ∨ rNeD K x y H Q
theorem opr_eq {X : Cx} (hu : X.A.units + 64 < cLine) : OpR X (compareOp .Eq) (rEqP X.K) := op_eq.or (op_eqD hu)
theorem opr_ne {X : Cx} (hu : X.A.units + 64 < cLine) : OpR X (compareOp .NotEq) (rNeP X.K) := op_ne.or (op_neD hu)
theorem eqd_pre {c : FC} {F : Addr → Prop} {ow : Addr → Option Nat} {H : Hp} {σ : L2.St} {δ : Env} {x y : D} {v u : V} {b : Bool} (rx : Rep K F H v x) (ry : Rep K F H u y) (e : gEqB x y = some b) :
    (scal v u = true ∧ decide (v = u) = b) ∨ ∃ p q, Dp K H v p ∧ Dp K H u q ∧ SeqAt.shaped p = true ∧ SeqAt.shaped q = true ∧ PyData.eqv p q = b := by
  unfold gEqB at e
  split at e
  · cases e; cases rx; cases ry; exact .inl ⟨rfl, by simp⟩
  · cases e; cases rx; cases ry; exact .inl ⟨rfl, by simp⟩
  · cases e; cases rx; cases ry; exact .inl ⟨rfl, by simp⟩
  · split at e
    · rename_i p q hp hq
      split at e
      · rename_i hz; cases e; exact .inr ⟨p, q, rx.dp hp, ry.dp hq, hz.1, hz.2, rfl⟩
      · cases e
    · cases e
theorem opd_eq : OpD K (rEqP K) (gEq false) := by
  intro c F ow H σ δ x y v u z Q w rx ry e g
  unfold gEq at e
  cases q : gEqB x y with
  | none => rw [q] at e; cases e
  | some b =>
    rw [q] at e; cases e
    rcases eqd_pre (c := c) (ow := ow) (σ := σ) (δ := δ) rx ry q with ⟨h1, h2⟩ | ⟨p, q', h1, h2, h3, h4, h5⟩
    · exact .inl ⟨h1, by rw [h2]; exact go_val w (.bl _) g⟩
    · exact .inr ⟨p, q', h1, h2, h3, h4, by rw [h5]; exact go_val w (.bl _) g⟩
theorem opd_ne : OpD K (rNeP K) (gEq true) := by
  intro c F ow H σ δ x y v u z Q w rx ry e g
  unfold gEq at e
  cases q : gEqB x y with
  | none => rw [q] at e; cases e
  | some b =>
    rw [q] at e; cases e
    rcases eqd_pre (c := c) (ow := ow) (σ := σ) (δ := δ) rx ry q with ⟨h1, h2⟩ | ⟨p, q', h1, h2, h3, h4, h5⟩
    · exact .inl ⟨h1, by rw [h2]; exact go_val w (.bl _) g⟩
    · exact .inr ⟨p, q', h1, h2, h3, h4, by rw [h5]; exact go_val w (.bl _) g⟩
def D.isNon : D → Bool
  | .non => true
  | _ => false
theorem Rep.isNon {F : Addr → Prop} {H : Hp} {v : V} {d : D} (r : Rep K F H v d) : decide (v = .non) = d.isNon := by
  cases r <;> rfl
/-- is: None on the right, or two bools -/
def gIs (neg : Bool) : D → D → Option D
  | x, .non => some (.bl (if neg then !x.isNon else x.isNon))
  | .bl a, .bl b => some (.bl (if neg then !decide (a = b) else decide (a = b)))
  | _, _ => none
def rIsP : R2 := fun x y H Q => (y = .non ∧ Q (.bl (decide (x = .non))) H) ∨ rIsB x y H Q
def rIsNP : R2 := fun x y H Q => (y = .non ∧ Q (.bl (!decide (x = .non))) H) ∨ rNotB x y H Q
theorem opr_is {X : Cx} : OpR X (compareOp .Is) rIsP := op_isN.or op_isBl
theorem opr_isnot {X : Cx} : OpR X (compareOp .IsNot) rIsNP := op_notN.or op_notBl
theorem opd_is : OpD K rIsP (gIs false) := by
  intro c F ow H σ δ x y v u z Q w rx ry e g
  unfold gIs at e
  split at e
  · cases e; cases ry
    refine .inl ⟨rfl, ?_⟩
    rw [rx.isNon]; exact go_val w (.bl _) g
  · cases e; cases rx; cases ry
    exact .inr ⟨_, _, rfl, rfl, go_val w (.bl _) g⟩
  · cases e
theorem opd_isnot : OpD K rIsNP (gIs true) := by
  intro c F ow H σ δ x y v u z Q w rx ry e g
  unfold gIs at e
  split at e
  · cases e; cases ry
    refine .inl ⟨rfl, ?_⟩
    rw [rx.isNon]; exact go_val w (.bl _) g
  · cases e; cases rx; cases ry
    exact .inr ⟨_, _, rfl, rfl, go_val w (.bl _) g⟩
  · cases e
end
section
variable {X : Cx} {c : FC} {a b e : Expr} {fa fb fc : Env → R D} {pos : Pos}
theorem de_add (ha : DE X c a fa) (hb : DE X c b fb) : DE X c (.BinOp a .Add b pos) (dOp gAdd fa fb) := de_op opr_add opd_add ha hb
theorem de_sub (ha : DE X c a fa) (hb : DE X c b fb) : DE X c (.BinOp a .Sub b pos) (dOp gSub fa fb) := de_op op_sub opd_sub ha hb
theorem de_mul (ha : DE X c a fa) (hb : DE X c b fb) : DE X c (.BinOp a .Mult b pos) (dOp gMul fa fb) := de_op opr_mul opd_mul ha hb
theorem de_div (ha : DE X c a fa) (hb : DE X c b fb) : DE X c (.BinOp a .FloorDiv b pos) (dOp gDiv fa fb) := de_op op_fdivW opd_div ha hb
theorem de_mod (ha : DE X c a fa) (hb : DE X c b fb) : DE X c (.BinOp a .Mod b pos) (dOp gMod fa fb) := de_op op_mod opd_mod ha hb
theorem de_pow (ha : DE X c a fa) (hb : DE X c b fb) : DE X c (.BinOp a .Pow b pos) (dOp gPow fa fb) := de_op op_pow opd_pow ha hb
abbrev gLt := gCmp fun i j => decide (i < j)
abbrev gLe := gCmp fun i j => decide (i ≤ j)
abbrev gGt := gCmp fun i j => decide (j < i)
abbrev gGe := gCmp fun i j => decide (j ≤ i)
/-- a comparison as a value; as a test -/
theorem de_cmp {op : CmpOp} {r : R2} {g : D → D → Option D} (hr : OpR X (compareOp op) r) (ho : OpD X.K r g) (ha : DE X c a fa) (hb : DE X c b fb) (hm : behindInMarks op b = false) : DE X c (.Compare a [op] [b] pos) (dOp g fa fb) :=
  PE.imp (pe_cmpR hr ha hb hm) (op_imp ho)
def dTst (f : Env → R D) (δ : Env) : R Bool := (f δ).bind fun x δ1 => match x with
  | .bl b => .ok b δ1
  | _ => .bad
theorem tst_imp {t : TE} {f : Env → R D} (i : ∀ σ H Q, tD X.K c f σ H Q → t σ H Q) (σ : L2.St) (H : Hp) (Q : Bool → Hp → Prop) (h : tBn X.K c (dTst f) σ H Q) : tTest t σ H Q := by
  obtain ⟨F, ow, δ, w, g1⟩ := h
  refine i σ H _ ⟨F, ow, δ, w, Go.imp (fun v H1 h1 => ?_) (Go.bind (rep := Rep X.K) g1)⟩
  obtain ⟨F1, ow1, d, δ1, e1, w1, r1, _, g2⟩ := h1
  cases d with
  | bl b => cases r1; exact ⟨b, rfl, g2 F1 ow1 H1 b (Ext.refl _ _) w1 rfl⟩
  | _ => exact g2.elim
theorem dt_cmp {op : CmpOp} {r : R2} {g : D → D → Option D} (hr : OpR X (compareOp op) r) (ho : OpD X.K r g) (ha : DE X c a fa) (hb : DE X c b fb) (hm : behindInMarks op b = false) : DT X c (.Compare a [op] [b] pos) (dTst (dOp g fa fb)) :=
  PT.imp (pt_cmpR hr ha hb hm) (tst_imp (op_imp ho))
def dChain (g g' : D → D → Option D) (fa fb fc : Env → R D) (δ : Env) : R D := (fa δ).bind fun x δ1 => (fb δ1).bind fun y δ2 => match g x y with
  | some (.bl true) => (fc δ2).bind fun z δ3 => match g' y z with
    | some d => .ok d δ3
    | none => .bad
  | some (.bl false) => .ok (.bl false) δ2
  | _ => .bad
theorem chain_imp {r r' : R2} {g g' : D → D → Option D} (ho : OpD X.K r g) (ho' : OpD X.K r' g') (σ : L2.St) (H : Hp) (Q : VK) (h : tD X.K c (dChain g g' fa fb fc) σ H Q) : tChain r r' (tD X.K c fa) (tD X.K c fb) (tD X.K c fc) σ H Q := by
  obtain ⟨F, ow, δ, w, g1⟩ := h
  refine ⟨F, ow, δ, w, Go.imp (fun v H1 h1 => ?_) (Go.bind (rep := Rep X.K) g1)⟩
  obtain ⟨F1, ow1, d, δ1, e1, w1, r1, _, g2⟩ := h1
  refine ⟨F1, ow1, δ1, w1, Go.imp (fun u H2 h2 => ?_) (Go.bind (rep := Rep X.K) g2)⟩
  obtain ⟨F2, ow2, d2, δ2, e2, w2, r2, _, g3⟩ := h2
  split at g3
  · rename_i q
    refine ho c F2 ow2 H2 σ δ2 d d2 v u (.bl true) _ w2 (r1.mono e2) r2 q ?_
    intro F3 ow3 H3 x e3 w3 r3
    cases r3
    refine ⟨true, rfl, ?_⟩
    rw [if_pos rfl]
    refine ⟨F3, ow3, δ2, w3, Go.imp (fun u4 H4 h4 => ?_) (Go.bind (rep := Rep X.K) (Go.mono e3 g3))⟩
    obtain ⟨F4, ow4, d4, δ4, e4, w4, r4, _, g4⟩ := h4
    split at g4
    · rename_i d5 q5
      exact ho' c F4 ow4 H4 σ δ4 d2 d4 u u4 d5 Q w4 (r2.mono (e3.trans e4)) r4 q5 g4
    · exact g4.elim
  · rename_i q
    refine ho c F2 ow2 H2 σ δ2 d d2 v u (.bl false) _ w2 (r1.mono e2) r2 q ?_
    intro F3 ow3 H3 x e3 w3 r3
    cases r3
    refine ⟨false, rfl, ?_⟩
    rw [if_neg Bool.false_ne_true]
    exact g3 F3 ow3 H3 _ e3 w3 (.bl false)
  · exact g3.elim
theorem de_chain {op op' : CmpOp} {r r' : R2} {g g' : D → D → Option D} (hr : OpR X (compareOp op) r) (ho : OpD X.K r g) (hr' : OpR X (compareOp op') r') (ho' : OpD X.K r' g') (ha : DE X c a fa) (hb : DE X c b fb) {d : Expr} (hd : DE X c d fc)
    (hm : lastMarks [op, op'] [b, d] = false := by with_unfolding_all rfl) : DE X c (.Compare a [op, op'] [b, d] pos) (dChain g g' fa fb fc) := PE.imp (pe_chain hr hr' ha hb hd hm) (chain_imp ho ho')
theorem dt_chain {op op' : CmpOp} {r r' : R2} {g g' : D → D → Option D} (hr : OpR X (compareOp op) r) (ho : OpD X.K r g) (hr' : OpR X (compareOp op') r') (ho' : OpD X.K r' g') (ha : DE X c a fa) (hb : DE X c b fb) {d : Expr} (hd : DE X c d fc)
    (hm : lastMarks [op, op'] [b, d] = false := by with_unfolding_all rfl) : DT X c (.Compare a [op, op'] [b, d] pos) (dTst (dChain g g' fa fb fc)) := PT.imp (pt_chain hr hr' ha hb hd hm) (tst_imp (chain_imp ho ho'))

/-! ### truth, and, or, not, if .. else -/
def D.tru : D → Option Bool
  | .non => some false
  | .bl b => some b
  | .int i => some (i != 0)
  | .str x => if x.length ≤ 16000000 then some ((x.length : Int) != 0) else none
  | .tup l => some (!l.isEmpty)
  | .lst l => some (!l.isEmpty)
  | .scr l => some (!l.isEmpty)
  | .ref _ => none
  | .obj _ _ _ => none
  | .cls _ => none
  | .dct k _ => some (!k.isEmpty)
theorem Rep.tru {K : PySem.W.Frag} {F : Addr → Prop} {H : Hp} {v : V} {d : D} {k : Bool} (r : Rep K F H v d) (e : d.tru = some k) : TruV K v H k := by
  have em : ∀ {vs : List V} {ds : List D}, Reps K F H vs ds → vs.isEmpty = ds.isEmpty := fun h => by cases h <;> rfl
  cases d with
  | non => cases r; cases e; rfl
  | bl b => cases r; cases e; rfl
  | int i => cases r; cases e; rfl
  | str x =>
    cases r
    have e' : (if x.length ≤ 16000000 then some ((x.length : Int) != 0) else none) = some k := e
    by_cases h : x.length ≤ 16000000
    · rw [if_pos h] at e'; cases e'; exact ⟨Nat.le_trans h line16, rfl⟩
    · rw [if_neg h] at e'; cases e'
  | tup l => obtain ⟨a, vs, rfl, h, q⟩ := r.tup_inv; cases e; exact .inr (.inl ⟨vs, h, by rw [em q]⟩)
  | lst l => obtain ⟨a, vs, rfl, h, _, q⟩ := r.lst_inv; cases e; exact .inl ⟨vs, SqL.of h, by rw [em q]⟩
  | scr l => obtain ⟨a, rfl, h⟩ := r.scr_inv; cases e; exact .inl ⟨_, h, by cases l <;> rfl⟩
  | ref _ => cases e
  | obj _ _ _ => cases e
  | cls _ => cases e
  | dct kd ds =>
    obtain ⟨a, kvs, rfl, _, h, q, _⟩ := r.dct_inv
    cases e
    refine .inr (.inr ⟨kvs, h, ?_⟩)
    rw [← em q]
    cases kvs <;> rfl
def dTru (f : Env → R D) (δ : Env) : R Bool := (f δ).bind fun x δ1 => match x.tru with
  | some b => .ok b δ1
  | none => .bad
theorem dt_tru {f : Env → R D} (h : DE X c e f) (he : ∀ whole, isTrue e X.env whole = (do let v ← whole; standAt e.pos; holding [v] (truthy v)) := by intro _; rfl) : DT X c e (dTru f) :=
  PT.imp (pt_truth h he) fun σ H Q ⟨F, ow, δ, w, g1⟩ => ⟨F, ow, δ, w, Go.imp (fun v H1 h1 => by
    obtain ⟨F1, ow1, d, δ1, e1, w1, r1, _, g2⟩ := h1
    split at g2
    · rename_i b q
      exact ⟨b, r1.tru q, g2 F1 ow1 H1 b (Ext.refl _ _) w1 rfl⟩
    · exact g2.elim) (Go.bind (rep := Rep X.K) g1)⟩
def dAnd (f g : Env → R Bool) (δ : Env) : R Bool := (f δ).bind fun b δ1 => if b = true then g δ1 else .ok false δ1
def dOr (f g : Env → R Bool) (δ : Env) : R Bool := (f δ).bind fun b δ1 => if b = true then .ok true δ1 else g δ1
def dNot (f : Env → R Bool) (δ : Env) : R Bool := (f δ).bind fun b δ1 => .ok (!b) δ1
section
variable {f g : Env → R Bool} {rest : List Expr}
theorem dw_and1 (ha : DT X c a f) : DW X c (.BoolOp .And [a] pos) f := pw_and1 ha
theorem dw_or1 (ha : DT X c a f) : DW X c (.BoolOp .Or [a] pos) f := pw_or1 ha
theorem dw_and (ha : DT X c a f) (hb : DW X c (.BoolOp .And (b :: rest) pos) g) : DW X c (.BoolOp .And (a :: b :: rest) pos) (dAnd f g) :=
  PW.imp (pw_and ha hb) fun σ H Q ⟨F, ow, δ, w, g1⟩ => ⟨F, ow, δ, w, Go.imp (fun v H1 h1 => by
    obtain ⟨F1, ow1, d, δ1, e1, w1, r1, _, g2⟩ := h1
    cases r1
    cases v
    · rw [if_neg Bool.false_ne_true]; rw [if_neg Bool.false_ne_true] at g2; exact g2 F1 ow1 H1 false (Ext.refl _ _) w1 rfl
    · rw [if_pos rfl]; rw [if_pos rfl] at g2; exact ⟨F1, ow1, δ1, w1, g2⟩) (Go.bind (rep := repB) g1)⟩
theorem dw_or (ha : DT X c a f) (hb : DW X c (.BoolOp .Or (b :: rest) pos) g) : DW X c (.BoolOp .Or (a :: b :: rest) pos) (dOr f g) :=
  PW.imp (pw_or ha hb) fun σ H Q ⟨F, ow, δ, w, g1⟩ => ⟨F, ow, δ, w, Go.imp (fun v H1 h1 => by
    obtain ⟨F1, ow1, d, δ1, e1, w1, r1, _, g2⟩ := h1
    cases r1
    cases v
    · rw [if_neg Bool.false_ne_true]; rw [if_neg Bool.false_ne_true] at g2; exact ⟨F1, ow1, δ1, w1, g2⟩
    · rw [if_pos rfl]; rw [if_pos rfl] at g2; exact g2 F1 ow1 H1 true (Ext.refl _ _) w1 rfl) (Go.bind (rep := repB) g1)⟩
theorem dt_bool (h : DW X c e f) : DT X c e f := PW.pt h
theorem dt_not (ha : DT X c a f) : DT X c (.UnaryOp .Not a pos) (dNot f) :=
  PT.imp (pt_not ha) fun σ H Q ⟨F, ow, δ, w, g1⟩ => ⟨F, ow, δ, w, Go.imp (fun v H1 h1 => by
    obtain ⟨F1, ow1, d, δ1, e1, w1, r1, _, g2⟩ := h1
    cases r1
    exact g2 F1 ow1 H1 _ (Ext.refl _ _) w1 rfl) (Go.bind (rep := repB) g1)⟩
end
def dAndV (fa fb : Env → R D) (δ : Env) : R D := (fa δ).bind fun x δ1 => match x with
  | .bl true => fb δ1
  | .bl false => .ok (.bl false) δ1
  | _ => .bad
def dOrV (fa fb : Env → R D) (δ : Env) : R D := (fa δ).bind fun x δ1 => match x with
  | .bl false => fb δ1
  | .bl true => .ok (.bl true) δ1
  | _ => .bad
def dNotV (fa : Env → R D) (δ : Env) : R D := (fa δ).bind fun x δ1 => match x with
  | .bl b => .ok (.bl (!b)) δ1
  | _ => .bad
theorem de_one {op : BoolOp} {f : Env → R D} (h : DE X c a f) : DE X c (.BoolOp op [a] pos) f := pe_one h
theorem de_and {rest : List Expr} (ha : DE X c a fa) (hb : DE X c (.BoolOp .And (b :: rest) pos) fb) : DE X c (.BoolOp .And (a :: b :: rest) pos) (dAndV fa fb) :=
  PE.imp (pe_and ha hb) fun σ H Q ⟨F, ow, δ, w, g1⟩ => ⟨F, ow, δ, w, Go.imp (fun v H1 h1 => by
    obtain ⟨F1, ow1, d, δ1, e1, w1, r1, _, g2⟩ := h1
    split at g2
    · cases r1; refine ⟨true, rfl, ?_⟩; rw [if_pos rfl]; exact ⟨F1, ow1, δ1, w1, g2⟩
    · cases r1; refine ⟨false, rfl, ?_⟩; rw [if_neg Bool.false_ne_true]; exact g2 F1 ow1 H1 _ (Ext.refl _ _) w1 (.bl false)
    · exact g2.elim) (Go.bind (rep := Rep X.K) g1)⟩
theorem de_or {rest : List Expr} (ha : DE X c a fa) (hb : DE X c (.BoolOp .Or (b :: rest) pos) fb) : DE X c (.BoolOp .Or (a :: b :: rest) pos) (dOrV fa fb) :=
  PE.imp (pe_or ha hb) fun σ H Q ⟨F, ow, δ, w, g1⟩ => ⟨F, ow, δ, w, Go.imp (fun v H1 h1 => by
    obtain ⟨F1, ow1, d, δ1, e1, w1, r1, _, g2⟩ := h1
    split at g2
    · cases r1; refine ⟨false, rfl, ?_⟩; rw [if_neg Bool.false_ne_true]; exact ⟨F1, ow1, δ1, w1, g2⟩
    · cases r1; refine ⟨true, rfl, ?_⟩; rw [if_pos rfl]; exact g2 F1 ow1 H1 _ (Ext.refl _ _) w1 (.bl true)
    · exact g2.elim) (Go.bind (rep := Rep X.K) g1)⟩
theorem de_not (ha : DE X c a fa) : DE X c (.UnaryOp .Not a pos) (dNotV fa) :=
  PE.imp (pe_not ha) fun σ H Q ⟨F, ow, δ, w, g1⟩ => ⟨F, ow, δ, w, Go.imp (fun v H1 h1 => by
    obtain ⟨F1, ow1, d, δ1, e1, w1, r1, _, g2⟩ := h1
    split at g2
    · cases r1; exact ⟨_, rfl, g2 F1 ow1 H1 _ (Ext.refl _ _) w1 (.bl _)⟩
    · exact g2.elim) (Go.bind (rep := Rep X.K) g1)⟩
def dIf (t : Env → R Bool) (fa fb : Env → R D) (δ : Env) : R D := (t δ).bind fun b δ1 => if b = true then fa δ1 else fb δ1
theorem de_if {t : Env → R Bool} (ht : DT X c e t) (ha : DE X c a fa) (hb : DE X c b fb) : DE X c (.IfExp e a b pos) (dIf t fa fb) :=
  PE.imp (pe_ifExp ht ha hb) fun σ H Q ⟨F, ow, δ, w, g1⟩ => ⟨F, ow, δ, w, Go.imp (fun v H1 h1 => by
    obtain ⟨F1, ow1, d, δ1, e1, w1, r1, _, g2⟩ := h1
    cases r1
    cases v
    · rw [if_neg Bool.false_ne_true]; rw [if_neg Bool.false_ne_true] at g2; exact ⟨F1, ow1, δ1, w1, g2⟩
    · rw [if_pos rfl]; rw [if_pos rfl] at g2; exact ⟨F1, ow1, δ1, w1, g2⟩) (Go.bind (rep := repB) g1)⟩
def dUn (g : D → Option D) (fa : Env → R D) (δ : Env) : R D := (fa δ).bind fun x δ1 => match g x with
  | some z => .ok z δ1
  | none => .bad
def gNeg : D → Option D
  | .int i => some (.int (-i))
  | _ => none
theorem de_neg (ha : DE X c a fa) : DE X c (.UnaryOp .USub a pos) (dUn gNeg fa) :=
  PE.imp (pe_un un_neg ha) fun σ H Q ⟨F, ow, δ, w, g1⟩ => ⟨F, ow, δ, w, Go.imp (fun v H1 h1 => by
    obtain ⟨F1, ow1, d, δ1, e1, w1, r1, _, g2⟩ := h1
    cases d with
    | int i => cases r1; exact ⟨i, rfl, g2 F1 ow1 H1 _ (Ext.refl _ _) w1 (.int _)⟩
    | _ => exact g2.elim) (Go.bind (rep := Rep X.K) g1)⟩

/-! ### argument lists, displays -/
def dNil (δ : Env) : R (List D) := .ok [] δ
def dCons (f : Env → R D) (g : Env → R (List D)) (δ : Env) : R (List D) := (f δ).bind fun x δ1 => (g δ1).bind fun xs δ2 => .ok (x :: xs) δ2
theorem da_nil : DA X c [] dNil := PA.imp pa_nil fun σ H Q ⟨F, ow, δ, w, g1⟩ => g1 F ow H [] (Ext.refl _ _) w .nil
theorem da_cons {es : List Expr} {g : Env → R (List D)} (ha : DE X c e fa) (hr : DA X c es g) (hs : starEach (e :: es) X.env = (false, eval e X.env) :: starEach es X.env := by rfl) : DA X c (e :: es) (dCons fa g) :=
  PA.imp (pa_cons ha hr hs) fun σ H Q ⟨F, ow, δ, w, g1⟩ => ⟨F, ow, δ, w, Go.imp (fun v H1 h1 => by
    obtain ⟨F1, ow1, d, δ1, e1, w1, r1, _, g2⟩ := h1
    refine ⟨F1, ow1, δ1, w1, Go.imp (fun vs H2 h2 => ?_) (Go.bind (rep := Reps X.K) g2)⟩
    obtain ⟨F2, ow2, ds, δ2, e2, w2, r2, _, g3⟩ := h2
    exact g3 F2 ow2 H2 (v :: vs) (Ext.refl _ _) w2 (.cons (r1.mono e2) r2)) (Go.bind (rep := Rep X.K) g1)⟩
def dSeq (k : List D → D) (g : Env → R (List D)) (δ : Env) : R D := (g δ).bind fun xs δ1 => if xs.length ≤ 16000000 then .ok (k xs) δ1 else .bad
theorem de_tup {es : List Expr} {g : Env → R (List D)} {x1 : Nat} (h : DA X c es g) : DE X c (.Tuple es x1 pos) (dSeq .tup g) :=
  PE.imp (pe_tup h) fun σ H Q ⟨F, ow, δ, w, g1⟩ => ⟨F, ow, δ, w, Go.imp (fun v H1 h1 => by
    obtain ⟨F1, ow1, d, δ1, e1, w1, r1, _, g2⟩ := h1
    split at g2
    · rename_i hz
      exact ⟨by rw [r1.length]; exact Nat.le_trans hz line16, new_tup w1 r1 g2⟩
    · exact g2.elim) (Go.bind (rep := Reps X.K) g1)⟩
theorem de_lst {es : List Expr} {g : Env → R (List D)} (h : DA X c es g) : DE X c (.List es pos) (dSeq .lst g) :=
  PE.imp (pe_lst h) fun σ H Q ⟨F, ow, δ, w, g1⟩ => ⟨F, ow, δ, w, Go.imp (fun v H1 h1 => by
    obtain ⟨F1, ow1, d, δ1, e1, w1, r1, _, g2⟩ := h1
    split at g2
    · rename_i hz
      exact ⟨by rw [r1.length]; exact Nat.le_trans hz line16, new_lst w1 r1 g2⟩
    · exact g2.elim) (Go.bind (rep := Reps X.K) g1)⟩

/-! ### subscripts, slices -/
def gIx : D → D → Option D
  | .lst l, .int i => atI l i
  | .tup l, .int i => atI l i
  | _, _ => none
theorem Reps.at {K : PySem.W.Frag} {F : Addr → Prop} {H : Hp} {vs : List V} {ds : List D} {i : Int} {z : D} (r : Reps K F H vs ds) (e : atI ds i = some z) : ∃ v, atI vs i = some v ∧ Rep K F H v z := by
  unfold atI at e ⊢
  rw [← r.length] at e
  cases q : ixN vs.length i with
  | none => rw [q] at e; cases e
  | some j =>
    rw [q] at e
    obtain ⟨v, h1, h2⟩ := Reps.get r (show ds[j]? = some z from e)
    exact ⟨v, h1, h2⟩
theorem opd_ix {K : PySem.W.Frag} : OpD K (rIx K) gIx := by
  intro c F ow H σ δ x y v u z Q w rx ry e g
  unfold gIx at e
  split at e
  · cases ry
    obtain ⟨p, vs, rfl, hp, _, r1⟩ := rx.lst_inv
    obtain ⟨v, h1, h2⟩ := r1.at e
    exact .inl ⟨p, vs, _, v, rfl, rfl, SqL.of hp, h1, go_val w h2 g⟩
  · cases ry
    obtain ⟨p, vs, rfl, hp, r1⟩ := rx.tup_inv
    obtain ⟨v, h1, h2⟩ := r1.at e
    exact .inr (.inl ⟨p, vs, _, v, rfl, rfl, hp, h1, go_val w h2 g⟩)
  · cases e
theorem de_ix (ha : DE X c a fa) (hb : DE X c b fb) (hs : PlainIx b) : DE X c (.Subscript a b pos) (dOp gIx fa fb) := PE.imp (pe_ix ix_seq ha hb hs) (op_imp opd_ix)
/-- a part of a slice -/
abbrev repO : RepF (Option Int) (Option Int) := fun _ _ a b => a = b
abbrev DO (X : Cx) (c : FC) (e : Option Expr) (f : Env → R (Option Int)) : Prop := PO X e (tG X.K c repO f)
def dNo (δ : Env) : R (Option Int) := .ok none δ
def dPart (f : Env → R D) (δ : Env) : R (Option Int) := (f δ).bind fun x δ1 => match x with
  | .int i => .ok (some i) δ1
  | _ => .bad
theorem PO.imp {e : Option Expr} {t t' : TO} (h : PO X e t) (i : ∀ σ H Q, t' σ H Q → t σ H Q) : PO X e t' := ⟨fun pins s σ H Q I q => h.run pins s σ H Q I (i σ H Q q)⟩
theorem do_none : DO X c none dNo := PO.imp po_none fun σ H Q ⟨F, ow, δ, w, g1⟩ => g1 F ow H none (Ext.refl _ _) w rfl
theorem do_some (h : DE X c e fa) : DO X c (some e) (dPart fa) :=
  PO.imp (po_some h) fun σ H Q ⟨F, ow, δ, w, g1⟩ => ⟨F, ow, δ, w, Go.imp (fun v H1 h1 => by
    obtain ⟨F1, ow1, d, δ1, e1, w1, r1, _, g2⟩ := h1
    cases d with
    | int i => cases r1; exact ⟨i, rfl, g2 F1 ow1 H1 _ (Ext.refl _ _) w1 rfl⟩
    | _ => exact g2.elim) (Go.bind (rep := Rep X.K) g1)⟩
def cutD (xs : List D) (lo hi : Option Int) : List D := (xs.drop (HT.sIx xs.length 0 lo)).take (HT.sIx xs.length xs.length hi - HT.sIx xs.length 0 lo)
theorem Reps.cut {K : PySem.W.Frag} {F : Addr → Prop} {H : Hp} {vs : List V} {ds : List D} (lo hi : Option Int) (r : Reps K F H vs ds) : Reps K F H (cutV vs lo hi) (cutD ds lo hi) := by
  unfold cutV cutD
  rw [r.length]
  exact (r.drop _).take _
def gSl : D → Option Int → Option Int → Option D
  | .lst l, lo, hi => some (.lst (cutD l lo hi))
  | .tup l, lo, hi => if HT.sIx l.length 0 lo = 0 ∧ HT.sIx l.length l.length hi = l.length then none else some (.tup (cutD l lo hi))
  | _, _, _ => none
def dSl (f : Env → R D) (lo hi : Env → R (Option Int)) (δ : Env) : R D := (f δ).bind fun x δ1 => (lo δ1).bind fun l δ2 => (hi δ2).bind fun h δ3 => match gSl x l h with
  | some z => .ok z δ3
  | none => .bad
theorem de_sl {lo hi : Option Expr} {fl fh : Env → R (Option Int)} {p2 : Pos} (he : DE X c e fa) (hl : DO X c lo fl) (hh : DO X c hi fh) : DE X c (.Subscript e (.Slice lo hi none p2) pos) (dSl fa fl fh) :=
  PE.imp (pe_slice (SlR.or sl_list sl_tup) he hl hh) fun σ H Q ⟨F, ow, δ, w, g1⟩ => ⟨F, ow, δ, w, Go.imp (fun v H1 h1 => by
    obtain ⟨F1, ow1, d, δ1, e1, w1, r1, _, g2⟩ := h1
    refine ⟨F1, ow1, δ1, w1, Go.imp (fun l H2 h2 => ?_) (Go.bind (rep := repO) g2)⟩
    obtain ⟨F2, ow2, l', δ2, e2, w2, r2, _, g3⟩ := h2
    cases r2
    refine ⟨F2, ow2, δ2, w2, Go.imp (fun u H3 h3 => ?_) (Go.bind (rep := repO) g3)⟩
    obtain ⟨F3, ow3, u', δ3, e3, w3, r3, _, g4⟩ := h3
    cases r3
    have r := r1.mono (e2.trans e3)
    split at g4
    · rename_i z q
      unfold gSl at q
      split at q
      · cases q
        obtain ⟨p, vs, rfl, hp, _, r4⟩ := r.lst_inv
        exact .inl ⟨p, vs, rfl, SqL.of hp, new_lst w3 (r4.cut _ _) g4⟩
      · split at q
        · cases q
        · rename_i hn
          cases q
          obtain ⟨p, vs, rfl, hp, r4⟩ := r.tup_inv
          exact .inr ⟨p, vs, rfl, hp, by rw [r4.length]; exact hn, new_tup w3 (r4.cut _ _) g4⟩
      · cases q
    · exact g4.elim) (Go.bind (rep := Rep X.K) g1)⟩

/-! ### built-ins by values -/
def dCall (g : List D → Option D) (f : Env → R (List D)) (δ : Env) : R D := (f δ).bind fun xs δ1 => match g xs with
  | some z => .ok z δ1
  | none => .bad
def CallD (K : PySem.W.Frag) (r : List V → Hp → VK → Prop) (g : List D → Option D) : Prop := ∀ (c : FC) (F : Addr → Prop) (ow : Addr → Option Nat) (H : Hp) (σ : L2.St) (δ : Env) (xs : List D) (vs : List V) (z : D) (Q : VK), W K c F ow H σ δ → Reps K F H vs xs → g xs = some z →
  Go K c (Rep K) F H σ (.ok z δ) Q → r vs H Q
theorem call_imp {r : List V → Hp → VK → Prop} {g : List D → Option D} {f : Env → R (List D)} (ho : CallD X.K r g) (σ : L2.St) (H : Hp) (Q : VK) (h : tD X.K c (dCall g f) σ H Q) : tCB r (tAr X.K c f) σ H Q := by
  obtain ⟨F, ow, δ, w, g1⟩ := h
  refine ⟨F, ow, δ, w, Go.imp (fun v H1 h1 => ?_) (Go.bind (rep := Reps X.K) g1)⟩
  obtain ⟨F1, ow1, d, δ1, e1, w1, r1, _, g2⟩ := h1
  cases q : g d with
  | none => rw [q] at g2; exact g2.elim
  | some z => rw [q] at g2; exact ho c F1 ow1 H1 σ δ1 d v z Q w1 r1 q g2
theorem de_callB {x : Str} {id : String} {r : List V → Hp → VK → Prop} {g : List D → Option D} {p : Pos} {es : List Expr} {f : Env → R (List D)} (hr : CallR X (.builtin id) r) (ho : CallD X.K r g) (hg : Gl X x) (hm : X.mg x = none) (hv : bootBuiltins x = some (.builtin id)) (ha : DA X c (e :: es) f)
    (hn : x ≠ "__name__" := by decide) (hdb : (x == ("__debug__" : Str)) = false := by decide) (he : starEach (e :: es) X.env = (false, eval e X.env) :: starEach es X.env := by rfl) (hpl : (backTo pos (starEach es X.env)).any (·.1) = false := by rfl) :
    DE X c (.Call (.Name x p) (e :: es) [] pos) (dCall g f) := PE.imp (pe_callB hr hg hm hv ha hn hdb he hpl) (call_imp ho)
theorem de_callT {x : Str} {id : String} {r : List V → Hp → VK → Prop} {g : List D → Option D} {p : Pos} {es : List Expr} {f : Env → R (List D)} (hr : CallR X (.type id) r) (ho : CallD X.K r g) (hg : Gl X x) (hm : X.mg x = none) (hv : bootBuiltins x = some (.type id)) (ha : DA X c (e :: es) f)
    (hn : x ≠ "__name__" := by decide) (hdb : (x == ("__debug__" : Str)) = false := by decide) (he : starEach (e :: es) X.env = (false, eval e X.env) :: starEach es X.env := by rfl) (hpl : (backTo pos (starEach es X.env)).any (·.1) = false := by rfl) :
    DE X c (.Call (.Name x p) (e :: es) [] pos) (dCall g f) := PE.imp (pe_callTy hr hg hm hv ha hn hdb he hpl) (call_imp ho)
def gInt : List D → Option D
  | [.int i] => some (.int i)
  | [.bl b] => some (.int (if b then 1 else 0))
  | _ => none
def gAbs : List D → Option D
  | [.int i] => some (.int (if i < 0 then -i else i))
  | _ => none
def gMin : List D → Option D
  | [.int i, .int j] => some (.int (if j < i then j else i))
  | _ => none
def gMax : List D → Option D
  | [.int i, .int j] => some (.int (if j > i then j else i))
  | _ => none
def gLen : List D → Option D
  | [.lst l] => some (.int l.length)
  | [.tup l] => some (.int l.length)
  | [.scr l] => some (.int l.length)
  | [.str x] => if x.length ≤ 16000000 then some (.int x.length) else none
  | _ => none
def D.ints : List D → Option (List Int)
  | [] => some []
  | .int i :: r => (D.ints r).map (i :: ·)
  | _ => none
def gSum : List D → Option D
  | [.lst l] => (D.ints l).map fun ns => .int ns.sum
  | _ => none
section
variable {K : PySem.W.Frag}
theorem cd_int : CallD K (fun xs H Q => (∃ i, xs = [.int i] ∧ Q (.int i) H) ∨ ∃ k, xs = [.bl k] ∧ Q (.int (if k then 1 else 0)) H) gInt := by
  intro c F ow H σ δ xs vs z Q w r e g
  unfold gInt at e
  split at e
  · cases e; cases r with | cons a b => cases a; cases b; exact .inl ⟨_, rfl, go_val w (.int _) g⟩
  · cases e; cases r with | cons a b => cases a; cases b; exact .inr ⟨_, rfl, go_val w (.int _) g⟩
  · cases e
theorem cd_abs : CallD K (fun xs H Q => ∃ i, xs = [.int i] ∧ Q (.int (if i < 0 then -i else i)) H) gAbs := by
  intro c F ow H σ δ xs vs z Q w r e g
  unfold gAbs at e
  split at e
  · cases e; cases r with | cons a b => cases a; cases b; exact ⟨_, rfl, go_val w (.int _) g⟩
  · cases e
theorem cd_min : CallD K (fun xs H Q => ∃ i j, xs = [.int i, .int j] ∧ Q (.int (if j < i then j else i)) H) gMin := by
  intro c F ow H σ δ xs vs z Q w r e g
  unfold gMin at e
  split at e
  · cases e; cases r with | cons a b => cases a; cases b with | cons a b => cases a; cases b; exact ⟨_, _, rfl, go_val w (.int _) g⟩
  · cases e
theorem cd_max : CallD K (fun xs H Q => ∃ i j, xs = [.int i, .int j] ∧ Q (.int (if j > i then j else i)) H) gMax := by
  intro c F ow H σ δ xs vs z Q w r e g
  unfold gMax at e
  split at e
  · cases e; cases r with | cons a b => cases a; cases b with | cons a b => cases a; cases b; exact ⟨_, _, rfl, go_val w (.int _) g⟩
  · cases e
theorem cd_len : CallD K (fun xs H Q => ∃ x n, xs = [x] ∧ LenV K x H n ∧ Q (.int n) H) gLen := by
  intro c F ow H σ δ xs vs z Q w r e g
  unfold gLen at e
  split at e
  · cases e; cases r with | cons a b => cases b; obtain ⟨p, us, rfl, hp, _, r1⟩ := a.lst_inv; exact ⟨_, _, rfl, .inl ⟨us, SqL.of hp, r1.length.symm⟩, go_val w (.int _) g⟩
  · cases e; cases r with | cons a b => cases b; obtain ⟨p, us, rfl, hp, r1⟩ := a.tup_inv; exact ⟨_, _, rfl, .inr ⟨us, hp, r1.length.symm⟩, go_val w (.int _) g⟩
  · cases e; cases r with | cons a b => cases b; obtain ⟨p, rfl, hp⟩ := a.scr_inv; exact ⟨_, _, rfl, .inl ⟨_, hp, by rw [List.length_map]⟩, go_val w (.int _) g⟩
  · split at e
    · rename_i hz; cases e; cases r with | cons a b => cases a; cases b; exact ⟨_, _, rfl, ⟨Nat.le_trans hz line16, rfl⟩, go_val w (.int _) g⟩
    · cases e
  · cases e
theorem D.ints_eq : ∀ {l : List D} {ns : List Int}, D.ints l = some ns → l = ns.map D.int
  | [], ns, e => by unfold D.ints at e; cases e; rfl
  | .int i :: r, ns, e => by
    unfold D.ints at e
    cases q : D.ints r with
    | none => rw [q] at e; cases e
    | some m => rw [q] at e; cases e; rw [D.ints_eq q]; rfl
  | .non :: _, _, e | .bl _ :: _, _, e | .str _ :: _, _, e | .tup _ :: _, _, e | .lst _ :: _, _, e | .ref _ :: _, _, e | .scr _ :: _, _, e => by unfold D.ints at e; cases e
theorem D.ints_map (ns : List Int) : D.ints (ns.map D.int) = some ns := by
  induction ns with
  | nil => rfl
  | cons x r ih => rw [List.map_cons, D.ints, ih]; rfl
theorem cd_sum : CallD K (rSum K) gSum := by
  intro c F ow H σ δ xs vs z Q w r e g
  unfold gSum at e
  split at e
  · rename_i l
    cases q : D.ints l with
    | none => rw [q] at e; cases e
    | some ns =>
      rw [q] at e; cases e
      rw [D.ints_eq q] at r
      cases r with | cons a b => cases b; obtain ⟨p, us, rfl, hp, _, r1⟩ := a.lst_inv; rw [r1.of_ints] at hp; exact ⟨p, ns, rfl, SqL.of hp, go_val w (.int _) g⟩
  · cases e
end
end
end PV

namespace PV
open PySem PySem.Spec PyProof.Rows L2

/-! ## functions -/
structure FnA (P : Program) (w : World) (K : PySem.W.Frag) (mg : Str → Option Value) (base : Heap) (CX : CXT) (k : Nat) (f : Addr) (fd : FuncData) (ps : List Str) (sp : Sp) : Prop where
  len : ∀ vs H Q E, sp vs H Q E → vs.length = ps.length
  run : ∀ (A : Around) (outer : List PySem.Env) (s : Shared) (H : Hp) (args : Args) (us : List Value) (vs : List V) (Q : VK) (E : XK), A.guards = some [] → Room k A → Env0 P w K mg base A outer s H → BindsTo s fd args (ps.zip us) → Vals vs us → sp vs H Q E →
    codeAny (model P w) A (.call (.ref f) args) (CR CX outer P w H s Q E) s
theorem FnA.up {P : Program} {w : World} {K : PySem.W.Frag} {mg : Str → Option Value} {base : Heap} {CX : CXT} {j k : Nat} {f : Addr} {fd : FuncData} {ps : List Str} {sp : Sp} (h : FnA P w K mg base CX j f fd ps sp) (hjk : j ≤ k) : FnA P w K mg base CX k f fd ps sp :=
  ⟨h.len, fun A outer s H args us vs Q E hg hr => h.run A outer s H args us vs Q E hg (hr.mono hjk)⟩
theorem guards_deeper {A : Around} {env : PySem.Env} (h : A.guards = some []) : (A.deeper env).guards = some [] := h

/-- a def of the text by its body -/
theorem fnA_body {P : Program} {w : World} {K : PySem.W.Frag} {mg : Str → Option Value} {base : Heap} {CX : CXT} {x qual : Str} {params : Arguments} {body : List Stmt} {scope : Scope} {dvs : List V} {kws : List (Str × V)} {f : Addr} {fd : FuncData} {N ps : List Str} {k : Nat} {sp : Sp}
    (Fd : FunD K x qual params body scope dvs kws f fd) (S : FnScope N ps scope) (len : ∀ vs H Q E, sp vs H Q E → vs.length = ps.length)
    (hbody : ∀ (cdv : Value) (A : Around) (outer : List PySem.Env) (s : Shared) (H : Hp) (vs : List V) (Q : VK) (E : XK), (A.deeper (envOfC qual scope s.heap.objs.size f cdv)).guards = some [] → Room k (A.deeper (envOfC qual scope s.heap.objs.size f cdv)) → sp vs H Q E →
      ∃ t, PSs (cxOf CX P w K mg base N qual scope f cdv A outer s H E) body t ∧ t { nx := fun _ H' => Q .non H', rt := Q } (L2.start N vs) H) : FnA P w K mg base CX (k + 1) f fd ps sp := by
  obtain ⟨oc, od, dV, kV, doc, pm, an, cdv, ct, osl, hfd, lk, hcd, _, _⟩ := Fd.ex
  subst hfd
  refine ⟨len, fun A outer s H args us vs Q E hg hr en hb rv hs => ?_⟩
  have hlen := len _ _ _ _ hs
  have kin : K.In s.heap := en.mod.kin.keeps fun b o q => (en.bs b o q).1
  have nolim : s.heap.NoLimit := en.mod.nolimit.keeps fun b o q => (en.bs b o q).1
  have kinds : ∀ y ∈ ps.zip us, scope.names.lookup y.1 = some .local ∨ (scope.names.lookup y.1 = some .cell ∧ ((cellsFrom (s.heap.objs.size + 1) scope.names []).lookup y.1).isSome = true) := by
    rintro ⟨n, v⟩ hy
    exact (S.par n (List.of_mem_zip hy).1).imp id fun q => ⟨q, PySem.W.cellsFrom_some _ _ _ (.inl q)⟩
  refine codeAny_call_function hr.depth (kin _ _ lk) rfl S.co S.gen rfl (PySem.W.codeRec_of kin hcd) (hb _ _ _ _ ?_)
  refine wpAny_newFunctionEnv_cells S.kind kinds fun env heq s1 inc => ?_
  subst heq
  refine ⟨nolim.keeps inc.toInCall.keep, codeAny_func ?_⟩
  obtain ⟨t, ht, hq⟩ := hbody cdv A outer s H vs Q E (guards_deeper hg) (hr.deeper _) hs
  have I0 := inv_start (CX := CX) (P := P) (w := w) (mg := mg) (base := base) (N := N) (E := E) S hr.hd en hlen rv inc
  refine wpAny_mono (ht.run [] s1 (L2.start N vs) H _ I0 hq) (fun fl s' r => ?_) fun _ _ z => z
  have done : ∀ {τ : L2.St} {H' : Hp} {v : V} {u : Value}, Inv (cxOf CX P w K mg base N qual scope f cdv A outer s H E) [] τ H' s' → RelV v u → Q v H' → CE outer P w H s Q u s' :=
    fun J ru q => ⟨_, _, J.os, J.bare, J.base, J.hok, ru, q⟩
  cases fl with
  | next => obtain ⟨τ, H', J, q⟩ := r; exact done (v := V.non) (u := Value.none) J rfl q
  | ret u => obtain ⟨v, τ, H', J, ru, q⟩ := r; exact done J ru q
  | brk => obtain ⟨_, _, _, q⟩ := r; exact q.elim
  | cont => obtain ⟨_, _, _, q⟩ := r; exact q.elim

section
variable {X : Cx} {CX : CXT} {k : Nat} {f : Addr} {fd : FuncData} {ps : List Str} {sp : Sp} {dvs : List V} {ds : List Value} {E : XK} {x : Str} {p pos : Pos} {e : Expr} {es : List Expr} {t : TA}
theorem runA {pins : List (Addr × Obj)} {σ : L2.St} {H : Hp} {s : Shared} {Q : VK} {us : List Value} {vs : List V} (Fn : FnA X.prog X.w X.K X.mg X.base CX k f fd ps sp) (hg : X.A.guards = some []) (hr : Room k X.A) (hb : Binds X.K fd ps ds) (hd : Vals dvs ds) (hx : Passes CX X E)
    (I : Inv X pins σ H s) (rv : Vals vs us) (h : sp (vs ++ dvs) H Q E) : wpAny (model X.prog X.w) X.A (call (.ref f) us) (EP X pins σ Q) X.xe s := by
  have rr := rv.append hd
  have hl : (us ++ ds).length = ps.length := rr.length.symm.trans (Fn.len _ _ _ _ h)
  refine wpAny_call (codeAny_mono (Fn.run X.A X.stack s H ⟨us, []⟩ (us ++ ds) (vs ++ dvs) Q E hg hr I.env0 (hb s us I.kIn hl) rr h) ?_)
  intro out s' hq
  match out, hq with
  | .error e, hq => exact hx pins σ H s e s' I hq
  | .ok (.ret u), hq => exact I.after hq
theorem callA (Fn : FnA X.prog X.w X.K X.mg X.base CX k f fd ps sp) (hgu : X.A.guards = some []) (hr : Room k X.A) (hg : Gl X x) (hm : X.mg x = some (.ref f)) (hk : PySem.W.keepIn X.K (.ref f) = true) (hb : Binds X.K fd ps ds) (hd : Vals dvs ds) (hx : Passes CX X E)
    (ha : PA X (e :: es) t) (hdb : (x == ("__debug__" : Str)) = false := by decide) (he : starEach (e :: es) X.env = (false, eval e X.env) :: starEach es X.env := by rfl) (hpl : (backTo pos (starEach es X.env)).any (·.1) = false := by rfl) :
    PE X (.Call (.Name x p) (e :: es) [] pos) (tCall sp dvs E t) := by
  constructor
  intro pins s σ H Q I h
  refine wpAny_Call_Name_kw (ld_glob I hg hm ?_ hdb)
  refine PySem.W.callWith_K (h₀ := X.base) I.ok.mod.kin hk (thn (ha.run pos pins s σ H _ I h) ?_) he hpl
  rintro us s1 ⟨vs, H1, I1, rv, q⟩
  exact ⟨I1.kIn, runA Fn hgu hr hb hd hx I1 rv q⟩
theorem callA0 (Fn : FnA X.prog X.w X.K X.mg X.base CX k f fd ps sp) (hgu : X.A.guards = some []) (hr : Room k X.A) (hg : Gl X x) (hm : X.mg x = some (.ref f)) (hk : PySem.W.keepIn X.K (.ref f) = true) (hb : Binds X.K fd ps ds) (hd : Vals dvs ds) (hx : Passes CX X E)
    (hdb : (x == ("__debug__" : Str)) = false := by decide) : PE X (.Call (.Name x p) [] [] pos) (tCall sp dvs E tNil) := by
  constructor
  intro pins s σ H Q I h
  exact wpAny_Call_Name_kw (ld_glob I hg hm (PySem.W.callWith_K0 I.kIn hk (runA (us := []) Fn hgu hr hb hd hx I .nil h)) hdb)
end

/-! ### keywords -/
/-- the places of the parameters in positional values followed by keyword values -/
def pick {α : Type} (ix : List Nat) (l : List α) : List α := ix.filterMap (l[·]?)
structure KwB (K : PySem.W.Frag) (fd : FuncData) (ps : List Str) (n : Nat) (ks : List Str) (ix : List Nat) : Prop where
  len : ix.length = ps.length
  bnd : ∀ i ∈ ix, i < n + ks.length
  to : ∀ (s : Shared) (us ws : List Value), K.In s.heap → us.length = n → ws.length = ks.length → BindsTo s fd ⟨us, ks.zip ws⟩ (ps.zip (pick ix (us ++ ws)))
theorem pick_length {α : Type} {ix : List Nat} {l : List α} (h : ∀ i ∈ ix, i < l.length) : (pick ix l).length = ix.length := by
  induction ix with
  | nil => rfl
  | cons i r ih =>
    have hi := h i (List.mem_cons_self)
    unfold pick
    rw [List.filterMap_cons, List.getElem?_eq_getElem hi]
    show (pick r l).length + 1 = r.length + 1
    rw [ih fun j hj => h j (List.mem_cons_of_mem _ hj)]
theorem pick_vals {ix : List Nat} {vs : List V} {us : List Value} (r : Vals vs us) : Vals (pick ix vs) (pick ix us) := by
  induction ix with
  | nil => exact .nil
  | cons i t ih =>
    unfold pick
    rw [List.filterMap_cons, List.filterMap_cons]
    cases q : vs[i]? with
    | none => rw [r.none_of q]; exact ih
    | some v => obtain ⟨u, hu, ru⟩ := r.get q; rw [hu]; exact .cons ru ih
theorem pick_reps {K : PySem.W.Frag} {F : Addr → Prop} {H : Hp} {ix : List Nat} {vs : List V} {ds : List D} (r : Reps K F H vs ds) : Reps K F H (pick ix vs) (pick ix ds) := by
  induction ix with
  | nil => exact .nil
  | cons i t ih =>
    unfold pick
    rw [List.filterMap_cons, List.filterMap_cons]
    cases q : ds[i]? with
    | none =>
      have : vs[i]? = none := by rw [List.getElem?_eq_none_iff] at q ⊢; rw [r.length]; exact q
      rw [this]; exact ih
    | some d => obtain ⟨v, hv, rv⟩ := r.get q; rw [hv]; exact .cons rv ih
def tCallP (n m : Nat) (ix : List Nat) (sp : Sp) (E : XK) (t tk : TA) : TE := fun σ H Q => t σ H fun vs H1 => tk σ H1 fun zs H2 => vs.length = n ∧ zs.length = m ∧ sp (pick ix (vs ++ zs)) H2 Q E
section
variable {X : Cx} {CX : CXT} {k n : Nat} {f : Addr} {fd : FuncData} {ps ks : List Str} {ix : List Nat} {sp : Sp} {E : XK} {x : Str} {p pos : Pos} {e : Expr} {es : List Expr} {kws : List Keyword} {t tk : TA}
theorem runAK {pins : List (Addr × Obj)} {σ : L2.St} {H : Hp} {s : Shared} {Q : VK} {us ws : List Value} {vs zs : List V} (Fn : FnA X.prog X.w X.K X.mg X.base CX k f fd ps sp) (hg : X.A.guards = some []) (hr : Room k X.A) (hb : KwB X.K fd ps n ks ix) (hx : Passes CX X E)
    (I : Inv X pins σ H s) (rv : Vals vs us) (rz : Vals zs ws) (l1 : vs.length = n) (l2 : zs.length = ks.length) (h : sp (pick ix (vs ++ zs)) H Q E) : wpAny (model X.prog X.w) X.A (call (.ref f) us (ks.zip ws)) (EP X pins σ Q) X.xe s := by
  have e1 : us.length = n := rv.length.symm.trans l1
  have e2 : ws.length = ks.length := rz.length.symm.trans l2
  refine wpAny_call (codeAny_mono (Fn.run X.A X.stack s H ⟨us, ks.zip ws⟩ (pick ix (us ++ ws)) (pick ix (vs ++ zs)) Q E hg hr I.env0 (hb.to s us ws I.kIn e1 e2) (pick_vals (rv.append rz)) h) ?_)
  intro out s' hq
  match out, hq with
  | .error e, hq => exact hx pins σ H s e s' I hq
  | .ok (.ret u), hq => exact I.after hq
theorem callAK (Fn : FnA X.prog X.w X.K X.mg X.base CX k f fd ps sp) (hgu : X.A.guards = some []) (hr : Room k X.A) (hg : Gl X x) (hm : X.mg x = some (.ref f)) (hk : PySem.W.keepIn X.K (.ref f) = true) (hb : KwB X.K fd ps n ks ix) (hx : Passes CX X E)
    (ha : PA X (e :: es) t) (hkw : PK X kws tk) (hall : (backToKw pos (keywordEach kws X.env)).all (·.1.isSome) = true := by rfl) (hks : (backToKw pos (keywordEach kws X.env)).filterMap (·.1) = ks := by rfl)
    (hdb : (x == ("__debug__" : Str)) = false := by decide) (he : starEach (e :: es) X.env = (false, eval e X.env) :: starEach es X.env := by rfl)
    (hpl : ((backTo pos (starEach (e :: es) X.env)).any (·.1) || (backToKw pos (keywordEach kws X.env)).any (·.1.isNone)) = false := by rfl) : PE X (.Call (.Name x p) (e :: es) kws pos) (tCallP n ks.length ix sp E t tk) := by
  constructor
  intro pins s σ H Q I h
  refine wpAny_Call_Name_kw (ld_glob I hg hm ?_ hdb)
  refine PySem.W.callWith_KW (h₀ := X.base) I.ok.mod.kin hk hall (thn (ha.run pos pins s σ H _ I h) ?_) hpl he
  rintro us s1 ⟨vs, H1, I1, rv, q⟩
  refine thn (hkw.run pos pins s1 σ H1 _ I1 q) ?_
  rintro ws s2 ⟨zs, H2, I2, rz, l1, l2, q2⟩
  rw [hks]
  exact ⟨I2.kIn, runAK Fn hgu hr hb hx I2 rv rz l1 l2 q2⟩
theorem callAK0 (Fn : FnA X.prog X.w X.K X.mg X.base CX k f fd ps sp) (hgu : X.A.guards = some []) (hr : Room k X.A) (hg : Gl X x) (hm : X.mg x = some (.ref f)) (hk : PySem.W.keepIn X.K (.ref f) = true) (hb : KwB X.K fd ps 0 ks ix) (hx : Passes CX X E)
    (hkw : PK X kws tk) (hall : (backToKw pos (keywordEach kws X.env)).all (·.1.isSome) = true := by rfl) (hks : (backToKw pos (keywordEach kws X.env)).filterMap (·.1) = ks := by rfl)
    (hdb : (x == ("__debug__" : Str)) = false := by decide) (hpl : ((backTo pos (starEach [] X.env)).any (·.1) || (backToKw pos (keywordEach kws X.env)).any (·.1.isNone)) = false := by rfl) : PE X (.Call (.Name x p) [] kws pos) (tCallP 0 ks.length ix sp E tNil tk) := by
  constructor
  intro pins s σ H Q I h
  refine wpAny_Call_Name_kw (ld_glob I hg hm ?_ hdb)
  refine PySem.W.callWith_KW0 (h₀ := X.base) I.ok.mod.kin hk hall (thn (hkw.run pos pins s σ H _ I h) ?_) hpl
  rintro ws s2 ⟨zs, H2, I2, rz, l1, l2, q2⟩
  rw [hks]
  exact ⟨I2.kIn, runAK (us := []) (vs := []) Fn hgu hr hb hx I2 .nil rz rfl l2 q2⟩
end

/-! ## the promise of a pure function -/
/-- data and the shared slot in; a value (frozen, or new and one's own) and the shared slot out -/
abbrev Mir := List D → Sl → Option (Sl × Sl)
def ArgR (K : PySem.W.Frag) (F : Addr → Prop) (H : Hp) (P : Addr → Prop) (io : Option Nat) (vs : List V) (ds : List D) (s : Sl) : Prop := match io with
  | none => Reps K F H vs ds ∧ s = .emp
  | some j => Reps K F H (vs.eraseIdx j) ds ∧ ∃ v, vs[j]? = some v ∧ SlR K F H P v s
def spF (K : PySem.W.Frag) (n : Nat) (io : Option Nat) (M : Mir) : Sp := fun vs H Q _ => vs.length = n ∧ ∃ (F P : Addr → Prop) (ds : List D) (s : Sl), ArgR K F H P io vs ds s ∧ (∀ a, P a → ¬ F a ∧ H a ≠ none) ∧ (∀ a, F a → H a ≠ none) ∧
  ∃ r s', M ds s = some (r, s') ∧ ∀ (F' P' P2 : Addr → Prop) (H' : Hp) (v : V), Ext F H F' H' → (∀ a o, H a = some o → ¬ P a → H' a = some o) → (∀ a, F' a → H' a ≠ none ∧ (F a ∨ P a ∨ H a = none)) →
    (∀ a, P' a → ¬ F' a ∧ H' a ≠ none ∧ (P a ∨ H a = none)) → (∀ a, P2 a → ¬ F' a ∧ H' a ≠ none ∧ H a = none ∧ ¬ P' a) →
    (∀ j, io = some j → ∀ u, vs[j]? = some u → SlR K F' H' P' u s') → SlR K F' H' P2 v r → Q v H'

/-- the names' slots at the entry -/
def mkEnv (io : Option Nat) (ds : List D) (s : Sl) (n : Nat) : Env :=
  let a := match io with
    | none => ds.map Sl.p
    | some j => (ds.map Sl.p).take j ++ s :: (ds.map Sl.p).drop j
  a ++ List.replicate (n - a.length) .emp
def ioOut (io : Option Nat) (δ : Env) : Option Sl := match io with
  | none => some .emp
  | some j => match δ[j]? with
    | some .emp => none
    | x => x
def fnMir (io : Option Nat) (b : Env → SRes) (n : Nat) : Mir := fun ds s => match b (mkEnv io ds s n) with
  | .rt d δ => (ioOut io δ).map fun s' => (.p d, s')
  | .nx δ => (ioOut io δ).map fun s' => (.p .non, s')
  | _ => none
def FC.at (c : FC) : Option Nat := c.io.map (·.1)

section
variable {K : PySem.W.Frag} {F P : Addr → Prop} {H : Hp}
def argList (io : Option Nat) (ds : List D) (s : Sl) : Env := match io with
  | none => ds.map Sl.p
  | some j => (ds.map Sl.p).take j ++ s :: (ds.map Sl.p).drop j
theorem arg_get {io : Option Nat} {vs : List V} {ds : List D} {s : Sl} (h : ArgR K F H P io vs ds s) (hj : ∀ j, io = some j → j < vs.length) : (argList io ds s).length = vs.length ∧
    ∀ i x, (argList io ds s)[i]? = some x → ∃ v, vs[i]? = some v ∧ SlR K F H (fun a => P a ∧ io = some i) v x := by
  cases io with
  | none =>
    obtain ⟨h, _⟩ := h
    refine ⟨by simp [argList, h.length], fun i x e => ?_⟩
    simp only [argList, List.getElem?_map] at e
    cases q : ds[i]? with
    | none => rw [q] at e; cases e
    | some d => rw [q] at e; cases e; obtain ⟨v, hv, r⟩ := h.get q; exact ⟨v, hv, .p r⟩
  | some j =>
    obtain ⟨h, v0, hv0, r0⟩ := h
    have lj := hj j rfl
    have ll := h.length
    rw [List.length_eraseIdx_of_lt lj] at ll
    have lt : ((ds.map Sl.p).take j).length = j := by rw [List.length_take, List.length_map]; omega
    refine ⟨by simp only [argList, List.length_append, List.length_cons, List.length_drop, List.length_map, lt]; omega, fun i x e => ?_⟩
    simp only [argList] at e
    rcases Nat.lt_trichotomy i j with z | z | z
    · rw [List.getElem?_append_left (by rw [lt]; exact z), List.getElem?_take_of_lt z, List.getElem?_map] at e
      cases q : ds[i]? with
      | none => rw [q] at e; cases e
      | some d =>
        rw [q] at e; cases e
        obtain ⟨v, hv, r⟩ := h.get q
        rw [List.getElem?_eraseIdx_of_lt z] at hv
        exact ⟨v, hv, .p r⟩
    · subst z
      rw [List.getElem?_append_right (by rw [lt]; exact Nat.le_refl _), lt, Nat.sub_self] at e
      cases e
      exact ⟨v0, hv0, r0.mono (Ext.refl _ _) fun a pa => ⟨⟨pa, rfl⟩, rfl⟩⟩
    · rw [List.getElem?_append_right (by rw [lt]; omega), lt] at e
      obtain ⟨m, hm⟩ : ∃ m, i - j = m + 1 := ⟨i - j - 1, by omega⟩
      rw [hm, List.getElem?_cons_succ, List.getElem?_drop, List.getElem?_map] at e
      cases q : ds[j + m]? with
      | none => rw [q] at e; cases e
      | some d =>
        rw [q] at e; cases e
        obtain ⟨v, hv, r⟩ := h.get q
        rw [List.getElem?_eraseIdx_of_ge (by omega)] at hv
        rw [show j + m + 1 = i by omega] at hv
        exact ⟨v, hv, .p r⟩
end

open Classical in
/-- a def of the text keeps the promise of its denotation -/
theorem fnA_mir {P : Program} {w : World} {K : PySem.W.Frag} {mg : Str → Option Value} {base : Heap} {CX : CXT} {x qual : Str} {params : Arguments} {body : List Stmt} {scope : Scope} {dvs : List V} {kws : List (Str × V)} {f : Addr} {fd : FuncData} {N ps : List Str} {k : Nat}
    (Fd : FunD K x qual params body scope dvs kws f fd) (S : FnScope N ps scope) (io : Option Nat) (hio : ∀ j, io = some j → j < ps.length) (hps : ps.length ≤ N.length) (fb : Env → SRes)
    (hb : ∀ (cdv : Value) (A : Around) (outer : List PySem.Env) (s : Shared) (H : Hp) (E : XK) (c : FC), (A.deeper (envOfC qual scope s.heap.objs.size f cdv)).guards = some [] → Room k (A.deeper (envOfC qual scope s.heap.objs.size f cdv)) → c.at = io →
      DSs (cxOf CX P w K mg base N qual scope f cdv A outer s H E) c body fb) : FnA P w K mg base CX (k + 1) f fd ps (spF K ps.length io (fnMir io fb N.length)) := by
  refine fnA_body Fd S (fun vs H Q E h => h.1) fun cdv A outer s H vs Q E hg hr hs => ?_
  obtain ⟨hl, F, Pp, ds, sl, arg, hP, hF, r, s', hM, post⟩ := hs
  have lj : ∀ j, io = some j → j < vs.length := fun j e => by rw [hl]; exact hio j e
  refine ⟨tSt K ⟨F, H, Pp, io.map fun j => (j, vs.getD j .non)⟩ fb, hb cdv A outer s H E _ hg hr (by cases io <;> rfl), F, fun a => if Pp a then io else none, mkEnv io ds sl N.length, ?_, ?_⟩
  · obtain ⟨al, ag⟩ := arg_get arg lj
    have me : mkEnv io ds sl N.length = argList io ds sl ++ List.replicate (N.length - (argList io ds sl).length) .emp := by cases io <;> rfl
    have sl0 : (L2.start N vs).length = N.length := by unfold L2.start; rw [List.length_append, List.length_map, List.length_replicate]; omega
    have sg : ∀ i v, vs[i]? = some v → (L2.start N vs)[i]? = some (some v) := fun i v e => by
      unfold L2.start
      have := (List.getElem?_eq_some_iff.mp e).1
      rw [List.getElem?_append_left (by rw [List.length_map]; exact this), List.getElem?_map, e]; rfl
    refine ⟨?_, fun i y e => ?_, fun a i e => ?_, fun a f => ⟨hF a f, .inl f⟩, fun a o e _ => e, fun j a e => ?_⟩
    · rw [sl0, me, List.length_append, List.length_replicate, al]; omega
    · rw [me] at e
      rcases Nat.lt_or_ge i (argList io ds sl).length with z | z
      · rw [List.getElem?_append_left z] at e
        obtain ⟨v, hv, rr⟩ := ag i y e
        refine .inr ⟨v, sg i v hv, rr.mono (Ext.refl _ _) fun a ⟨pa, ei⟩ => ⟨by show (if Pp a then io else none) = some i; rw [if_pos pa, ei], rfl⟩⟩
      · rw [List.getElem?_append_right z] at e
        left
        rw [List.getElem?_replicate] at e
        split at e <;> cases e
        rfl
    · have pa : Pp a := by
        by_cases q : Pp a
        · exact q
        · rw [if_neg q] at e; cases e
      exact ⟨(hP a pa).1, (hP a pa).2, .inl pa⟩
    · cases io with
      | none => cases e
      | some j0 =>
        cases e
        have := lj j rfl
        exact sg j _ (by rw [List.getD_eq_getElem?_getD, List.getElem?_eq_getElem this]; rfl)
  · have fin : ∀ (d : D) (δ' : Env), (ioOut io δ').map (fun s' => (Sl.p d, s')) = some (r, s') → ∀ F' ow' H' σ' v, Ext F H F' H' → W K ⟨F, H, Pp, io.map fun j => (j, vs.getD j .non)⟩ F' ow' H' σ' δ' → Rep K F' H' v d → Q v H' := by
      intro d δ' e F' ow' H' σ' v ex w' rv
      cases q : ioOut io δ' with
      | none => rw [q] at e; cases e
      | some s2 =>
        rw [q] at e
        cases e
        refine post F' (fun a => ∃ j, io = some j ∧ ow' a = some j) (fun _ => False) H' v ex (fun a o e1 e2 => w'.kp a o e1 e2) (fun a f => w'.ft a f) (fun a ⟨j, _, e2⟩ => w'.df a j e2) (fun _ z => z.elim) (fun j ej u hu => ?_) (.p rv)
        subst ej
        have e3 := w'.io j u (by show some (j, vs.getD j .non) = some (j, u); rw [List.getD_eq_getElem?_getD, hu]; rfl)
        have q' : δ'[j]? = some s' ∧ s' ≠ Sl.emp := by
          unfold ioOut at q
          dsimp only at q
          split at q
          · cases q
          · rename_i hne; exact ⟨q, fun z => hne (by rw [q, z])⟩
        rcases w'.sl j s' q'.1 with z | ⟨v2, e4, r4⟩
        · exact absurd z q'.2
        · rw [e3] at e4; cases e4
          exact r4.mono (Ext.refl _ _) fun a ea => ⟨⟨j, rfl, ea⟩, rfl⟩
    unfold fnMir at hM
    cases q : fb (mkEnv io ds sl N.length) with
    | nx δ' => rw [q] at hM; exact fun F' ow' H' σ' ex w' => fin .non δ' hM F' ow' H' σ' .non ex w' .non
    | rt d δ' => rw [q] at hM; exact fun F' ow' H' σ' v ex w' rv => fin d δ' hM F' ow' H' σ' v ex w' rv
    | bk _ => rw [q] at hM; cases hM
    | ct _ => rw [q] at hM; cases hM
    | bad => rw [q] at hM; cases hM

/-! ## calls -/
def dCallF (n : Nat) (M : Mir) (dd : List D) (f : Env → R (List D)) (δ : Env) : R D := (f δ).bind fun ds δ1 => if (ds ++ dd).length = n then (match M (ds ++ dd) .emp with
  | some (.p d, _) => .ok d δ1
  | _ => .bad) else .bad
section
variable {X : Cx} {c : FC} {CX : CXT} {k n : Nat} {fa : Addr} {fd : FuncData} {ps : List Str} {M : Mir} {dvs : List V} {dd : List D} {dsv : List Value} {E : XK} {x : Str} {p pos : Pos} {e : Expr} {es : List Expr} {f g : Env → R (List D)}
/-- behind a call: the world again -/
theorem W.after {K : PySem.W.Frag} {c : FC} {F F' : Addr → Prop} {ow : Addr → Option Nat} {H H' : Hp} {σ : L2.St} {δ : Env} (w : W K c F ow H σ δ) (ex : Ext F H F' H') (kp : ∀ a o, H a = some o → H' a = some o) (ff : ∀ a, F' a → H' a ≠ none ∧ (F a ∨ H a = none)) : W K c F' ow H' σ δ where
  len := w.len
  sl := fun i s e => (w.sl i s e).imp id fun ⟨v, q, r⟩ => ⟨v, q, r.mono ex fun a z => ⟨z, by
    have := (w.df a i z).2.1
    cases q : H a with
    | none => exact absurd q this
    | some o => exact kp a o q⟩⟩
  df := fun a i z => ⟨fun f => (ff a f).2.elim (w.df a i z).1 (w.df a i z).2.1, by
    have := (w.df a i z).2.1
    cases q : H a with
    | none => exact absurd q this
    | some o => rw [kp a o q]; simp, (w.df a i z).2.2⟩
  ft := fun a f => ⟨(ff a f).1, (ff a f).2.elim (fun q => (w.ft a q).2) fun q => .inr (w.fresh q).2.2⟩
  kp := fun a o e z => kp a o (w.kp a o e z)
  io := w.io
theorem call_pure {K : PySem.W.Frag} {F : Addr → Prop} {ow : Addr → Option Nat} {H : Hp} {σ : L2.St} {δ : Env} {vs : List V} {ds : List D} {Q : VK} {d : D} {s' : Sl} (w : W K c F ow H σ δ) (r : Reps K F H vs ds) (hl : ds.length = n) (hM : M ds .emp = some (.p d, s')) (g : Go K c (Rep K) F H σ (.ok d δ) Q) :
    spF K n none M vs H Q E := by
  refine ⟨r.length.trans hl, F, fun _ => False, ds, .emp, ⟨r, rfl⟩, fun _ z => z.elim, fun a f => (w.ft a f).1, _, _, hM, fun F' P' P2 H' v ex kp ff pp p2 _ rv => ?_⟩
  cases rv with
  | p rv => exact g F' ow H' v ex (w.after ex (fun a o q => kp a o q fun z => z) fun a f => ⟨(ff a f).1, (ff a f).2.imp id fun q => q.elim (fun z => z.elim) id⟩) rv
theorem de_call (hn : ps.length = n) (Fn : FnA X.prog X.w X.K X.mg X.base CX k fa fd ps (spF X.K n none M)) (hgu : X.A.guards = some []) (hr : Room k X.A) (hg : Gl X x) (hm : X.mg x = some (.ref fa)) (hk : PySem.W.keepIn X.K (.ref fa) = true) (hb : Binds X.K fd ps dsv) (hd : Vals dvs dsv) (hx : Passes CX X E) (hdd : ∀ F H, Reps X.K F H dvs dd)
    (ha : DA X c (e :: es) f) (hdb : (x == ("__debug__" : Str)) = false := by decide) (he : starEach (e :: es) X.env = (false, eval e X.env) :: starEach es X.env := by rfl) (hpl : (backTo pos (starEach es X.env)).any (·.1) = false := by rfl) :
    DE X c (.Call (.Name x p) (e :: es) [] pos) (dCallF n M dd f) :=
  PE.imp (callA Fn hgu hr hg hm hk hb hd hx ha hdb he hpl) fun σ H Q ⟨F, ow, δ, w, g1⟩ => ⟨F, ow, δ, w, Go.imp (fun v H1 h1 => by
    obtain ⟨F1, ow1, ds, δ1, e1, w1, r1, _, g2⟩ := h1
    split at g2
    · rename_i hl
      split at g2
      · rename_i d s' hM
        exact call_pure w1 (r1.append (hdd F1 H1)) hl hM g2
      · exact g2.elim
    · exact g2.elim) (Go.bind (rep := Reps X.K) g1)⟩
theorem de_call0 (hn : ps.length = n) (Fn : FnA X.prog X.w X.K X.mg X.base CX k fa fd ps (spF X.K n none M)) (hgu : X.A.guards = some []) (hr : Room k X.A) (hg : Gl X x) (hm : X.mg x = some (.ref fa)) (hk : PySem.W.keepIn X.K (.ref fa) = true) (hb : Binds X.K fd ps dsv) (hd : Vals dvs dsv) (hx : Passes CX X E) (hdd : ∀ F H, Reps X.K F H dvs dd)
    (hdb : (x == ("__debug__" : Str)) = false := by decide) : DE X c (.Call (.Name x p) [] [] pos) (dCallF n M dd dNil) :=
  PE.imp (callA0 Fn hgu hr hg hm hk hb hd hx hdb) fun σ H Q ⟨F, ow, δ, w, g1⟩ => by
    unfold dCallF dNil at g1
    rw [R.bind_ok] at g1
    split at g1
    · rename_i hl
      split at g1
      · rename_i d s' hM
        exact call_pure (E := E) w (by simpa using hdd F H) (by simpa using hl) (by simpa using hM) g1
      · exact g1.elim
    · exact g1.elim
/-- keywords -/
abbrev DK (X : Cx) (c : FC) (es : List Keyword) (f : Env → R (List D)) : Prop := PK X es (tAr X.K c f)
theorem PK.imp {X : Cx} {e : List Keyword} {t t' : TA} (h : PK X e t) (i : ∀ σ H Q, t' σ H Q → t σ H Q) : PK X e t' := ⟨fun pos pins s σ H Q I q => h.run pos pins s σ H Q I (i σ H Q q)⟩
theorem dk_nil : DK X c [] dNil := PK.imp pk_nil fun σ H Q ⟨F, ow, δ, w, g1⟩ => g1 F ow H [] (Ext.refl _ _) w .nil
theorem dk_cons {nm : Option Str} {kpos : Pos} {kws : List Keyword} {fe : Env → R D} (ha : DE X c e fe) (hr : DK X c kws g) : DK X c (⟨nm, e, kpos⟩ :: kws) (dCons fe g) :=
  PK.imp (pk_cons ha hr) fun σ H Q ⟨F, ow, δ, w, g1⟩ => ⟨F, ow, δ, w, Go.imp (fun v H1 h1 => by
    obtain ⟨F1, ow1, d, δ1, e1, w1, r1, _, g2⟩ := h1
    refine ⟨F1, ow1, δ1, w1, Go.imp (fun vs H2 h2 => ?_) (Go.bind (rep := Reps X.K) g2)⟩
    obtain ⟨F2, ow2, ds, δ2, e2, w2, r2, _, g3⟩ := h2
    exact g3 F2 ow2 H2 (v :: vs) (Ext.refl _ _) w2 (.cons (r1.mono e2) r2)) (Go.bind (rep := Rep X.K) g1)⟩
def dCallK (n m l : Nat) (ix : List Nat) (M : Mir) (f g : Env → R (List D)) (δ : Env) : R D := (f δ).bind fun ds δ1 => (g δ1).bind fun zs δ2 => if ds.length = m ∧ zs.length = l ∧ (pick ix (ds ++ zs)).length = n then (match M (pick ix (ds ++ zs)) .emp with
  | some (.p d, _) => .ok d δ2
  | _ => .bad) else .bad
theorem callk_imp {m : Nat} {ix : List Nat} {ks : List Str} (σ : L2.St) (H : Hp) (Q : VK) (h : tD X.K c (dCallK n m ks.length ix M f g) σ H Q) : tCallP m ks.length ix (spF X.K n none M) E (tAr X.K c f) (tAr X.K c g) σ H Q := by
  obtain ⟨F, ow, δ, w, g1⟩ := h
  refine ⟨F, ow, δ, w, Go.imp (fun v H1 h1 => ?_) (Go.bind (rep := Reps X.K) g1)⟩
  obtain ⟨F1, ow1, ds, δ1, e1, w1, r1, _, g2⟩ := h1
  refine ⟨F1, ow1, δ1, w1, Go.imp (fun u H2 h2 => ?_) (Go.bind (rep := Reps X.K) g2)⟩
  obtain ⟨F2, ow2, zs, δ2, e2, w2, r2, _, g3⟩ := h2
  split at g3
  · rename_i hl
    split at g3
    · rename_i d s' hM
      exact ⟨by rw [r1.length]; exact hl.1, by rw [r2.length]; exact hl.2.1, call_pure w2 (pick_reps ((r1.mono e2).append r2)) hl.2.2 hM g3⟩
    · exact g3.elim
  · exact g3.elim
theorem de_callK {m : Nat} {ix : List Nat} {ks : List Str} {kws : List Keyword} (Fn : FnA X.prog X.w X.K X.mg X.base CX k fa fd ps (spF X.K n none M)) (hgu : X.A.guards = some []) (hr : Room k X.A) (hg : Gl X x) (hm : X.mg x = some (.ref fa)) (hk : PySem.W.keepIn X.K (.ref fa) = true) (hb : KwB X.K fd ps m ks ix) (hx : Passes CX X E)
    (ha : DA X c (e :: es) f) (hkw : DK X c kws g) (hall : (backToKw pos (keywordEach kws X.env)).all (·.1.isSome) = true := by rfl) (hks : (backToKw pos (keywordEach kws X.env)).filterMap (·.1) = ks := by rfl)
    (hdb : (x == ("__debug__" : Str)) = false := by decide) (he : starEach (e :: es) X.env = (false, eval e X.env) :: starEach es X.env := by rfl)
    (hpl : ((backTo pos (starEach (e :: es) X.env)).any (·.1) || (backToKw pos (keywordEach kws X.env)).any (·.1.isNone)) = false := by rfl) : DE X c (.Call (.Name x p) (e :: es) kws pos) (dCallK n m ks.length ix M f g) :=
  PE.imp (callAK Fn hgu hr hg hm hk hb hx ha hkw hall hks hdb he hpl) callk_imp
theorem de_callK0 {ix : List Nat} {ks : List Str} {kws : List Keyword} (Fn : FnA X.prog X.w X.K X.mg X.base CX k fa fd ps (spF X.K n none M)) (hgu : X.A.guards = some []) (hr : Room k X.A) (hg : Gl X x) (hm : X.mg x = some (.ref fa)) (hk : PySem.W.keepIn X.K (.ref fa) = true) (hb : KwB X.K fd ps 0 ks ix) (hx : Passes CX X E)
    (hkw : DK X c kws g) (hall : (backToKw pos (keywordEach kws X.env)).all (·.1.isSome) = true := by rfl) (hks : (backToKw pos (keywordEach kws X.env)).filterMap (·.1) = ks := by rfl)
    (hdb : (x == ("__debug__" : Str)) = false := by decide) (hpl : ((backTo pos (starEach [] X.env)).any (·.1) || (backToKw pos (keywordEach kws X.env)).any (·.1.isNone)) = false := by rfl) : DE X c (.Call (.Name x p) [] kws pos) (dCallK n 0 ks.length ix M dNil g) :=
  PE.imp (callAK0 Fn hgu hr hg hm hk hb hx hkw hall hks hdb hpl) fun σ H Q h => by
    obtain ⟨F, ow, δ, w, g1⟩ := h
    have h2 := callk_imp (E := E) (f := dNil) σ H Q ⟨F, ow, δ, w, g1⟩
    obtain ⟨F, ow, δ, w, g2⟩ := h2
    exact g2 F ow H [] (Ext.refl _ _) w .nil

/-! ### a call with the shared argument: slot i, handed on as parameter j -/
abbrev DAS (X : Cx) (c : FC) (j i : Nat) (es : List Expr) (f : Env → R (List D)) : Prop := PA X es fun σ H Q => tG X.K c (fun F H (vs : List V) (ds : List D) => Reps X.K F H (vs.eraseIdx j) ds ∧ ∃ v, vs[j]? = some v ∧ σ[i]? = some (some v)) f σ H Q
def dHere (i : Nat) (f : Env → R (List D)) (δ : Env) : R (List D) := match δ[i]? with
  | some .emp => .bad
  | none => .bad
  | some _ => f δ
theorem das_here {i : Nat} (hv : PE X e (tVar i)) (hr : DA X c es f) (hs : starEach (e :: es) X.env = (false, eval e X.env) :: starEach es X.env := by rfl) : DAS X c 0 i (e :: es) (dHere i f) :=
  PA.imp (pa_cons hv hr hs) fun σ H Q ⟨F, ow, δ, w, g1⟩ => by
    unfold dHere at g1
    have go : ∀ s, δ[i]? = some s → s ≠ .emp → Go X.K c (fun F H (vs : List V) (ds : List D) => Reps X.K F H (vs.eraseIdx 0) ds ∧ ∃ v, vs[0]? = some v ∧ σ[i]? = some (some v)) F H σ (f δ) Q → tCons (tVar i) (tAr X.K c f) σ H Q := fun s e1 e2 g => by
      rcases w.sl i s e1 with z | ⟨v, ev, _⟩
      · exact absurd z e2
      · refine ⟨v, ev, F, ow, δ, w, ?_⟩
        cases q : f δ with
        | bad => rw [q] at g; exact g
        | ok ds δ1 => rw [q] at g; exact fun F' ow' H' vs ex w' r => g F' ow' H' (v :: vs) ex w' ⟨r, v, rfl, ev⟩
    cases q : δ[i]? with
    | none => rw [q] at g1; exact g1.elim
    | some s =>
      rw [q] at g1
      cases s with
      | emp => exact g1.elim
      | p d => exact go _ q (by simp) g1
      | st S => exact go _ q (by simp) g1
      | ml l => exact go _ q (by simp) g1
      | ob x ks l => exact go _ q (by simp) g1
theorem das_next {i j : Nat} {fe : Env → R D} (he : DE X c e fe) (hr : DAS X c j i es f) (hs : starEach (e :: es) X.env = (false, eval e X.env) :: starEach es X.env := by rfl) : DAS X c (j + 1) i (e :: es) (dCons fe f) :=
  PA.imp (pa_cons he hr hs) fun σ H Q ⟨F, ow, δ, w, g1⟩ => ⟨F, ow, δ, w, Go.imp (fun v H1 h1 => by
    obtain ⟨F1, ow1, d, δ1, e1, w1, r1, _, g2⟩ := h1
    refine ⟨F1, ow1, δ1, w1, Go.imp (fun vs H2 h2 => ?_) (Go.bind (rep := fun F H (vs : List V) (ds : List D) => Reps X.K F H (vs.eraseIdx j) ds ∧ ∃ v, vs[j]? = some v ∧ σ[i]? = some (some v)) g2)⟩
    obtain ⟨F2, ow2, ds, δ2, e2, w2, ⟨r2, v2, h3, h4⟩, _, g3⟩ := h2
    exact g3 F2 ow2 H2 (v :: vs) (Ext.refl _ _) w2 ⟨.cons (r1.mono e2) r2, v2, h3, h4⟩) (Go.bind (rep := Rep X.K) g1)⟩
open Classical in
/-- the shared slot is another one behind the call -/
theorem W.afterS {K : PySem.W.Frag} {c : FC} {F F' P' : Addr → Prop} {ow : Addr → Option Nat} {H H' : Hp} {σ : L2.St} {δ : Env} {i : Nat} {v : V} {s' : Sl} (w : W K c F ow H σ δ) (ex : Ext F H F' H') (kp : ∀ a o, H a = some o → ¬ ow a = some i → H' a = some o) (ff : ∀ a, F' a → H' a ≠ none ∧ (F a ∨ ow a = some i ∨ H a = none))
    (pp : ∀ a, P' a → ¬ F' a ∧ H' a ≠ none ∧ (ow a = some i ∨ H a = none)) (hv : σ[i]? = some (some v)) (hs : SlR K F' H' P' v s') : W K c F' (fun a => if P' a then some i else if ow a = some i then none else ow a) H' σ (δ.set i s') where
  len := by simpa using w.len
  sl := fun k s e => by
    by_cases hk : i = k
    · subst hk
      have hl : i < δ.length := by rw [← w.len]; exact (List.getElem?_eq_some_iff.mp hv).1
      rw [List.getElem?_set_self hl] at e
      cases e
      exact .inr ⟨v, hv, hs.mono (Ext.refl _ _) fun a pa => ⟨by rw [if_pos pa], rfl⟩⟩
    · rw [List.getElem?_set_ne hk] at e
      refine (w.sl k s e).imp id fun ⟨u, q, r⟩ => ⟨u, q, r.mono ex fun a z => ?_⟩
      have n1 : ¬ ow a = some i := fun q => by rw [z] at q; exact hk (Option.some.inj q).symm
      have n2 : ¬ P' a := fun q => (pp a q).2.2.elim n1 (w.df a k z).2.1
      refine ⟨by rw [if_neg n2, if_neg n1]; exact z, ?_⟩
      cases q : H a with
      | none => exact absurd q (w.df a k z).2.1
      | some o => exact kp a o q n1
  df := fun a k e => by
    by_cases h1 : P' a
    · refine ⟨(pp a h1).1, (pp a h1).2.1, (pp a h1).2.2.elim (fun q => (w.df a i q).2.2) fun q => (w.fresh q).2.2⟩
    · rw [if_neg h1] at e
      by_cases h2 : ow a = some i
      · rw [if_pos h2] at e; cases e
      · rw [if_neg h2] at e
        obtain ⟨d1, d2, d3⟩ := w.df a k e
        refine ⟨fun f => (ff a f).2.elim d1 fun q => q.elim h2 d2, ?_, d3⟩
        cases q : H a with
        | none => exact absurd q d2
        | some o => rw [kp a o q h2]; simp
  ft := fun a f => ⟨(ff a f).1, (ff a f).2.elim (fun q => (w.ft a q).2) fun q => .inr (q.elim (fun z => (w.df a i z).2.2) fun z => (w.fresh z).2.2)⟩
  kp := fun a o e z => kp a o (w.kp a o e z) fun q => (w.df a i q).2.2.elim z fun n => by rw [n] at e; cases e
  io := w.io
def dCallS (n i j : Nat) (M : Mir) (f : Env → R (List D)) (δ : Env) : R D := (f δ).bind fun ds δ1 => if ds.length + 1 = n then (match δ1[i]? with
  | some .emp => .bad
  | none => .bad
  | some s => match M ds s with
    | some (.p d, s') => .ok d (δ1.set i s')
    | _ => .bad) else .bad
open Classical in
theorem de_callS {i j : Nat} (hn : ps.length = n) (hj : j < n) (Fn : FnA X.prog X.w X.K X.mg X.base CX k fa fd ps (spF X.K n (some j) M)) (hgu : X.A.guards = some []) (hr : Room k X.A) (hg : Gl X x) (hm : X.mg x = some (.ref fa)) (hk : PySem.W.keepIn X.K (.ref fa) = true) (hb : Binds X.K fd ps []) (hx : Passes CX X E)
    (ha : DAS X c j i (e :: es) f) (hdb : (x == ("__debug__" : Str)) = false := by decide) (he : starEach (e :: es) X.env = (false, eval e X.env) :: starEach es X.env := by rfl) (hpl : (backTo pos (starEach es X.env)).any (·.1) = false := by rfl) :
    DE X c (.Call (.Name x p) (e :: es) [] pos) (dCallS n i j M f) :=
  PE.imp (callA Fn hgu hr hg hm hk hb .nil hx ha hdb he hpl) fun σ H Q ⟨F, ow, δ, w, g1⟩ => ⟨F, ow, δ, w, Go.imp (fun vs H1 h1 => by
    obtain ⟨F1, ow1, ds, δ1, e1, w1, ⟨r1, v, hvj, hvi⟩, _, g2⟩ := h1
    have ln : vs.length = n ∨ ¬ ds.length + 1 = n := by
      have l1 := r1.length
      have l2 : j < vs.length := (List.getElem?_eq_some_iff.mp hvj).1
      rw [List.length_eraseIdx_of_lt l2] at l1
      omega
    split at g2
    · rename_i hl
      have go : ∀ s, δ1[i]? = some s → s ≠ .emp → (match M ds s with
          | some (.p d, s') => Go X.K c (Rep X.K) F1 H1 σ (.ok d (δ1.set i s')) Q
          | _ => False) → spF X.K n (some j) M (vs ++ []) H1 Q E := fun s q ne g => by
        rw [List.append_nil]
        rcases w1.sl i s q with z | ⟨u, hu, rs⟩
        · exact absurd z ne
        rw [hvi] at hu; cases hu
        split at g
        · rename_i d s' hM
          refine ⟨ln.resolve_right (fun z => z hl), F1, fun a => ow1 a = some i, ds, s, ⟨r1, v, hvj, rs⟩, fun a z => ⟨(w1.df a i z).1, (w1.df a i z).2.1⟩, fun a f => (w1.ft a f).1, _, _, hM, fun F' P' P2 H' v' ex kp ff pp p2 hio rv => ?_⟩
          cases rv with
          | p rv => exact g F' _ H' v' ex (w1.afterS ex kp ff pp hvi (hio j rfl v hvj)) rv
        · exact g.elim
      cases q : δ1[i]? with
      | none => rw [q] at g2; exact g2.elim
      | some s =>
        rw [q] at g2
        have rest : s ≠ .emp → Go X.K c (Rep X.K) F1 H1 σ (match M ds s with
            | some (.p d, s') => R.ok d (δ1.set i s')
            | _ => .bad) Q → spF X.K n (some j) M (vs ++ []) H1 Q E := fun ne g => by
          refine go s q ne ?_
          split at g
          · exact g
          · exact g.elim
        cases s with
        | emp => exact g2.elim
        | p d => exact rest (by simp) g2
        | st S => exact rest (by simp) g2
        | ml l => exact rest (by simp) g2
        | ob x ks l => exact rest (by simp) g2
    · exact g2.elim) (Go.bind (rep := fun F H (vs : List V) (ds : List D) => Reps X.K F H (vs.eraseIdx j) ds ∧ ∃ v, vs[j]? = some v ∧ σ[i]? = some (some v)) g1)⟩

/-! ### x = f(..) where f hands back a thing of one's own -/
def dSetF (i n : Nat) (M : Mir) (f : Env → R (List D)) (δ : Env) : SRes := match f δ with
  | .ok ds δ1 => if ds.length = n then (match M ds .emp with
    | some (r, _) => .nx (δ1.set i r)
    | none => .bad) else .bad
  | .bad => .bad
open Classical in
theorem W.setS {K : PySem.W.Frag} {c : FC} {F P2 : Addr → Prop} {ow : Addr → Option Nat} {H : Hp} {σ : L2.St} {δ : Env} {i : Nat} {v : V} {r : Sl} (w : W K c F ow H σ δ) (hio : ∀ a, c.io ≠ some (i, a)) (p2 : ∀ a, P2 a → ¬ F a ∧ H a ≠ none ∧ ow a = none ∧ (c.fp0 a ∨ c.H0 a = none)) (hs : SlR K F H P2 v r) :
    W K c F (fun a => if P2 a then some i else ow a) H (σ.set i (some v)) (δ.set i r) where
  len := by simpa using w.len
  sl := fun k s e => by
    by_cases hk : i = k
    · subst hk
      have hl : i < δ.length := by
        rcases Nat.lt_or_ge i δ.length with z | z
        · exact z
        · rw [List.getElem?_eq_none (by simpa using z)] at e; cases e
      rw [List.getElem?_set_self hl] at e
      cases e
      exact .inr ⟨v, List.getElem?_set_self (by rw [w.len]; exact hl), hs.mono (Ext.refl _ _) fun a pa => ⟨by rw [if_pos pa], rfl⟩⟩
    · rw [List.getElem?_set_ne hk] at e
      rw [List.getElem?_set_ne hk]
      refine (w.sl k s e).imp id fun ⟨u, q, r⟩ => ⟨u, q, r.mono (Ext.refl _ _) fun a z => ⟨?_, rfl⟩⟩
      rw [if_neg fun q => by rw [(p2 a q).2.2.1] at z; cases z]; exact z
  df := fun a k e => by
    by_cases h1 : P2 a
    · exact ⟨(p2 a h1).1, (p2 a h1).2.1, (p2 a h1).2.2.2⟩
    · rw [if_neg h1] at e; exact w.df a k e
  ft := w.ft
  kp := w.kp
  io := fun j a e => by
    rw [List.getElem?_set_ne (fun z => by subst z; exact hio a e)]
    exact w.io j a e
theorem FC.io_ne {c : FC} {i : Nat} (h : c.at ≠ some i) : ∀ a, c.io ≠ some (i, a) := fun a e => h (by unfold FC.at; rw [e]; rfl)
theorem ds_setF {i : Nat} {y : Str} {pos' spos : Pos} (hn : ps.length = n) (Fn : FnA X.prog X.w X.K X.mg X.base CX k fa fd ps (spF X.K n none M)) (hgu : X.A.guards = some []) (hr : Room k X.A) (hg : Gl X x) (hm : X.mg x = some (.ref fa)) (hk : PySem.W.keepIn X.K (.ref fa) = true) (hb : Binds X.K fd ps []) (hx : Passes CX X E)
    (hi : c.at ≠ some i) (hN : X.N.Nodup) (hiN : X.N[i]? = some y) (hloc : Loc X.env.scope y)
    (ha : DA X c (e :: es) f) (hdb : (x == ("__debug__" : Str)) = false := by decide) (he : starEach (e :: es) X.env = (false, eval e X.env) :: starEach es X.env := by rfl) (hpl : (backTo pos (starEach es X.env)).any (·.1) = false := by rfl)
    (hsw : swapsWith (.Call (.Name x p) (e :: es) [] pos) (some (.Name y pos')) spos.line X.env = pure false := by rfl) (hf : X.fn y = true ∨ X.env.scope.names.lookup y = some .local := by first | exact .inl rfl | exact .inr rfl | assumption) :
    DS X c (.Assign [.Name y pos'] (.Call (.Name x p) (e :: es) [] pos) spos) (dSetF i n M f) :=
  PS.imp (ps_set (i := i) hN hiN hloc (callA Fn hgu hr hg hm hk hb .nil hx ha hdb he hpl) hsw hf) fun Dn σ H ⟨F, ow, δ, w, g1⟩ => by
    refine ⟨F, ow, δ, w, ?_⟩
    unfold dSetF at g1
    cases q : f δ with
    | bad => rw [q] at g1; exact g1
    | ok ds δ1 =>
      rw [q] at g1
      dsimp only at g1
      intro F1 ow1 H1 vs ex1 w1 r1
      split at g1
      · rename_i hl
        split at g1
        · rename_i r s' hM
          rw [List.append_nil]
          refine ⟨r1.length.trans hl, F1, fun _ => False, ds, .emp, ⟨r1, rfl⟩, fun _ z => z.elim, fun a f => (w1.ft a f).1, _, _, hM, fun F' P' P2 H' v ex kp ff pp p2 _ rv => ?_⟩
          have w2 := w1.after ex (fun a o q => kp a o q fun z => z) fun a f => ⟨(ff a f).1, (ff a f).2.imp id fun q => q.elim (fun z => z.elim) id⟩
          exact g1 F' _ H' _ (ex1.trans ex) (w2.setS (FC.io_ne hi) (fun a pa => ⟨(p2 a pa).1, (p2 a pa).2.1, (w1.fresh (p2 a pa).2.2.1).1, (w1.fresh (p2 a pa).2.2.1).2.2⟩) rv)
        · exact g1.elim
      · exact g1.elim
end
end PV

namespace PV
open PySem PySem.Spec PyProof.Rows L2

/-! ## statements -/
section
variable {X : Cx} {c : FC} {e : Expr} {fe : Env → R D} {s : Stmt} {rest : List Stmt} {f g : Env → SRes} {pos : Pos}
def sNext (δ : Env) : SRes := .nx δ
def sSeq (f g : Env → SRes) (δ : Env) : SRes := (f δ).seq g
theorem dss_nil : DSs X c [] sNext := PSs.imp pss_nil fun Dn σ H ⟨F, ow, δ, w, g1⟩ => g1 F ow H σ (Ext.refl _ _) w
theorem dss_one (h : DS X c s f) : DSs X c [s] f := pss_one h
theorem dss_cons (h : DS X c s f) (hr : DSs X c rest g) : DSs X c (s :: rest) (sSeq f g) :=
  PSs.imp (pss_cons h hr) fun Dn σ H ⟨F, ow, δ, w, g1⟩ => by
    refine ⟨F, ow, δ, w, ?_⟩
    unfold sSeq at g1
    cases q : f δ with
    | nx δ1 => rw [q] at g1; exact fun F' ow' H' σ' ex w' => ⟨F', ow', δ1, w', GoS.mono ex g1⟩
    | rt d δ1 => rw [q] at g1; exact g1
    | bk δ1 => rw [q] at g1; exact g1
    | ct δ1 => rw [q] at g1; exact g1
    | bad => rw [q] at g1; exact g1
def sRet (fe : Env → R D) (δ : Env) : SRes := match fe δ with
  | .ok d δ1 => .rt d δ1
  | .bad => .bad
theorem ds_ret (h : DE X c e fe) : DS X c (.Return (some e) pos) (sRet fe) :=
  PS.imp (ps_ret h) fun Dn σ H ⟨F, ow, δ, w, g1⟩ => by
    refine ⟨F, ow, δ, w, ?_⟩
    unfold sRet at g1
    cases q : fe δ with
    | ok d δ1 => rw [q] at g1; exact fun F' ow' H' v ex w' r => g1 F' ow' H' σ v ex w' r
    | bad => rw [q] at g1; exact g1
def sRetN (δ : Env) : SRes := .rt .non δ
theorem ds_retN : DS X c (.Return none pos) sRetN := PS.imp ps_retN fun Dn σ H ⟨F, ow, δ, w, g1⟩ => g1 F ow H σ .non (Ext.refl _ _) w .non
def sBk (δ : Env) : SRes := .bk δ
def sCt (δ : Env) : SRes := .ct δ
def sBad (_ : Env) : SRes := .bad
theorem ds_pass : DS X c (.Pass pos) sNext := PS.imp ps_pass fun Dn σ H ⟨F, ow, δ, w, g1⟩ => g1 F ow H σ (Ext.refl _ _) w
theorem ds_break : DS X c (.Break pos) sBk := PS.imp ps_break fun Dn σ H ⟨F, ow, δ, w, g1⟩ => g1 F ow H σ (Ext.refl _ _) w
theorem ds_cont : DS X c (.Continue pos) sCt := PS.imp ps_continue fun Dn σ H ⟨F, ow, δ, w, g1⟩ => g1 F ow H σ (Ext.refl _ _) w
theorem ds_doc {x : Str} {j : Nat} {p : Pos} : DS X c (.Expr (.Constant (.str x) j p) pos) sNext := PS.imp ps_doc fun Dn σ H ⟨F, ow, δ, w, g1⟩ => g1 F ow H σ (Ext.refl _ _) w
/-- a statement that is not reached -/
theorem ds_never : DS X c s sBad := PS.imp ps_never fun Dn σ H ⟨F, ow, δ, w, g1⟩ => g1
theorem dss_never : DSs X c rest sBad := PSs.imp pss_never fun Dn σ H ⟨F, ow, δ, w, g1⟩ => g1
def sSet (i : Nat) (fe : Env → R D) (δ : Env) : SRes := match fe δ with
  | .ok d δ1 => .nx (δ1.set i (.p d))
  | .bad => .bad
theorem ds_set {i : Nat} {x : Str} {pos' : Pos} (hi : c.at ≠ some i) (hN : X.N.Nodup) (hiN : X.N[i]? = some x) (hx : Loc X.env.scope x) (he : DE X c e fe) (hs : swapsWith e (some (.Name x pos')) pos.line X.env = pure false := by rfl) (hf : X.fn x = true ∨ X.env.scope.names.lookup x = some .local := by first | exact .inl rfl | exact .inr rfl | assumption) :
    DS X c (.Assign [.Name x pos'] e pos) (sSet i fe) :=
  PS.imp (ps_set hN hiN hx he hs hf) fun Dn σ H ⟨F, ow, δ, w, g1⟩ => by
    refine ⟨F, ow, δ, w, ?_⟩
    unfold sSet at g1
    cases q : fe δ with
    | ok d δ1 => rw [q] at g1; exact fun F' ow' H' v ex w' r => g1 F' ow' H' _ ex (w'.set r (FC.io_ne hi))
    | bad => rw [q] at g1; exact g1
def sDrop (fe : Env → R D) (δ : Env) : SRes := match fe δ with
  | .ok _ δ1 => .nx δ1
  | .bad => .bad
theorem ds_expr (he : DE X c e fe) (hs : swapsWith e none pos.line X.env = pure false := by rfl) : DS X c (.Expr e pos) (sDrop fe) :=
  PS.imp (ps_expr he hs) fun Dn σ H ⟨F, ow, δ, w, g1⟩ => by
    refine ⟨F, ow, δ, w, ?_⟩
    unfold sDrop at g1
    cases q : fe δ with
    | ok d δ1 => rw [q] at g1; exact fun F' ow' H' v ex w' r => g1 F' ow' H' _ ex w'
    | bad => rw [q] at g1; exact g1
def sIf (t : Env → R Bool) (f g : Env → SRes) (δ : Env) : SRes := match t δ with
  | .ok b δ1 => if b = true then f δ1 else g δ1
  | .bad => .bad
theorem ds_if {t : Env → R Bool} {a b : List Stmt} (ht : DT X c e t) (ha : DSs X c a f) (hb : DSs X c b g) : DS X c (.If e a b pos) (sIf t f g) :=
  PS.imp (ps_if ht ha hb) fun Dn σ H ⟨F, ow, δ, w, g1⟩ => by
    refine ⟨F, ow, δ, w, ?_⟩
    unfold sIf at g1
    cases q : t δ with
    | ok b δ1 =>
      rw [q] at g1
      intro F' ow' H' v ex w' r
      subst r
      dsimp only at g1
      cases v
      · rw [if_neg Bool.false_ne_true] at g1 ⊢; exact ⟨F', ow', δ1, w', GoS.mono ex g1⟩
      · rw [if_pos rfl] at g1 ⊢; exact ⟨F', ow', δ1, w', GoS.mono ex g1⟩
    | bad => rw [q] at g1; exact g1
def sAug (i : Nat) (op : Int → Int → Int) (fe : Env → R D) (δ : Env) : SRes := match δ[i]? with
  | some (.p (.int x)) => (match fe δ with
    | .ok (.int y) δ1 => .nx (δ1.set i (.p (.int (op x y))))
    | _ => .bad)
  | _ => .bad
theorem ds_aug {i : Nat} {x : Str} {op : Operator} {fo : Int → Int → Int} {pos' : Pos} (hi : c.at ≠ some i) (hN : X.N.Nodup) (hiN : X.N[i]? = some x) (hx : Loc X.env.scope x) (he : DE X c e fe) (ho : PIp X op (ipI fo)) (hf : X.fn x = true ∨ X.env.scope.names.lookup x = some .local := by first | exact .inl rfl | exact .inr rfl | assumption) :
    DS X c (.AugAssign (.Name x pos') op e pos) (sAug i fo fe) :=
  PS.imp (ps_aug hN hiN hx he ho hf) fun Dn σ H ⟨F, ow, δ, w, g1⟩ => by
    unfold sAug at g1
    split at g1
    · rename_i a q
      obtain ⟨v, hv, rv⟩ := w.pur q
      cases rv
      refine ⟨_, hv, F, ow, δ, w, ?_⟩
      cases q2 : fe δ with
      | bad => rw [q2] at g1; exact g1.elim
      | ok d δ1 =>
        rw [q2] at g1
        intro F' ow' H' u ex w' r
        cases d with
        | int y => cases r; exact ⟨_, _, rfl, rfl, g1 F' ow' H' _ ex (w'.set (.int _) (FC.io_ne hi))⟩
        | _ => exact g1.elim
    · exact g1.elim

/-! ### targets -/
/-- a target: the slots that it writes are vs -/
def TgOk (K : PySem.W.Frag) (gT : TG) (g : D → Env → Option Env) (vs : List Nat) : Prop := ∀ (c : FC) (F : Addr → Prop) (ow : Addr → Option Nat) (H : Hp) (σ : L2.St) (δ δ' : Env) (x : V) (d : D) (Q : L2.St → Hp → Prop), (∀ i ∈ vs, c.at ≠ some i) → W K c F ow H σ δ → Rep K F H x d → g d δ = some δ' →
  (∀ σ', W K c F ow H σ' δ' → σ'.length = σ.length → (∀ i, i ∉ vs → σ'[i]? = σ[i]?) → Q σ' H) → gT x σ H Q
def tgN (i : Nat) (d : D) (δ : Env) : Option Env := some (δ.set i (.p d))
theorem tg_name {K : PySem.W.Frag} (i : Nat) : TgOk K (gName i) (tgN i) [i] := by
  intro c F ow H σ δ δ' x d Q hc w r e k
  cases e
  refine k _ (w.set r (FC.io_ne (hc i (List.mem_singleton_self i)))) (by simp) fun j hj => ?_
  exact List.getElem?_set_ne (fun z => hj (by simp [z]))
def tgsN : List Nat → List D → Env → Option Env
  | [], [], δ => some δ
  | i :: r, d :: ds, δ => tgsN r ds (δ.set i (.p d))
  | _, _, _ => none
def gNames : List Nat → TGs
  | [] => gNil
  | i :: r => gCons (gName i) (gNames r)
theorem tgs_names {K : PySem.W.Frag} : ∀ (vs : List Nat) (c : FC) (F : Addr → Prop) (ow : Addr → Option Nat) (H : Hp) (σ : L2.St) (δ δ' : Env) (xs : List V) (ds : List D) (Q : L2.St → Hp → Prop), (∀ i ∈ vs, c.at ≠ some i) → W K c F ow H σ δ → Reps K F H xs ds → tgsN vs ds δ = some δ' →
    (∀ σ', W K c F ow H σ' δ' → σ'.length = σ.length → (∀ i, i ∉ vs → σ'[i]? = σ[i]?) → Q σ' H) → gNames vs xs σ H Q := by
  intro vs
  induction vs with
  | nil =>
    intro c F ow H σ δ δ' xs ds Q hc w r e k
    cases r with
    | nil => cases e; exact ⟨rfl, k σ w rfl fun _ _ => rfl⟩
    | cons _ _ => cases e
  | cons i vs ih =>
    intro c F ow H σ δ δ' xs ds Q hc w r e k
    cases r with
    | nil => cases e
    | cons rv rr =>
      refine ⟨_, _, rfl, ih c F ow H _ _ δ' _ _ Q (fun j hj => hc j (List.mem_cons_of_mem _ hj)) (w.set rv (FC.io_ne (hc i List.mem_cons_self))) rr e fun σ' w' l n => k σ' w' (by simpa using l) fun j hj => ?_⟩
      rw [n j fun z => hj (List.mem_cons_of_mem _ z)]
      exact List.getElem?_set_ne (fun z => hj (by simp [z]))
def tgT (vs : List Nat) (d : D) (δ : Env) : Option Env := match d with
  | .tup ds => if ds.length = vs.length then tgsN vs ds δ else none
  | _ => none
theorem tg_tup {K : PySem.W.Frag} (vs : List Nat) : TgOk K (gTup K vs.length (gNames vs)) (tgT vs) vs := by
  intro c F ow H σ δ δ' x d Q hc w r e k
  unfold tgT at e
  split at e
  · split at e
    · rename_i hl
      obtain ⟨a, us, rfl, hq, rr⟩ := r.tup_inv
      exact ⟨a, us, rfl, hq, rr.length.trans hl, tgs_names vs c F ow H σ δ δ' us _ Q hc w rr e k⟩
    · cases e
  · cases e
/-- target = e -/
def sAsg (g : D → Env → Option Env) (fe : Env → R D) (δ : Env) : SRes := match fe δ with
  | .ok d δ1 => (match g d δ1 with
    | some δ2 => .nx δ2
    | none => .bad)
  | .bad => .bad
theorem ds_asg {tg : Expr} {gT : TG} {gd : D → Env → Option Env} {vs : List Nat} (hvs : ∀ i ∈ vs, c.at ≠ some i) (he : DE X c e fe) (hg : PG X tg gT) (ok : TgOk X.K gT gd vs) (hs : swapsWithSole [tg] e pos.line X.env = pure false := by rfl) (hw : swappedStores [tg] e X.env = pure none := by rfl)
    (h1 : (assignEach [tg] X.env).map (·.2) = [assign tg X.env] := by rfl) : DS X c (.Assign [tg] e pos) (sAsg gd fe) :=
  PS.imp (ps_asg he hg hs hw h1) fun Dn σ H ⟨F, ow, δ, w, g1⟩ => by
    refine ⟨F, ow, δ, w, ?_⟩
    unfold sAsg at g1
    cases q : fe δ with
    | bad => rw [q] at g1; exact g1
    | ok d δ1 =>
      rw [q] at g1
      intro F' ow' H' v ex w' r
      dsimp only at g1
      cases q2 : gd d δ1 with
      | none => rw [q2] at g1; exact g1.elim
      | some δ2 => rw [q2] at g1; exact ok c F' ow' H' σ δ1 δ2 v d _ hvs w' r q2 fun σ' w2 _ _ => g1 F' ow' H' σ' ex w2
/-- x, y = a, b with plain names -/
def sPar (vs : List Nat) (f : Env → R (List D)) (δ : Env) : SRes := match f δ with
  | .ok ds δ1 => (match tgsN vs ds δ1 with
    | some δ2 => .nx δ2
    | none => .bad)
  | .bad => .bad
theorem ds_par {i j : Nat} {x y : Str} {a b : Expr} {fa : Env → R (List D)} {px py pt : Pos} {kt k2 : Nat} {pt2 : Pos} (hi1 : c.at ≠ some i) (hi2 : c.at ≠ some j) (hc : X.calm = true) (hN : X.N.Nodup) (hi : X.N[i]? = some x) (hj : X.N[j]? = some y) (hij : i ≠ j)
    (hx : X.env.scope.names.lookup x = some .local) (hy : X.env.scope.names.lookup y = some .local) (ha : DA X c [a, b] fa)
    (hw : swappedStores [.Tuple [.Name x px, .Name y py] kt pt] (.Tuple [a, b] k2 pt2) X.env = pure (some [x, y]))
    (hs : swapsWithSole [.Tuple [.Name x px, .Name y py] kt pt] (.Tuple [a, b] k2 pt2) pos.line X.env = pure false := by rfl) :
    DS X c (.Assign [.Tuple [.Name x px, .Name y py] kt pt] (.Tuple [a, b] k2 pt2) pos) (sPar [i, j] fa) :=
  PS.imp (ps_par hc hN hi hj hij hx hy ha hw hs) fun Dn σ H ⟨F, ow, δ, w, g1⟩ => by
    refine ⟨F, ow, δ, w, ?_⟩
    unfold sPar at g1
    cases q : fa δ with
    | bad => rw [q] at g1; exact g1
    | ok d δ1 =>
      rw [q] at g1
      intro F' ow' H' vs ex w' r
      match d, r, g1 with
      | [d1, d2], .cons r1 (.cons r2 .nil), g1 => exact ⟨_, _, rfl, g1 F' ow' H' _ ex ((w'.set r1 (FC.io_ne hi1)).set r2 (FC.io_ne hi2))⟩
      | [], _, g1 => exact g1.elim
      | [_], _, g1 => exact g1.elim
      | _ :: _ :: _ :: _, _, g1 => exact g1.elim
theorem ds_par3 {i j l : Nat} {x y z : Str} {a b d : Expr} {fa : Env → R (List D)} {px py pz pt : Pos} {kt k2 : Nat} {pt2 : Pos} (hi1 : c.at ≠ some i) (hi2 : c.at ≠ some j) (hi3 : c.at ≠ some l) (hc : X.calm = true) (hN : X.N.Nodup) (hi : X.N[i]? = some x) (hj : X.N[j]? = some y) (hl : X.N[l]? = some z) (hij : i ≠ j) (hil : i ≠ l) (hjl : j ≠ l)
    (hx : X.env.scope.names.lookup x = some .local) (hy : X.env.scope.names.lookup y = some .local) (hz : X.env.scope.names.lookup z = some .local) (ha : DA X c [a, b, d] fa)
    (hw : swappedStores [.Tuple [.Name x px, .Name y py, .Name z pz] kt pt] (.Tuple [a, b, d] k2 pt2) X.env = pure (some [x, y, z]))
    (hs : swapsWithSole [.Tuple [.Name x px, .Name y py, .Name z pz] kt pt] (.Tuple [a, b, d] k2 pt2) pos.line X.env = pure false := by rfl) :
    DS X c (.Assign [.Tuple [.Name x px, .Name y py, .Name z pz] kt pt] (.Tuple [a, b, d] k2 pt2) pos) (sPar [i, j, l] fa) :=
  PS.imp (L2.ps_par3 hc hN hi hj hl hij hil hjl hx hy hz ha hw hs) fun Dn σ H ⟨F, ow, δ, w, g1⟩ => by
    refine ⟨F, ow, δ, w, ?_⟩
    unfold sPar at g1
    cases q : fa δ with
    | bad => rw [q] at g1; exact g1
    | ok d δ1 =>
      rw [q] at g1
      intro F' ow' H' vs ex w' r
      match d, r, g1 with
      | [d1, d2, d3], .cons r1 (.cons r2 (.cons r3 .nil)), g1 => exact ⟨_, _, _, rfl, g1 F' ow' H' _ ex (((w'.set r1 (FC.io_ne hi1)).set r2 (FC.io_ne hi2)).set r3 (FC.io_ne hi3))⟩
      | [], _, g1 => exact g1.elim
      | [_], _, g1 => exact g1.elim
      | [_, _], _, g1 => exact g1.elim
      | _ :: _ :: _ :: _ :: _, _, g1 => exact g1.elim

/-! ### what is walked -/
/-- the iterator J gives these items, in any later world -/
structure ItD (K : PySem.W.Frag) (J : It) (F : Addr → Prop) (H : Hp) (items : List D) : Prop where
  go : ∀ F' H' (i : Nat), Ext F H F' H' → i < items.length → J.go i H'
  yld : ∀ F' H' (i : Nat) x H2, Ext F H F' H' → i < items.length → J.yld i H' x H2 → ∃ d, items[i]? = some d ∧ ((H2 = H' ∧ Rep K F' H' x d) ∨ ∃ T o, x = .ref T ∧ H' T = none ∧ H2 = upd H' T o ∧ Rep K (fun a => F' a ∨ a = T) H2 x d)
  stop : ∀ F' H' (i : Nat), Ext F H F' H' → items.length ≤ i → J.stop i H'
def tIt (K : PySem.W.Frag) (c : FC) (f : Env → R (List D)) : TI := fun σ H Rr => ∃ F ow δ, W K c F ow H σ δ ∧ match f δ with
  | .ok items δ' => ∀ F' ow' H' J, Ext F H F' H' → W K c F' ow' H' σ δ' → ItD K J F' H' items → Rr J H'
  | .bad => False
abbrev DI (X : Cx) (c : FC) (tg iter : Expr) (f : Env → R (List D)) : Prop := PI X tg iter (tIt X.K c f)
theorem PI.imp {X : Cx} {tg e : Expr} {t t' : TI} (h : PI X tg e t) (i : ∀ σ H Q, t' σ H Q → t σ H Q) : PI X tg e t' := ⟨fun pins s σ H Q I q => h.run pins s σ H Q I (i σ H Q q)⟩
theorem itd_list {K : PySem.W.Frag} {F : Addr → Prop} {H : Hp} {a : Addr} {vs : List V} {ds : List D} (f : F a) (h : H a = some (.lst vs)) (r : Reps K F H vs ds) : ItD K (Itl K a) F H ds where
  go := fun F' H' i e hi => by
    have hi' : i < vs.length := by rw [r.length]; exact hi
    exact ⟨vs, vs[i], SqL.of (e.kp a _ f h), List.getElem?_eq_getElem hi'⟩
  yld := fun F' H' i x H2 e hi ⟨e2, k⟩ => by
    have q := k vs (SqL.of (e.kp a _ f h))
    obtain ⟨d, hd, rd⟩ := r.getV q
    exact ⟨d, hd, .inl ⟨e2, rd.mono e⟩⟩
  stop := fun F' H' i e hi => ⟨vs, SqL.of (e.kp a _ f h), by rw [r.length]; exact hi⟩
theorem itd_scr {K : PySem.W.Frag} {F : Addr → Prop} {H : Hp} {a : Addr} {ns : List Int} (h : Rep K F H (.ref a) (.scr ns)) : ItD K (Itl K a) F H (ns.map D.int) := by
  have sq : ∀ F' H', Ext F H F' H' → SqL K H' a (ns.map V.int) := fun F' H' e => by
    obtain ⟨a', e1, q⟩ := (h.mono e).scr_inv
    cases e1; exact q
  refine ⟨fun F' H' i e hi => ?_, fun F' H' i x H2 e hi ⟨e2, k⟩ => ?_, fun F' H' i e hi => ⟨_, sq F' H' e, by simpa using hi⟩⟩
  · have hi' : i < (ns.map V.int).length := by simpa using hi
    exact ⟨_, _, sq F' H' e, List.getElem?_eq_getElem hi'⟩
  · have q := k _ (sq F' H' e)
    rw [List.getElem?_map] at q
    cases q2 : ns[i]? with
    | none => rw [q2] at q; cases q
    | some n => rw [q2] at q; cases q; exact ⟨.int n, by rw [List.getElem?_map, q2]; rfl, .inl ⟨e2, .int n⟩⟩
def gLstOf : D → Option (List D)
  | .lst l => some l
  | .scr l => some (l.map D.int)
  | _ => none
/-- over a list -/
def iLst (f : Env → R D) (δ : Env) : R (List D) := (f δ).bind fun x δ1 => match gLstOf x with
  | some l => .ok l δ1
  | none => .bad
theorem di_list {tg : Expr} (h : DE X c e fe) : DI X c tg e (iLst fe) :=
  PI.imp (pi_list h) fun σ H Q ⟨F, ow, δ, w, g1⟩ => by
    refine ⟨F, ow, δ, w, ?_⟩
    unfold iLst at g1
    cases q : fe δ with
    | bad => rw [q] at g1; exact g1
    | ok d δ1 =>
      rw [q, R.bind_ok] at g1
      intro F' ow' H' v ex w' r
      cases d with
      | lst l =>
        obtain ⟨a, vs, rfl, h, f, r1⟩ := r.lst_inv
        exact ⟨a, rfl, ⟨vs, SqL.of h⟩, g1 F' ow' H' _ ex w' (itd_list f h r1)⟩
      | scr l =>
        obtain ⟨a, rfl, h⟩ := r.scr_inv
        exact ⟨a, rfl, ⟨_, h⟩, g1 F' ow' H' _ ex w' (itd_scr r)⟩
      | _ => exact g1.elim
theorem itd_range {K : PySem.W.Frag} {F : Addr → Prop} {H : Hp} {lo : Int} {n : Nat} : ItD K (Itr lo n) F H ((List.range n).map fun (i : Nat) => D.int (lo + (i : Int))) where
  go := fun F' H' i e hi => by show i < n; simpa using hi
  yld := fun F' H' i x H2 e hi ⟨e2, e3⟩ => ⟨.int (lo + i), by rw [List.getElem?_map, List.getElem?_range (by simpa using hi)]; rfl, .inl ⟨e2, by rw [e3]; exact .int _⟩⟩
  stop := fun F' H' i e hi => by show n ≤ i; simpa using hi
def gRange1 : List D → Option (List D)
  | [.int j] => if -4611686018427387904 ≤ j ∧ j < 4611686018427387904 then some ((List.range j.toNat).map fun (i : Nat) => D.int (0 + (i : Int))) else none
  | _ => none
def gRange2 : List D → Option (List D)
  | [.int i, .int j] => if -4611686018427387904 ≤ i ∧ i < 4611686018427387904 ∧ -4611686018427387904 ≤ j ∧ j < 4611686018427387904 then some ((List.range (j - i).toNat).map fun (k : Nat) => D.int (i + (k : Int))) else none
  | _ => none
def iCall (g : List D → Option (List D)) (f : Env → R (List D)) (δ : Env) : R (List D) := (f δ).bind fun xs δ1 => match g xs with
  | some l => .ok l δ1
  | none => .bad
theorem di_range1 {tg a : Expr} {fa : Env → R (List D)} {p : Pos} (hg : Gl X "range") (hm : X.mg "range" = none) (ha : DA X c [a] fa) (hs : starEach [a] X.env = [(false, eval a X.env)] := by rfl) : DI X c tg (.Call (.Name "range" p) [a] [] pos) (iCall gRange1 fa) :=
  PI.imp (pi_range1 hg hm ha hs) fun σ H Q ⟨F, ow, δ, w, g1⟩ => by
    refine ⟨F, ow, δ, w, ?_⟩
    unfold iCall at g1
    cases q : fa δ with
    | bad => rw [q] at g1; exact g1
    | ok d δ1 =>
      rw [q, R.bind_ok] at g1
      intro F' ow' H' v ex w' r
      cases q2 : gRange1 d with
      | none => rw [q2] at g1; exact g1.elim
      | some l =>
        rw [q2] at g1
        unfold gRange1 at q2
        split at q2
        · split at q2
          · rename_i hz; cases q2
            cases r with | cons a b => cases a; cases b; exact ⟨_, rfl, by omega, by omega, g1 F' ow' H' _ ex w' itd_range⟩
          · cases q2
        · cases q2
theorem di_range2 {tg a b : Expr} {fa : Env → R (List D)} {p : Pos} (hg : Gl X "range") (hm : X.mg "range" = none) (ha : DA X c [a, b] fa) (hs : starEach [a, b] X.env = [(false, eval a X.env), (false, eval b X.env)] := by rfl) (hs2 : starEach [b] X.env = [(false, eval b X.env)] := by rfl) :
    DI X c tg (.Call (.Name "range" p) [a, b] [] pos) (iCall gRange2 fa) :=
  PI.imp (pi_range2 hg hm ha hs hs2) fun σ H Q ⟨F, ow, δ, w, g1⟩ => by
    refine ⟨F, ow, δ, w, ?_⟩
    unfold iCall at g1
    cases q : fa δ with
    | bad => rw [q] at g1; exact g1
    | ok d δ1 =>
      rw [q, R.bind_ok] at g1
      intro F' ow' H' v ex w' r
      cases q2 : gRange2 d with
      | none => rw [q2] at g1; exact g1.elim
      | some l =>
        rw [q2] at g1
        unfold gRange2 at q2
        split at q2
        · split at q2
          · rename_i hz; cases q2
            cases r with | cons a b => cases a; cases b with | cons a b => cases a; cases b; exact ⟨_, _, rfl, by omega, g1 F' ow' H' _ ex w' itd_range⟩
          · cases q2
        · cases q2
/-! ### for -/
def forD (g : D → Env → Option Env) (b : Env → SRes) : List D → Env → SRes
  | [], δ => .nx δ
  | d :: ds, δ => match g d δ with
    | none => .bad
    | some δ1 => match b δ1 with
      | .nx δ2 => forD g b ds δ2
      | .ct δ2 => forD g b ds δ2
      | .bk δ2 => .nx δ2
      | .rt x δ2 => .rt x δ2
      | .bad => .bad
def sFor (f : Env → R (List D)) (g : D → Env → Option Env) (b : Env → SRes) (δ : Env) : SRes := match f δ with
  | .ok items δ1 => forD g b items δ1
  | .bad => .bad
theorem ds_for {tg iter : Expr} {body : List Stmt} {gT : TG} {gd : D → Env → Option Env} {vs : List Nat} {fi : Env → R (List D)} {b : Env → SRes} (hp : PassesOwn (model X.prog X.w) X.A X.env X.xe) (hc : X.calm = true) (hvs : ∀ i ∈ vs, c.at ≠ some i) (hi : DI X c tg iter fi) (hg : PG X tg gT) (ok : TgOk X.K gT gd vs) (hb : DSs X c body b) (hs : ∀ x, foldedSetIterable iter X.env x = pure x := by intro _; rfl) :
    DS X c (.For tg iter body [] pos) (sFor fi gd b) :=
  PS.imp (ps_for hp hc hi hg hb hs) fun Dn σ H ⟨F, ow, δ, w, g1⟩ => by
    refine ⟨F, ow, δ, w, ?_⟩
    unfold sFor at g1
    cases q : fi δ with
    | bad => rw [q] at g1; exact g1
    | ok items δ1 =>
      rw [q] at g1
      intro F1 ow1 H1 J e1 w1 it
      refine ⟨fun i m σ' H' => m + i = items.length ∧ ∃ F' ow' δ', Ext F1 H1 F' H' ∧ W X.K c F' ow' H' σ' δ' ∧ GoS X.K c F' H' (forD gd b (items.drop i) δ') Dn, ⟨items.length, rfl, F1, ow1, δ1, Ext.refl _ _, w1, GoS.mono e1 g1⟩, ?_⟩
      rintro i m σ2 H2 ⟨hm, F2, ow2, δ2, e2, w2, g2⟩
      rcases Nat.lt_or_ge i items.length with hlt | hge
      · refine .inr ⟨it.go F2 H2 i e2 hlt, fun σ' H' => ∃ F' ow' δ', Ext F1 H1 F' H' ∧ W X.K c F' ow' H' σ' δ' ∧ GoS X.K c F' H' (forD gd b (items.drop (i + 1)) δ') Dn, fun σ' H' hN => ⟨m - 1, by omega, by omega, hN⟩, fun x H3 hy => ?_⟩
        obtain ⟨d, hd, hx⟩ := it.yld F2 H2 i x H3 e2 hlt hy
        have hdrop : items.drop i = d :: items.drop (i + 1) := by
          have h1 := (List.getElem?_eq_some_iff.mp hd)
          rw [← h1.2]; exact List.drop_eq_getElem_cons h1.1
        rw [hdrop] at g2
        obtain ⟨F3, e3, w3, r3⟩ : ∃ F3, Ext F2 H2 F3 H3 ∧ W X.K c F3 ow2 H3 σ2 δ2 ∧ Rep X.K F3 H3 x d := by
          rcases hx with ⟨rfl, r⟩ | ⟨T, o, rfl, hT, rfl, r⟩
          · exact ⟨F2, Ext.refl _ _, w2, r⟩
          · exact ⟨_, Ext.new w2 hT, w2.new hT, r⟩
        unfold forD at g2
        cases q3 : gd d δ2 with
        | none => rw [q3] at g2; exact g2.elim
        | some δ3 =>
          rw [q3] at g2
          dsimp only at g2
          refine ok c F3 ow2 H3 σ2 δ2 δ3 x d _ hvs w3 r3 q3 fun σ4 w4 _ _ => ⟨F3, ow2, δ3, w4, ?_⟩
          cases q4 : b δ3 with
          | nx δ4 => rw [q4] at g2; exact fun F5 ow5 H5 σ5 e5 w5 => ⟨F5, ow5, δ4, e2.trans (e3.trans e5), w5, GoS.mono (e3.trans e5) g2⟩
          | ct δ4 => rw [q4] at g2; exact fun F5 ow5 H5 σ5 e5 w5 => ⟨F5, ow5, δ4, e2.trans (e3.trans e5), w5, GoS.mono (e3.trans e5) g2⟩
          | bk δ4 => rw [q4] at g2; exact fun F5 ow5 H5 σ5 e5 w5 => g2 F5 ow5 H5 σ5 (e3.trans e5) w5
          | rt y δ4 => rw [q4] at g2; exact fun F5 ow5 H5 σ5 v e5 w5 r5 => g2 F5 ow5 H5 σ5 v (e3.trans e5) w5 r5
          | bad => rw [q4] at g2; exact g2.elim
      · refine .inl ⟨it.stop F2 H2 i e2 hge, ?_⟩
        rw [List.drop_eq_nil_of_le hge] at g2
        exact g2 F2 ow2 H2 σ2 (Ext.refl _ _) w2

/-! ### while -/
def whileN (t : Env → R Bool) (b : Env → SRes) : Nat → Env → SRes
  | 0, _ => .bad
  | n + 1, δ => match t δ with
    | .ok true δ1 => (match b δ1 with
      | .nx δ2 => whileN t b n δ2
      | .ct δ2 => whileN t b n δ2
      | .bk δ2 => .nx δ2
      | .rt x δ2 => .rt x δ2
      | .bad => .bad)
    | .ok false δ1 => .nx δ1
    | .bad => .bad
open Classical in
noncomputable def sWhile (t : Env → R Bool) (b : Env → SRes) (δ : Env) : SRes := if h : ∃ n, whileN t b n δ ≠ .bad then whileN t b (Classical.choose h) δ else .bad
theorem whileN_mono {t : Env → R Bool} {b : Env → SRes} : ∀ (n m : Nat) (δ : Env), whileN t b n δ ≠ .bad → n ≤ m → whileN t b m δ = whileN t b n δ := by
  intro n
  induction n with
  | zero => intro m δ h; exact absurd rfl h
  | succ n ih =>
    intro m δ h hm
    obtain ⟨m, rfl⟩ : ∃ k, m = k + 1 := ⟨m - 1, by omega⟩
    unfold whileN at h ⊢
    cases q : t δ with
    | bad => rfl
    | ok x δ1 =>
      rw [q] at h
      cases x with
      | false => rfl
      | true =>
        dsimp only at h ⊢
        cases q2 : b δ1 with
        | nx δ2 => rw [q2] at h; exact ih m δ2 h (by omega)
        | ct δ2 => rw [q2] at h; exact ih m δ2 h (by omega)
        | _ => rfl
theorem sWhile_eq {t : Env → R Bool} {b : Env → SRes} {δ : Env} {r : SRes} (n : Nat) (h : whileN t b n δ = r) (hr : r ≠ .bad) : sWhile t b δ = r := by
  have ex : ∃ n, whileN t b n δ ≠ .bad := ⟨n, by rw [h]; exact hr⟩
  unfold sWhile
  rw [dif_pos ex]
  have hc := Classical.choose_spec ex
  rcases Nat.le_total n (Classical.choose ex) with z | z
  · rw [whileN_mono n _ δ (by rw [h]; exact hr) z, h]
  · rw [← whileN_mono _ n δ hc z, h]
theorem ds_while {t : Env → R Bool} {body : List Stmt} {b : Env → SRes} (hp : PassesOwn (model X.prog X.w) X.A X.env X.xe) (ht : DT X c e t) (hb : DSs X c body b) : DS X c (.While e body [] pos) (sWhile t b) :=
  PS.imp (ps_while hp ht hb) fun Dn σ H ⟨F, ow, δ, w, g1⟩ => by
    refine ⟨fun n σ' H' => ∃ F' ow' δ', W X.K c F' ow' H' σ' δ' ∧ GoS X.K c F' H' (whileN t b n δ') Dn, ?_, ?_⟩
    · unfold sWhile at g1
      split at g1
      · rename_i h
        exact ⟨_, F, ow, δ, w, g1⟩
      · exact g1.elim
    · rintro n σ1 H1 ⟨F1, ow1, δ1, w1, g2⟩
      cases n with
      | zero => exact g2.elim
      | succ n =>
        refine ⟨F1, ow1, δ1, w1, ?_⟩
        unfold whileN at g2
        cases q : t δ1 with
        | bad => rw [q] at g2; exact g2
        | ok x δ2 =>
          rw [q] at g2
          intro F3 ow3 H3 y e3 w3 r3
          subst r3
          cases y with
          | false => rw [if_neg Bool.false_ne_true]; exact g2 F3 ow3 H3 σ1 e3 w3
          | true =>
            rw [if_pos rfl]
            dsimp only at g2
            refine ⟨fun σ' H' => ∃ F' ow' δ', W X.K c F' ow' H' σ' δ' ∧ GoS X.K c F' H' (whileN t b n δ') Dn, fun σ' H' h => ⟨n, Nat.lt_succ_self n, h⟩, F3, ow3, δ2, w3, ?_⟩
            cases q4 : b δ2 with
            | nx δ4 => rw [q4] at g2; exact fun F5 ow5 H5 σ5 e5 w5 => ⟨F5, ow5, δ4, w5, GoS.mono (e3.trans e5) g2⟩
            | ct δ4 => rw [q4] at g2; exact fun F5 ow5 H5 σ5 e5 w5 => ⟨F5, ow5, δ4, w5, GoS.mono (e3.trans e5) g2⟩
            | bk δ4 => rw [q4] at g2; exact fun F5 ow5 H5 σ5 e5 w5 => g2 F5 ow5 H5 σ5 (e3.trans e5) w5
            | rt y δ4 => rw [q4] at g2; exact fun F5 ow5 H5 σ5 v e5 w5 r5 => g2 F5 ow5 H5 σ5 v (e3.trans e5) w5 r5
            | bad => rw [q4] at g2; exact g2.elim
end
end PV

namespace PV
open PySem PySem.Spec PyProof.Rows L2

/-! ## comprehensions -/
def wipeE (δ : Env) : List Nat → Env
  | [] => δ
  | v :: vs => (wipeE δ vs).set v .emp
def restE (δ0 δ : Env) : List Nat → Env
  | [] => δ
  | v :: vs => (restE δ0 δ vs).set v (match δ0[v]? with
    | some (.p d) => .p d
    | _ => .emp)
section
variable {K : PySem.W.Frag} {c c' : FC} {F F' : Addr → Prop} {ow ow' : Addr → Option Nat} {H H' : Hp} {σ : L2.St} {δ : Env}
theorem W.setE (w : W K c F ow H σ δ) (i : Nat) (o : Option V) (hio : c.at ≠ some i) : W K c F ow H (σ.set i o) (δ.set i .emp) where
  len := by simp [w.len]
  sl := fun j s e => by
    by_cases hj : i = j
    · subst hj
      rw [List.getElem?_set] at e
      simp at e
      exact .inl e.2.symm
    · rw [List.getElem?_set_ne hj] at e
      rw [List.getElem?_set_ne hj]
      exact w.sl j s e
  df := w.df
  ft := w.ft
  kp := w.kp
  io := fun j a e => by
    rw [List.getElem?_set_ne (fun z => by subst z; exact FC.io_ne hio a e)]
    exact w.io j a e
theorem W.wipe (w : W K c F ow H σ δ) : ∀ (vs : List Nat), (∀ v ∈ vs, c.at ≠ some v) → W K c F ow H (L2.wipe σ vs) (wipeE δ vs)
  | [], _ => w
  | v :: vs, h => (W.wipe w vs fun x hx => h x (List.mem_cons_of_mem _ hx)).setE v none (h v List.mem_cons_self)
structure FC.Sub (c' c : FC) : Prop where
  f0 : ∀ a, c'.F0 a → c.F0 a ∨ c.fp0 a ∨ c.H0 a = none
  p0 : ∀ a, c'.fp0 a → c.fp0 a ∨ c.H0 a = none
  n0 : ∀ a, c'.H0 a = none → c.fp0 a ∨ c.H0 a = none
  k0 : ∀ a o, c.H0 a = some o → ¬ c.fp0 a → c'.H0 a = some o ∧ ¬ c'.fp0 a
theorem W.toC (w : W K c' F ow H σ δ) (s : FC.Sub c' c) (hio : ∀ j a, c.io = some (j, a) → σ[j]? = some (some a)) : W K c F ow H σ δ where
  len := w.len
  sl := w.sl
  df := fun a i e => ⟨(w.df a i e).1, (w.df a i e).2.1, (w.df a i e).2.2.elim (s.p0 a) (s.n0 a)⟩
  ft := fun a f => ⟨(w.ft a f).1, (w.ft a f).2.elim (s.f0 a) fun q => .inr (q.elim (s.p0 a) (s.n0 a))⟩
  kp := fun a o e z => w.kp a o (s.k0 a o e z).1 (s.k0 a o e z).2
  io := hio
/-- a ground within: all that is owned may be written, but not D -/
theorem W.sub (w : W K c F ow H σ δ) (p : Addr) : FC.Sub ⟨F, H, fun a => ow a ≠ none ∧ a ≠ p, none⟩ c where
  f0 := fun a f => (w.ft a f).2
  p0 := fun a ⟨q, _⟩ => by
    cases e : ow a with
    | none => exact absurd e q
    | some i => exact (w.df a i e).2.2
  n0 := fun a e => (w.fresh e).2.2
  k0 := fun a o e z => ⟨w.kp a o e z, fun ⟨q, _⟩ => by
    cases e2 : ow a with
    | none => exact q e2
    | some i => exact (w.df a i e2).2.2.elim z fun n => by rw [n] at e; cases e⟩
theorem W.inner (w : W K c F ow H σ δ) {p : Addr} (hp : ow p = none) : W K ⟨F, H, fun a => ow a ≠ none ∧ a ≠ p, none⟩ F ow H σ δ where
  len := w.len
  sl := w.sl
  df := fun a i e => ⟨(w.df a i e).1, (w.df a i e).2.1, .inl ⟨by rw [e]; simp, fun z => by subst z; rw [hp] at e; cases e⟩⟩
  ft := fun a f => ⟨(w.ft a f).1, .inl f⟩
  kp := fun a o e _ => e
  io := fun _ _ e => by cases e
theorem W.updOut (w : W K c F ow H σ δ) {p : Addr} {o : HO} (f : ¬ F p) (h : ow p = none) (n : c.fp0 p ∨ c.H0 p = none) : W K c F ow (upd H p o) σ δ where
  len := w.len
  sl := fun i s e => (w.sl i s e).imp id fun ⟨v, q, r⟩ => ⟨v, q, r.mono ⟨fun _ z => z, fun a u g e => by rw [upd_ne (fun z => by subst z; exact f g)]; exact e⟩ fun a z => ⟨z, upd_ne fun z' => by subst z'; rw [h] at z; cases z⟩⟩
  df := fun a i e => ⟨(w.df a i e).1, by rw [upd_ne (fun z => by subst z; rw [h] at e; cases e)]; exact (w.df a i e).2.1, (w.df a i e).2.2⟩
  ft := fun a g => ⟨by rw [upd_ne (fun z => by subst z; exact f g)]; exact (w.ft a g).1, (w.ft a g).2⟩
  kp := fun a u e z => by
    rw [upd_ne (fun q => by subst q; exact n.elim z fun m => by rw [m] at e; cases e)]
    exact w.kp a u e z
  io := w.io
theorem Ext.updOut {p : Addr} {o : HO} (f : ¬ F p) : Ext F H F (upd H p o) := ⟨fun _ z => z, fun a u g e => by rw [upd_ne (fun z => by subst z; exact f g)]; exact e⟩
theorem W.freeze (w : W K c F ow H σ δ) {p : Addr} (h : ow p = none) (hp : H p ≠ none) (n : c.fp0 p ∨ c.H0 p = none) : W K c (fun a => F a ∨ a = p) ow H σ δ where
  len := w.len
  sl := fun i s e => (w.sl i s e).imp id fun ⟨v, q, r⟩ => ⟨v, q, r.mono ⟨fun _ z => .inl z, fun _ _ _ e => e⟩ fun a z => ⟨z, rfl⟩⟩
  df := fun a i e => ⟨fun g => g.elim (w.df a i e).1 fun z => by (subst z; rw [h] at e; cases e), (w.df a i e).2⟩
  ft := fun a g => g.elim (w.ft a) fun z => by subst z; exact ⟨hp, .inr n⟩
  kp := w.kp
  io := w.io
theorem wipe_get {σ : L2.St} {i : Nat} : ∀ {vs : List Nat}, i ∉ vs → (L2.wipe σ vs)[i]? = σ[i]?
  | [], _ => rfl
  | v :: vs, h => by
    show ((L2.wipe σ vs).set v none)[i]? = σ[i]?
    rw [List.getElem?_set_ne (fun z => h (by simp [z]))]
    exact wipe_get fun z => h (List.mem_cons_of_mem _ z)
theorem wipe_in {σ : L2.St} {i : Nat} (hl : i < σ.length) : ∀ {vs : List Nat}, i ∈ vs → (L2.wipe σ vs)[i]? = some none
  | v :: vs, h => by
    show ((L2.wipe σ vs).set v none)[i]? = some none
    by_cases e : v = i
    · subst e; exact List.getElem?_set_self (by rw [wipe_length]; exact hl)
    · rw [List.getElem?_set_ne e]
      exact wipe_in hl ((List.mem_cons.mp h).resolve_left fun z => e z.symm)
theorem wipe_ext {σ σ2 : L2.St} {vs : List Nat} (hl : σ2.length = σ.length) (h : ∀ i, i ∉ vs → σ2[i]? = σ[i]?) : L2.wipe σ2 vs = L2.wipe σ vs := by
  apply List.ext_getElem?
  intro i
  by_cases hi : i ∈ vs
  · rcases Nat.lt_or_ge i σ.length with z | z
    · rw [wipe_in z hi, wipe_in (by rw [hl]; exact z) hi]
    · have z2 : σ2.length ≤ i := by omega
      rw [List.getElem?_eq_none (by rw [wipe_length]; exact z2), List.getElem?_eq_none (by rw [wipe_length]; exact z)]
  · rw [wipe_get hi, wipe_get hi, h i hi]
theorem wipe_wipe {σ : L2.St} {vs : List Nat} : L2.wipe (L2.wipe σ vs) vs = L2.wipe σ vs := wipe_ext (wipe_length _ _) fun i hi => wipe_get hi
/-- back from the block: its own names are as they were -/
theorem W.rest {F1 : Addr → Prop} {ow1 : Addr → Option Nat} {H1 : Hp} {δ1 δ2 : Env} {vs : List Nat} (w1 : W K c F1 ow1 H1 σ δ1) (e : Ext F1 H1 F H) (w2 : W K c F ow H (L2.wipe σ vs) δ2) (hl : δ2.length = δ1.length) : W K c F ow H σ (restE δ1 δ2 vs) := by
  have hlen : ∀ us : List Nat, (restE δ1 δ2 us).length = δ2.length := fun us => by
    induction us with
    | nil => rfl
    | cons v us ih => simp [restE, ih]
  have out : ∀ (us : List Nat) (i : Nat), i ∉ us → (restE δ1 δ2 us)[i]? = δ2[i]? := fun us => by
    induction us with
    | nil => intro i _; rfl
    | cons v us ih =>
      intro i h
      unfold restE
      rw [List.getElem?_set_ne (fun z => h (by simp [z]))]
      exact ih i fun z => h (List.mem_cons_of_mem _ z)
  have ins : ∀ (us : List Nat) (i : Nat) (s : Sl), i ∈ us → (restE δ1 δ2 us)[i]? = some s → s = .emp ∨ ∃ d, s = .p d ∧ δ1[i]? = some (.p d) := fun us => by
    induction us with
    | nil => intro i s h; cases h
    | cons v us ih =>
      intro i s h q
      unfold restE at q
      by_cases e : v = i
      · subst e
        rw [List.getElem?_set] at q
        simp only [if_true] at q
        split at q
        · cases q
          split
          · rename_i d h2; exact .inr ⟨d, rfl, h2⟩
          · exact .inl rfl
        · cases q
      · rw [List.getElem?_set_ne e] at q
        exact ih i s ((List.mem_cons.mp h).resolve_left fun z => e z.symm) q
  refine ⟨by rw [hlen, hl]; exact w1.len, fun i s q => ?_, w2.df, w2.ft, w2.kp, w1.io⟩
  by_cases hi : i ∈ vs
  · rcases ins vs i s hi q with z | ⟨d, rfl, q2⟩
    · exact .inl z
    · obtain ⟨v, hv, r⟩ := w1.pur q2
      exact .inr ⟨v, hv, .p (r.mono e)⟩
  · rw [out vs i hi] at q
    rcases w2.sl i s q with z | ⟨v, hv, r⟩
    · exact .inl z
    · rw [wipe_get hi] at hv; exact .inr ⟨v, hv, r⟩
end
abbrev DTs (X : Cx) (c : FC) (ifs : List Expr) (f : Env → R Bool) : Prop := PTs X ifs (tBn X.K c f)
def bYes (δ : Env) : R Bool := .ok true δ
theorem PTs.imp {X : Cx} {e : List Expr} {t t' : TT} (h : PTs X e t) (i : ∀ σ H Q, t' σ H Q → t σ H Q) : PTs X e t' := ⟨fun pins s σ H Q I q => h.run pins s σ H Q I (i σ H Q q)⟩
theorem dts_nil {X : Cx} {c : FC} : DTs X c [] bYes := PTs.imp pts_nil fun σ H Q ⟨F, ow, δ, w, g1⟩ => g1 F ow H true (Ext.refl _ _) w rfl
theorem dts_one {X : Cx} {c : FC} {e : Expr} {f : Env → R Bool} (h : DT X c e f) : DTs X c [e] f := pts_one h
def lcLoop (g : D → Env → Option Env) (t : Env → R Bool) (e : Env → R D) (vs : List Nat) : List D → Env → R (List D)
  | [], δ => .ok [] δ
  | d :: ds, δ => match g d (wipeE δ vs) with
    | none => .bad
    | some δ1 => (t δ1).bind fun b δ2 => if b = true then (e δ2).bind fun y δ3 => (lcLoop g t e vs ds (wipeE δ3 vs)).bind fun ys δ4 => .ok (y :: ys) δ4 else lcLoop g t e vs ds (wipeE δ2 vs)
def dLc (f : Env → R (List D)) (g : D → Env → Option Env) (t : Env → R Bool) (e : Env → R D) (vs : List Nat) (δ : Env) : R D := (f δ).bind fun items δ1 => (lcLoop g t e vs items (wipeE δ1 vs)).bind fun ys δ2 =>
  if ys.length ≤ 16000000 ∧ δ2.length = δ1.length then .ok (.lst ys) (restE δ1 δ2 vs) else .bad
/-- the core of a comprehension, by its reading -/
theorem lc_imp {X : Cx} {c : FC} {fi : Env → R (List D)} {gT : TG} {gd : D → Env → Option Env} {ft : Env → R Bool} {fe : Env → R D} {vs : List Nat} (hvs : ∀ i ∈ vs, c.at ≠ some i) (ok : TgOk X.K gT gd vs) (σ : L2.St) (H : Hp) (Q : VK) (h : tD X.K c (dLc fi gd ft fe vs) σ H Q) :
    tLc (tIt X.K c fi) gT (fun σ H Q => ∃ c', c'.at = none ∧ tBn X.K c' ft σ H Q) (fun σ H Q => ∃ c', c'.at = none ∧ tD X.K c' fe σ H Q) vs σ H Q := by
  obtain ⟨F, ow, δ, w, g1⟩ := h
  refine ⟨F, ow, δ, w, ?_⟩
  unfold dLc at g1
  cases q : fi δ with
  | bad => rw [q] at g1; exact g1
  | ok items δ1 =>
    rw [q, R.bind_ok] at g1
    cases q2 : lcLoop gd ft fe vs items (wipeE δ1 vs) with
    | bad => rw [q2] at g1; exact g1.elim
    | ok ys δ2 =>
      rw [q2, R.bind_ok] at g1
      split at g1
      · rename_i hz
        intro F1 ow1 H1 J e1 w1 it Dn hD
        obtain ⟨f1, f2, f3⟩ := w1.fresh hD
        refine ⟨fun i m H' => m + i = items.length ∧ ∃ F' ow' δ' accv acc rest, Ext F1 H1 F' H' ∧ W X.K c F' ow' H' (L2.wipe σ vs) δ' ∧ ¬ F' Dn ∧ ow' Dn = none ∧ H' Dn = some (.lst accv) ∧ Reps X.K F' H' accv acc ∧
          lcLoop gd ft fe vs (items.drop i) δ' = .ok rest δ2 ∧ acc ++ rest = ys, ⟨items.length, rfl, F1, ow1, wipeE δ1 vs, [], [], ys, Ext.updOut f2, (w1.updOut f2 f1 f3).wipe vs hvs, f2, f1, upd_same, .nil, q2, rfl⟩, ?_⟩
        rintro i m H2 ⟨hm, F2, ow2, δ3, accv, acc, rest, e2, w2, nf, no, hDn, rac, hl, hys⟩
        have nD : c.fp0 Dn ∨ c.H0 Dn = none := f3
        rcases Nat.lt_or_ge i items.length with hlt | hge
        · refine .inr ⟨it.go F2 H2 i e2 hlt, fun H' => ∃ F' ow' δ' accv acc rest, Ext F1 H1 F' H' ∧ W X.K c F' ow' H' (L2.wipe σ vs) δ' ∧ ¬ F' Dn ∧ ow' Dn = none ∧ H' Dn = some (.lst accv) ∧ Reps X.K F' H' accv acc ∧
            lcLoop gd ft fe vs (items.drop (i + 1)) δ' = .ok rest δ2 ∧ acc ++ rest = ys, fun H' hN => ⟨m - 1, by omega, by omega, hN⟩, fun x H3 hy => ?_⟩
          obtain ⟨d, hd, hx⟩ := it.yld F2 H2 i x H3 e2 hlt hy
          have hdrop : items.drop i = d :: items.drop (i + 1) := by
            have h1 := (List.getElem?_eq_some_iff.mp hd)
            rw [← h1.2]; exact List.drop_eq_getElem_cons h1.1
          rw [hdrop] at hl
          unfold lcLoop at hl
          have wi := w2.inner (p := Dn) no
          obtain ⟨F3, e3, w3, r3⟩ : ∃ F3, Ext F2 H2 F3 H3 ∧ W X.K ⟨F2, H2, fun a => ow2 a ≠ none ∧ a ≠ Dn, none⟩ F3 ow2 H3 (L2.wipe σ vs) δ3 ∧ Rep X.K F3 H3 x d := by
            rcases hx with ⟨rfl, r⟩ | ⟨T, o, rfl, hT, rfl, r⟩
            · exact ⟨F2, Ext.refl _ _, wi, r⟩
            · exact ⟨_, Ext.new wi hT, wi.new hT, r⟩
          have w3' := w3.wipe vs fun v _ => by show (none : Option Nat) ≠ some v; simp
          rw [wipe_wipe] at w3'
          cases q3 : gd d (wipeE δ3 vs) with
          | none => rw [q3] at hl; cases hl
          | some δ4 =>
            rw [q3] at hl
            dsimp only at hl
            refine ok _ F3 ow2 H3 (L2.wipe σ vs) (wipeE δ3 vs) δ4 x d _ (fun v _ => by show (none : Option Nat) ≠ some v; simp) w3' r3 q3 fun σ4 w4 l4 n4 => ?_
            have hw4 : L2.wipe σ4 vs = L2.wipe σ vs := (wipe_ext l4 n4).trans wipe_wipe
            refine ⟨hw4, _, rfl, F3, ow2, δ4, w4, ?_⟩
            cases q4 : ft δ4 with
            | bad => rw [q4] at hl; cases hl
            | ok b δ5 =>
              rw [q4, R.bind_ok] at hl
              intro F5 ow5 H5 b' e5 w5 rb
              subst rb
              have kD : ∀ {F' ow' H' σ' δ'}, W X.K ⟨F2, H2, fun a => ow2 a ≠ none ∧ a ≠ Dn, none⟩ F' ow' H' σ' δ' → H' Dn = some (.lst accv) ∧ ¬ F' Dn ∧ ow' Dn = none := fun {F' ow' H' σ' δ'} w' => by
                refine ⟨w'.kp Dn _ hDn fun z => z.2 rfl, fun f => ?_, ?_⟩
                · rcases (w'.ft Dn f).2 with z | z | z
                  · exact nf z
                  · exact z.2 rfl
                  · rw [show H2 Dn = none from z] at hDn; cases hDn
                · cases q : ow' Dn with
                  | none => rfl
                  | some k =>
                    rcases (w'.df Dn k q).2.2 with z | z
                    · exact absurd rfl z.2
                    · rw [show H2 Dn = none from z] at hDn; cases hDn
              have back : ∀ {F' ow' H' δ'}, W X.K ⟨F2, H2, fun a => ow2 a ≠ none ∧ a ≠ Dn, none⟩ F' ow' H' σ4 δ' → W X.K c F' ow' H' (L2.wipe σ vs) (wipeE δ' vs) := fun {F' ow' H' δ'} w' => by
                have w6 := w'.wipe vs fun v _ => by show (none : Option Nat) ≠ some v; simp
                rw [hw4] at w6
                exact w6.toC (w2.sub Dn) w2.io
              cases b' with
              | false =>
                rw [if_neg Bool.false_ne_true] at hl ⊢
                obtain ⟨k1, k2, k3⟩ := kD w5
                exact ⟨F5, ow5, wipeE δ5 vs, accv, acc, rest, e2.trans (e3.trans e5), back w5, k2, k3, k1, rac.mono (e3.trans e5), hl, hys⟩
              | true =>
                rw [if_pos rfl] at hl ⊢
                refine ⟨_, rfl, F5, ow5, δ5, w5, ?_⟩
                cases q6 : fe δ5 with
                | bad => rw [q6] at hl; cases hl
                | ok y δ6 =>
                  rw [q6, R.bind_ok] at hl
                  cases q7 : lcLoop gd ft fe vs (items.drop (i + 1)) (wipeE δ6 vs) with
                  | bad => rw [q7] at hl; cases hl
                  | ok rest' δ7 =>
                    rw [q7, R.bind_ok] at hl
                    obtain ⟨hr1, hr2⟩ : y :: rest' = rest ∧ δ7 = δ2 := by injection hl with a b; exact ⟨a, b⟩
                    intro F6 ow6 H6 yv e6 w6 ry
                    obtain ⟨k1, k2, k3⟩ := kD w6
                    have ln := rac.length
                    have := line16
                    have hlen : acc.length + (rest'.length + 1) ≤ 16000000 := by
                      have h1 := hz.1
                      rw [← hys, ← hr1, List.length_append, List.length_cons] at h1
                      exact h1
                    have eu := (Ext.updOut (F := F6) (H := H6) (o := HO.lst (accv ++ [yv])) k2)
                    exact ⟨accv, k1, by omega, F6, ow6, wipeE δ6 vs, accv ++ [yv], acc ++ [y], rest', e2.trans (e3.trans (e5.trans (e6.trans eu))), (back w6).updOut k2 k3 nD, k2, k3, upd_same,
                      (rac.mono (e3.trans (e5.trans (e6.trans eu)))).append (.cons (ry.mono eu) .nil), by rw [q7, hr2], by rw [List.append_assoc]; show acc ++ (y :: rest') = ys; rw [hr1]; exact hys⟩
        · refine .inl ⟨it.stop F2 H2 i e2 hge, ?_⟩
          rw [List.drop_eq_nil_of_le hge] at hl
          obtain ⟨h1, h2⟩ : ([] : List D) = rest ∧ δ3 = δ2 := by unfold lcLoop at hl; injection hl with a b; exact ⟨a, b⟩
          subst h1; subst h2
          rw [List.append_nil] at hys
          subst hys
          have w9 := (w1.rest e2 w2 hz.2).freeze no (by rw [hDn]; simp) nD
          have ef : Ext F2 H2 (fun a => F2 a ∨ a = Dn) H2 := ⟨fun _ z => .inl z, fun _ _ _ z => z⟩
          exact g1 _ ow2 H2 (.ref Dn) (e1.trans (e2.trans ef)) w9 (.lst (.inr rfl) hDn (rac.mono ef))
      · exact g1.elim
theorem de_lc {X : Cx} {c : FC} {elt tg iter : Expr} {ifs : List Expr} {scope : Scope} {own : List (Str × Nat)} {pos : Pos} {fi : Env → R (List D)} {gT : TG} {gd : D → Env → Option Env} {ft : Env → R Bool} {fe : Env → R D} (hc : X.calm = true) (hN : X.N.Nodup)
    (hvs : ∀ i ∈ own.map (·.2), c.at ≠ some i) (hi : DI X c tg iter fi) (ok : BlkOk X.N X.env.scope scope own)
    (hg : ∀ (s : Shared) (H : Hp) (C : Addr) (cl : List (Str × Addr)) (fp : List Addr), PG (X.blk s H scope (compEnvC scope cl C X.env) fp) tg gT) (tok : TgOk X.K gT gd (own.map (·.2)))
    (ht : ∀ (c' : FC) (s : Shared) (H : Hp) (C : Addr) (cl : List (Str × Addr)) (fp : List Addr), c'.at = none → DTs (X.blk s H scope (compEnvC scope cl C X.env) fp) c' ifs ft)
    (he : ∀ (c' : FC) (s : Shared) (H : Hp) (C : Addr) (cl : List (Str × Addr)) (fp : List Addr), c'.at = none → DE (X.blk s H scope (compEnvC scope cl C X.env) fp) c' elt fe) (hs : ∀ x, foldedSetIterable iter X.env x = pure x := by intro _; rfl) :
    DE X c (.ListComp elt [⟨tg, iter, ifs, 0⟩] scope pos) (dLc fi gd ft fe (own.map (·.2))) :=
  PE.imp (pe_lc hc hN hi ok hg (fun s H C cl fp => ⟨fun pins s' σ H' Q I ⟨c', h1, h2⟩ => (ht c' s H C cl fp h1).run pins s' σ H' Q I h2⟩)
    (fun s H C cl fp => ⟨fun pins s' σ H' Q I ⟨c', h1, h2⟩ => (he c' s H C cl fp h1).run pins s' σ H' Q I h2⟩) hs) (lc_imp hvs tok)
/-- y = [..] on one line -/
theorem ds_setLc {X : Cx} {c : FC} {i : Nat} {y : Str} {py : Pos} {elt tg iter : Expr} {ifs : List Expr} {scope : Scope} {own : List (Str × Nat)} {pos spos : Pos} {fi : Env → R (List D)} {gT : TG} {gd : D → Env → Option Env} {ft : Env → R Bool} {fe : Env → R D} (hc : X.calm = true) (hN : X.N.Nodup)
    (hy : X.N[i]? = some y) (hyl : X.env.scope.names.lookup y = some .local) (hic : c.at ≠ some i)
    (hsw : swapsWith (.ListComp elt [⟨tg, iter, ifs, 0⟩] scope pos) (some (.Name y py)) spos.line X.env = pure true)
    (hvs : ∀ i ∈ own.map (·.2), c.at ≠ some i) (hi : DI X c tg iter fi) (ok : BlkOk X.N X.env.scope scope own)
    (hg : ∀ (s : Shared) (H : Hp) (C : Addr) (cl : List (Str × Addr)) (fp : List Addr), PG (X.blk s H scope (compEnvC scope cl C X.env) fp) tg gT) (tok : TgOk X.K gT gd (own.map (·.2)))
    (ht : ∀ (c' : FC) (s : Shared) (H : Hp) (C : Addr) (cl : List (Str × Addr)) (fp : List Addr), c'.at = none → DTs (X.blk s H scope (compEnvC scope cl C X.env) fp) c' ifs ft)
    (he : ∀ (c' : FC) (s : Shared) (H : Hp) (C : Addr) (cl : List (Str × Addr)) (fp : List Addr), c'.at = none → DE (X.blk s H scope (compEnvC scope cl C X.env) fp) c' elt fe) (hs : ∀ x, foldedSetIterable iter X.env x = pure x := by intro _; rfl) :
    DS X c (.Assign [.Name y py] (.ListComp elt [⟨tg, iter, ifs, 0⟩] scope pos) spos) (sSet i (dLc fi gd ft fe (own.map (·.2)))) := by
  have HT : ∀ (s : Shared) (H : Hp) (C : Addr) (cl : List (Str × Addr)) (fp : List Addr), PTs (X.blk s H scope (compEnvC scope cl C X.env) fp) ifs (fun σ H Q => ∃ c', c'.at = none ∧ tBn X.K c' ft σ H Q) :=
    fun s H C cl fp => ⟨fun pins s' σ H' Q I ⟨c', h1, h2⟩ => (ht c' s H C cl fp h1).run pins s' σ H' Q I h2⟩
  have HE : ∀ (s : Shared) (H : Hp) (C : Addr) (cl : List (Str × Addr)) (fp : List Addr), PE (X.blk s H scope (compEnvC scope cl C X.env) fp) elt (fun σ H Q => ∃ c', c'.at = none ∧ tD X.K c' fe σ H Q) :=
    fun s H C cl fp => ⟨fun pins s' σ H' Q I ⟨c', h1, h2⟩ => (he c' s H C cl fp h1).run pins s' σ H' Q I h2⟩
  exact PS.imp (ps_setLc hc hN hy hyl hsw hi ok hg HT HE hs) fun Dn σ H ⟨F, ow, δ, w, g1⟩ => by
    refine lc_imp hvs tok σ H _ ⟨F, ow, δ, w, ?_⟩
    unfold sSet at g1
    cases q : dLc fi gd ft fe (own.map (·.2)) δ with
    | ok d δ1 => rw [q] at g1; exact fun F' ow' H' v ex w' r => g1 F' ow' H' _ ex (w'.set r (FC.io_ne hic))
    | bad => rw [q] at g1; exact g1
end PV

namespace PV
open PySem PySem.Spec PyProof.Rows L2

/-! ## repr -/
mutual
/-- more than the signs that repr writes; 0: no bound is known -/
def wtP : PyData → Nat
  | .none => 4
  | .bool _ => 5
  | .int _ => 1922
  | .str x => (reprText x).length
  | .list xs => wtPs xs + 2
  | .tuple xs => wtPs xs + 3
  | .dict _ => 100000000
def wtPs : List PyData → Nat
  | [] => 0
  | x :: r => wtP x + 2 + wtPs r
end
theorem str_app_len (a b : Str) : (a ++ b).length = a.length + b.length := by
  show (a.cps ++ b.cps).size = _
  rw [Array.size_append]; rfl
theorem textFrom_le : ∀ (ts : List Str) (k : Nat) (acc : Str), (textFrom k acc ts).length ≤ acc.length + piled ts
  | [], _, acc => by show acc.length ≤ _; omega
  | t :: r, k, acc => by
    have ih := textFrom_le r (k + 1) (acc ++ (if k > 0 then ", " else "" : String) ++ t)
    show (textFrom (k + 1) (acc ++ (if k > 0 then ", " else "" : String) ++ t) r).length ≤ _
    have h2 : ((Str.ofString (if k > 0 then ", " else "" : String))).length ≤ 2 := by split <;> decide
    rw [str_app_len, str_app_len] at ih
    have hp : piled (t :: r) = t.length + 2 + piled r := by simp [piled]
    omega
theorem join_le : ∀ ts : List Str, (Str.join ", " ts).length ≤ piled ts
  | [] => by decide
  | x :: r => by
    have := join_length_add (x :: r) (by simp)
    omega
mutual
theorem shown_le : ∀ p : PyData, p.showable = true → p.hasDict = false → p.shown.length ≤ wtP p
  | .none, _, _ => by decide
  | .bool b, _, _ => by cases b <;> decide
  | .int i, h, _ => by
    have h' : i.natAbs.log2 < 1920 := by simpa [PyData.showable] using h
    exact Nat.le_trans (PyProof.Rows.int_text_len_1921 h') (by show 1921 ≤ 1922; omega)
  | .str x, _, _ => Nat.le_refl _
  | .list xs, h, hd => by
    have := shownAll_le xs (by simpa [PyData.showable] using h) (by simpa [PyData.hasDict] using hd)
    have h1 := textFrom_le (PyData.shownAll xs) 0 "["
    show (textFrom 0 "[" (PyData.shownAll xs) ++ ("]" : Str)).length ≤ wtPs xs + 2
    rw [str_app_len]
    have e1 : (Str.ofString "[").length = 1 := by decide
    have e2 : (Str.ofString "]").length = 1 := by decide
    omega
  | .tuple xs, h, hd => by
    have := shownAll_le xs (by simpa [PyData.showable] using h) (by simpa [PyData.hasDict] using hd)
    have h1 := join_le (PyData.shownAll xs)
    show (("(" : Str) ++ Str.join ", " (PyData.shownAll xs) ++ ((if (PyData.shownAll xs).length == 1 then ",)" else ")" : String) : Str)).length ≤ wtPs xs + 3
    rw [str_app_len, str_app_len]
    have e1 : (Str.ofString "(").length = 1 := by decide
    have e2 : (Str.ofString (if (PyData.shownAll xs).length == 1 then ",)" else ")" : String)).length ≤ 2 := by split <;> decide
    omega
  | .dict _, _, h => by cases h
theorem shownAll_le : ∀ xs : List PyData, PyData.showableAll xs = true → PyData.hasDictAll xs = false → piled (PyData.shownAll xs) ≤ wtPs xs
  | [], _, _ => by decide
  | x :: r, h, hd => by
    have h2 : PyData.showable x = true ∧ PyData.showableAll r = true := by simpa [PyData.showableAll] using h
    have h3 : PyData.hasDict x = false ∧ PyData.hasDictAll r = false := by simpa [PyData.hasDictAll] using hd
    have i1 := shown_le x h2.1 h3.1
    have i2 := shownAll_le r h2.2 h3.2
    show piled (PyData.shown x :: PyData.shownAll r) ≤ wtP x + 2 + wtPs r
    rw [piled_cons]
    omega
end
def gRepr : List D → Option D
  | [d] => match d.py with
    | some p => if p.showable = true ∧ p.hasDict = false ∧ p.depth ≤ 60 ∧ wtP p ≤ 16000000 then some (.str p.shown) else none
    | none => none
  | _ => none
def rRepr (K : PySem.W.Frag) : List V → Hp → VK → Prop := fun xs H Q => ∃ x p, xs = [x] ∧ Dp K H x p ∧ p.showable = true ∧ p.hasDict = false ∧ p.depth ≤ 60 ∧ p.shown.length ≤ sizeLine ∧ Q (.str p.shown) H
theorem call_reprD {X : Cx} (hg : X.A.guards = some []) (hu : X.A.units + 64 < cLine) : CallR X (.builtin "repr") (rRepr X.K) := by
  intro pins s σ H xs us Q I r h
  obtain ⟨x, p, rfl, hd, h1, h2, h3, h4, q⟩ := h
  obtain ⟨u, rfl, ru⟩ := vals1 r
  obtain ⟨as, rd⟩ := Dp.reads I p x u hd ru
  have fin : ∀ (h' : Heap) (t : Tok) (tk : Nat), (∀ b o, s.heap.get? b = some o → h'.get? b = some o) → EP X pins σ Q (.str p.shown t) { s with heap := h', toks := tk } := fun h' t tk k => ⟨.str p.shown, H, I.kept k, ⟨t, rfl⟩, q⟩
  cases rd with
  | none => exact PySem.P.repr_of_none (fin s.heap _ _ fun _ _ e => e)
  | bool b => exact PySem.P.repr_of_bool (fin s.heap _ _ fun _ _ e => e)
  | int i t => exact PySem.P.repr_of_int (by simpa [PyData.showable] using h1) (fin s.heap _ _ fun _ _ e => e)
  | str x t => exact PySem.P.repr_of_str (fin s.heap _ _ fun _ _ e => e) h4
  | list a1 a2 a3 a4 => exact repr_of_reads' (Reads.list a1 a2 a3 a4) h1 (fun z => by rw [h2] at z; cases z) hg (by omega) (fun _ _ e => e) (fun h' u tk k => fin h' u tk k) h4
  | tuple a1 a2 a3 a4 => exact repr_of_reads' (Reads.tuple a1 a2 a3 a4) h1 (fun z => by rw [h2] at z; cases z) hg (by omega) (fun _ _ e => e) (fun h' u tk k => fin h' u tk k) h4
  | dict _ _ _ _ _ => cases h2
theorem cd_repr {K : PySem.W.Frag} : CallD K (rRepr K) gRepr := by
  intro c F ow H σ δ xs vs z Q w r e g
  unfold gRepr at e
  split at e
  · split at e
    · rename_i p hp
      split at e
      · rename_i hz; cases e
        cases r with | cons a b => cases b; exact ⟨_, p, rfl, a.dp hp, hz.1, hz.2.1, hz.2.2.1, Nat.le_trans (shown_le p hz.1 hz.2.1) (Nat.le_trans hz.2.2.2 line16), go_val w (.str _) g⟩
      · cases e
    · cases e
  · cases e

/-! ## globals -/
theorem de_gint {X : Cx} {c : FC} {x : Str} {i : Int} {pos : Pos} (hg : Gl X x) (hm : ∃ t, X.mg x = some (.int i t)) (hd : (x == ("__debug__" : Str)) = false := by decide) : DE X c (.Name x pos) (dC (.int i)) := by
  obtain ⟨t, e⟩ := hm
  exact de_con (v := .int i) (pe_glob hg e ⟨t, rfl⟩ hd) fun _ _ => .int i
theorem de_gtup {X : Cx} {c : FC} {x : Str} {a : Addr} {vs : List V} {ds : List D} {pos : Pos} (hg : Gl X x) (hm : X.mg x = some (.ref a)) (hk : KTup X.K a vs) (hr : ∀ F H, Reps X.K F H vs ds) (hd : (x == ("__debug__" : Str)) = false := by decide) : DE X c (.Name x pos) (dC (.tup ds)) :=
  de_con (v := .ref a) (pe_glob hg hm rfl hd) fun F H => .tupK hk (hr F H)
theorem ktup_of {K : PySem.W.Frag} {a : Addr} {vs : List V} (h : ∀ H, SqT K H a vs) : KTup K a vs := by
  rcases h (fun _ => none) with (z | ⟨_, z⟩) | z
  · cases z
  · cases z
  · exact z

/-! ## the end -/
/-- the law's def called with the script -/
theorem law_end {P : Program} {w : World} {K : PySem.W.Frag} {mg mb : Str → Option Value} {CX : CXT} {k : Nat} {fa a : Addr} {fd : FuncData} {x : Str} {M : Mir} {s₁ : Shared} {vs : List Value} {ns : List Int}
    (KX : K.In s₁.heap) (hns : s₁.heap.Ns mainGlobals mg) (hmb : s₁.heap.Ns builtinsNs mb) (hbb : ∀ x : Str, x ≠ "__name__" → mb x = bootBuiltins x) (hlim : s₁.heap.NoLimit) (hgen : s₁.gens = #[])
    (hobj : s₁.heap.get? a = some { cls := .type "list", data := .seq vs.toArray }) (hi : IntsAre vs ns) (hl : ns.length ≤ sizeLine) (hr : Room k callerA)
    (Fn : ∀ base : Heap, K.In base → base.Ns mainGlobals mg → FnA P w K mg base CX k fa fd [x] (spF K 1 none M)) (hbind : ∀ (s : Shared) (u : Value), BindsTo s fd ⟨[u], []⟩ [(x, u)])
    (hM : ∃ s', M [.scr ns] .emp = some (.p (.bl true), s')) (hCX : ∀ H e s', CX [] H s₁ (fun _ _ _ => False) e s' → False) :
    codeAny (model P w) callerA (.call (.ref fa) ⟨[.ref a], []⟩) (fun r s' => r = .ok (.ret (.bool true)) ∧ OldK s₁.heap s'.heap ∧ s'.os = s₁.os ∧ AllBare s'.gens) s₁ := by
  have rv : Vals (ns.map V.int) vs := vals_ints hi
  obtain ⟨s', hM⟩ := hM
  let lo : Obj := { cls := .type "list", data := .seq vs.toArray }
  let H : Hp := fun b => if b = a ∧ K.lookup a = none then some (.frz lo (.lst (ns.map V.int))) else none
  have Hsome : ∀ b u, H b = some u → b = a ∧ K.lookup a = none ∧ u = .frz lo (.lst (ns.map V.int)) := fun b u e => by
    by_cases c : b = a ∧ K.lookup a = none
    · have e2 := (if_pos c).symm.trans e
      cases e2
      exact ⟨c.1, c.2, rfl⟩
    · cases (if_neg c).symm.trans e
  have okH : HOk P w H s₁.heap := fun b u e => by
    obtain ⟨rfl, _, rfl⟩ := Hsome b u e
    exact ⟨hobj, by rw [List.length_map]; exact hl, vs, 0, rv, hobj⟩
  have there : ∀ {b : Addr} {o : Obj}, s₁.heap.get? b = some o → (∀ es ep, o.data ≠ .dict es ep) ∨ H b = none := fun {b o} e => by
    by_cases c : b = a
    · subst c; rw [hobj] at e; cases e; exact .inl fun _ _ z => by cases z
    · exact .inr (if_neg fun z => c z.1)
  have nsOf : ∀ {b : Addr} {m : Str → Option Value}, s₁.heap.Ns b m → (hidT s₁.heap H).Ns b m := fun {b m} h => by
    obtain ⟨o, es, ep, e, d, z⟩ := h
    rcases there e with q | q
    · exact absurd d (q es ep)
    · exact ⟨o, es, ep, hidT_get e q, d, z⟩
  have Kb : K.In (hidT s₁.heap H) := fun b o e => hidT_get (KX b o e) (by
    cases q : H b with
    | none => rfl
    | some u => obtain ⟨rfl, z, _⟩ := Hsome b u q; rw [z] at e; cases e)
  have mod : Mod K mg (hidT s₁.heap H) := ⟨Kb, nsOf hns, ⟨mb, nsOf hmb, hbb⟩, by obtain ⟨m, q1, q2⟩ := hlim; exact ⟨m, nsOf q1, q2⟩⟩
  have en : Env0 P w K mg (hidT s₁.heap H) callerA [] s₁ H := { frames := rfl, mod := mod, bs := fun b o e => of_hidT e, bsz := Nat.le_of_eq (hidT_size _ _), funs := trivial, frf := fun b hb => by simp [frs] at hb, hok := okH, bare := .of_eq hgen }
  have rep : Rep K (fun b => H b ≠ none) H (.ref a) (.scr ns) := by
    cases q : K.lookup a with
    | none =>
      have ha : H a = some (.frz lo (.lst (ns.map V.int))) := if_pos ⟨rfl, q⟩
      exact .scr (by rw [ha]; simp) ha
    | some o =>
      have e := KX a o q
      rw [hobj] at e
      cases e
      exact .scrK ⟨_, vs.toArray, 0, q, rfl, rfl, rfl, by rw [List.size_toArray, hi.length]; exact hl, by simpa using rv⟩
  have sp : spF K 1 none M [.ref a] H (fun v _ => v = .bl true) fun _ _ _ => False :=
    ⟨rfl, fun b => H b ≠ none, fun _ => False, [.scr ns], .emp, ⟨.cons rep .nil, rfl⟩, fun _ z => z.elim, fun _ z => z, _, _, hM, fun F' P' P2 H' v _ _ _ _ _ _ rr => by
      cases rr with | p rr => exact rr.bl_inv⟩
  refine codeAny_mono ((Fn _ Kb (nsOf hns)).run callerA [] s₁ H ⟨[.ref a], []⟩ [.ref a] [.ref a] _ _ rfl hr en (hbind s₁ (.ref a)) (.cons rfl .nil) sp) ?_
  intro out s2 h
  match out, h with
  | .error e, h => exact (hCX H e s2 h).elim
  | .ok (.ret u), h =>
    obtain ⟨v, H', os, bare, un, ok', ru, hv⟩ := h
    have hv' : v = .bl true := hv
    subst hv'
    obtain rfl : u = Value.bool true := ru
    refine ⟨rfl, OldK.of_keep fun b o e => ?_, os, bare⟩
    cases q : H b with
    | none => exact un.keep b o e q (by simp [frs]) (by simp)
    | some u =>
      obtain ⟨rfl, _, rfl⟩ := Hsome b u q
      have e2 := (ok' _ _ (un.frzs _ _ _ q)).1
      rw [hobj] at e; cases e
      exact e2
theorem walk_end {l : PySem.W.OpenLaw} {n k : Nat} {q : Program} {loose : List Str} {XP : (Str → Option Value) → Heap → Prop} {YP : World → Heap → Prop} {d : DefRec} {CX : CXT} {x : Str}
    (hn : l.most = some n) (hn2 : n ≤ sizeLine) (hdf : d.params.defaults = []) (hr : Room k callerA)
    (F : ∀ (w : World) (mg : Str → Option Value) (fa : Addr) (h : Heap), YP w h → h.Ns mainGlobals mg → mg d.name = some (.ref fa) →
      ∃ (K : PySem.W.Frag) (fd : FuncData) (M : Mir), K.In h ∧ (∀ (s : Shared) (u : Value), BindsTo s fd ⟨[u], []⟩ [(x, u)]) ∧ (∀ ns : List Int, ns.length ≤ n → ∃ s', M [.scr ns] .emp = some (.p (.bl true), s')) ∧
        ∀ base : Heap, K.In base → base.Ns mainGlobals mg → FnA l.prog w K mg base CX k fa fd [x] (spF K 1 none M))
    (hCX : ∀ (H : Hp) (s : Shared) (e : Value) (s' : Shared), CX [] H s (fun _ _ _ => False) e s' → False) :
    PySem.W.WalkO q loose XP YP l.row.toRowW d [] (fun f vs => PySem.call f vs) := by
  apply Att.attach_call hn hdf
  intro w s₀ s₁ mg mb fa o pm cd doc a vs ns G Y ho hd hcd hmg hobj hints hlen hg
  obtain ⟨K, fd, M, KX, hb, hM, hF⟩ := F w mg fa _ Y G.T.g hmg
  exact law_end KX G.T.g G.T.b G.T.builtins G.T.nolimit hg hobj hints (Nat.le_trans hlen hn2) hr hF hb (hM ns hlen) fun H e s' => hCX H s₁ e s'
end PV

namespace PV
open PySem PySem.Spec PyProof.Rows L2

/-! ## what one owns is changed -/
section
variable {K : PySem.W.Frag} {c : FC} {F : Addr → Prop} {ow : Addr → Option Nat} {H : Hp} {σ : L2.St} {δ : Env}
theorem W.updOwn (w : W K c F ow H σ δ) {i : Nat} {p : Addr} {o : HO} {v : V} {s' : Sl} (hp : ow p = some i) (hv : σ[i]? = some (some v)) (hs : SlR K F (upd H p o) (fun a => ow a = some i) v s') : W K c F ow (upd H p o) σ (δ.set i s') where
  len := by simpa using w.len
  sl := fun k s e => by
    by_cases hk : i = k
    · subst hk
      have hl : i < δ.length := by rw [← w.len]; exact (List.getElem?_eq_some_iff.mp hv).1
      rw [List.getElem?_set_self hl] at e
      cases e
      exact .inr ⟨v, hv, hs⟩
    · rw [List.getElem?_set_ne hk] at e
      refine (w.sl k s e).imp id fun ⟨u, q, r⟩ => ⟨u, q, r.mono (Ext.updOut (w.df p i hp).1) fun a z => ⟨z, upd_ne fun q => ?_⟩⟩
      subst q; rw [hp] at z; exact hk (Option.some.inj z)
  df := fun a k e => ⟨(w.df a k e).1, by
    by_cases q : a = p
    · subst q; rw [upd_same]; simp
    · rw [upd_ne q]; exact (w.df a k e).2.1, (w.df a k e).2.2⟩
  ft := fun a f => ⟨by rw [upd_ne (fun q => by subst q; exact (w.df _ i hp).1 f)]; exact (w.ft a f).1, (w.ft a f).2⟩
  kp := fun a u e z => by
    rw [upd_ne (fun q => by subst q; exact (w.df _ i hp).2.2.elim z fun n => by rw [n] at e; cases e)]
    exact w.kp a u e z
  io := w.io
theorem W.stAt (w : W K c F ow H σ δ) {i : Nat} {S : LSt} (h : δ[i]? = some (.st S)) : ∃ a b d, σ[i]? = some (some (.ref a)) ∧ ow a = some i ∧ ow b = some i ∧ F d ∧ a ≠ b ∧ H a = some (.dK (stKvs b d S)) ∧ H b = some (.lst (S.wide.map V.int)) ∧ H d = some (.lst (S.cells.map V.int)) := by
  rcases w.sl i _ h with z | ⟨v, e, r⟩
  · cases z
  · cases r with | st r => obtain ⟨b, d, h1, h2, h3, h4, h5, h6, h7⟩ := r; exact ⟨_, b, d, e, h1, h2, h3, h4, h5, h6, h7⟩
theorem W.mlAt (w : W K c F ow H σ δ) {i : Nat} {l : List D} (h : δ[i]? = some (.ml l)) : ∃ a vs, σ[i]? = some (some (.ref a)) ∧ ow a = some i ∧ H a = some (.lst vs) ∧ Reps K F H vs l := by
  rcases w.sl i _ h with z | ⟨v, e, r⟩
  · cases z
  · cases r with | ml h1 h2 h3 => exact ⟨_, _, e, h1, h2, h3⟩
end

/-! ## the law's state -/
inductive StK where
  | rest | turn
def StK.str : StK → Str
  | .rest => "rest"
  | .turn => "turn"
def StK.get : StK → LSt → Int
  | .rest, S => S.rest
  | .turn, S => S.turn
def StK.put : StK → LSt → Int → LSt
  | .rest, S, n => { S with rest := n }
  | .turn, S, n => { S with turn := n }
theorem stk_get (k : StK) (b d : Addr) (S : LSt) : valV (stKvs b d S) (.inr k.str) = some (.int (k.get S)) := by cases k <;> rfl
theorem stk_put (k : StK) (b d : Addr) (S : LSt) (n : Int) : putK (stKvs b d S) (.inr k.str) (.int n) = stKvs b d (k.put S n) := by cases k <;> rfl
theorem stk_wide (b d : Addr) (S : LSt) : valV (stKvs b d S) (.inr "wide") = some (.ref b) := rfl
theorem stk_cells (b d : Addr) (S : LSt) : valV (stKvs b d S) (.inr "cells") = some (.ref d) := rfl
section
variable {X : Cx} {c : FC} {e o : Expr} {fe : Env → R D} {pos pos' p1 p2 : Pos} {i j : Nat}
def dStI (i : Nat) (k : StK) (δ : Env) : R D := match δ[i]? with
  | some (.st S) => .ok (.int (k.get S)) δ
  | _ => .bad
theorem de_stI (k : StK) (hu : X.A.units + 1 < cLine) (hv : PE X o (tVar i)) : DE X c (.Subscript o (.Constant (.str k.str) j p1) pos) (dStI i k) :=
  PE.imp (pe_dget hu hv pe_str (fun _ _ => rfl)) fun σ H Q ⟨F, ow, δ, w, g1⟩ => by
    unfold dStI at g1
    split at g1
    · rename_i S q
      obtain ⟨a, b, d, h1, _, _, _, _, h2, _, _⟩ := w.stAt q
      refine ⟨_, h1, a, .int (k.get S), rfl, ?_, g1 F ow H _ (Ext.refl _ _) w (.int _)⟩
      rw [← stk_get k b d S]
      exact DGet.k (k := .inr k.str) h2
    · exact g1.elim
def sStPut (i : Nat) (k : StK) (fe : Env → R D) (δ : Env) : SRes := match fe δ with
  | .ok (.int n) δ1 => (match δ1[i]? with
    | some (.st S) => .nx (δ1.set i (.st (k.put S n)))
    | _ => .bad)
  | _ => .bad
theorem ds_stPut (k : StK) (hu : X.A.units + 1 < cLine) (hv : PE X o (tVar i)) (he : DE X c e fe) (hs : swapsWith e (some (.Subscript o (.Constant (.str k.str) j p1) pos')) pos.line X.env = pure false := by rfl) :
    DS X c (.Assign [.Subscript o (.Constant (.str k.str) j p1) pos'] e pos) (sStPut i k fe) :=
  PS.imp (ps_dput hu hv pe_str he hs) fun Dn σ H ⟨F, ow, δ, w, g1⟩ => by
    refine ⟨F, ow, δ, w, ?_⟩
    unfold sStPut at g1
    cases q : fe δ with
    | bad => rw [q] at g1; exact g1
    | ok d δ1 =>
      rw [q] at g1
      intro F1 ow1 H1 v e1 w1 r1
      cases d with
      | int n =>
        cases r1
        dsimp only at g1
        split at g1
        · rename_i S q2
          obtain ⟨a, b, d, h1, h2, h3, h4, h5, h6, h7, h8⟩ := w1.stAt q2
          refine ⟨_, h1, a, _, rfl, DPut.k (k := .inr k.str) h6 (by show 4 < sizeLine; decide), ?_⟩
          rw [stk_put]
          have nd : d ≠ a := fun z => by subst z; exact (w1.df _ i h2).1 h4
          exact g1 F1 ow1 _ σ (e1.trans (Ext.updOut (w1.df a i h2).1)) (w1.updOwn h2 h1 (.st ⟨b, d, h2, h3, h4, h5, upd_same, by rw [upd_ne (Ne.symm h5)]; cases k <;> exact h7, by rw [upd_ne nd]; cases k <;> exact h8⟩))
        · exact g1.elim
      | _ => exact g1.elim
def iStC (i : Nat) (δ : Env) : R (List D) := match δ[i]? with
  | some (.st S) => .ok (S.cells.map D.int) δ
  | _ => .bad
theorem di_stC {tg : Expr} (hu : X.A.units + 1 < cLine) (hv : PE X o (tVar i)) : DI X c tg (.Subscript o (.Constant (.str "cells") j p1) pos) (iStC i) :=
  PI.imp (pi_list (pe_dget hu hv pe_str (fun _ _ => rfl))) fun σ H Q ⟨F, ow, δ, w, g1⟩ => by
    unfold iStC at g1
    split at g1
    · rename_i items δ' q0
      split at q0
      · rename_i S q
        cases q0
        obtain ⟨a, b, d, h1, _, _, h4, _, h2, _, h8⟩ := w.stAt q
        exact ⟨_, h1, a, .ref d, rfl, DGet.k (k := .inr "cells") h2, d, rfl, ⟨_, SqL.of h8⟩, g1 F ow H _ (Ext.refl _ _) w (itd_list h4 h8 Reps.ints)⟩
      · cases q0
    · exact g1.elim
theorem py_ints (ns : List Int) : SeqAt.shaped (.list (ns.map PyData.int)) = true := by
  have h1 : PyData.canLayAll0 (ns.map PyData.int) = true := by
    induction ns with
    | nil => rfl
    | cons x r ih => rw [List.map_cons, PyData.canLayAll0, ih]; rfl
  have h2 : PyData.depthAll (ns.map PyData.int) ≤ 1 := by
    induction ns with
    | nil => decide
    | cons x r ih =>
      have ih' := ih (by simpa [PyData.canLayAll0, PyData.canLay0] using h1)
      rw [List.map_cons, PyData.depthAll]
      have : PyData.depth (.int x) ≤ 1 := by simp [PyData.depth]
      omega
  unfold SeqAt.shaped
  rw [PyData.canLay0, h1, PyData.depth]
  simp
  omega
theorem dp_ints {K : PySem.W.Frag} {H : Hp} {ns : List Int} : DpAll K H (ns.map V.int) (ns.map PyData.int) := by
  induction ns with
  | nil => exact .nil
  | cons x r ih => exact .cons (.int x) ih
def bStW (i : Nat) (δ : Env) : R Bool := match δ[i]? with
  | some (.st S) => .ok (!S.wide.isEmpty) δ
  | _ => .bad
theorem dt_stW (hu : X.A.units + 64 < cLine) (hv : PE X o (tVar i)) : DT X c (.Compare (.Subscript o (.Constant (.str "wide") j p1) p2) [.NotEq] [.List [] pos'] pos) (bStW i) :=
  PT.imp (pt_cmpR (op_neD hu) (pe_dget (by omega) hv pe_str (fun _ _ => rfl)) (pe_lst pa_nil) (nomark _)) fun σ H Q ⟨F, ow, δ, w, g1⟩ => by
    unfold bStW at g1
    split at g1
    · rename_i S q
      obtain ⟨a, b, d, h1, _, hb, h4, _, h2, h7, h8⟩ := w.stAt q
      refine ⟨_, h1, a, .ref b, rfl, DGet.k (k := .inr "wide") h2, Nat.zero_le _, fun p hp => ?_⟩
      have nb : b ≠ p := ne_of_none h7 hp
      refine ⟨.list (S.wide.map PyData.int), .list [], .lst (SqL.of (by rw [upd_ne nb]; exact h7)) dp_ints, .lst (SqL.of upd_same) .nil, py_ints _, by decide, _, rfl, ?_⟩
      have e : (!PyData.eqv (.list (S.wide.map PyData.int)) (.list [])) = !S.wide.isEmpty := by
        cases S.wide <;> rfl
      rw [e]
      exact g1 _ ow _ _ (Ext.new w hp) (w.new hp) rfl
    · exact g1.elim
def dStPop (i : Nat) (δ : Env) : R D := match δ[i]? with
  | some (.st S) => (match S.wide with
    | n :: r => .ok (.int n) (δ.set i (.st { S with wide := r }))
    | [] => .bad)
  | _ => .bad
theorem de_stPop {cpos apos : Pos} {j2 : Nat} {p3 : Pos} (hu : X.A.units + 1 < cLine) (hv : PE X o (tVar i)) (hbase : attributeBase (.Subscript o (.Constant (.str "wide") j p1) p2) "pop" X.env (eval (.Subscript o (.Constant (.str "wide") j p1) p2) X.env) = eval (.Subscript o (.Constant (.str "wide") j p1) p2) X.env := by rfl) (hline : (apos.endLine == cpos.line) = true := by rfl) :
    DE X c (.Call (.Attribute (.Subscript o (.Constant (.str "wide") j p1) p2) "pop" apos) [.Constant (.int 0) j2 p3] [] cpos) (dStPop i) := by
  refine PE.imp (pe_bm PySem.F.plainAttrs_list PySem.F.slot_list_pop PySem.F.type_list_pop mt_popAt (pe_dget hu hv pe_str (fun _ _ => rfl)) (pa_cons pe_int pa_nil) (hbase := hbase) (hline := hline)) fun σ H Q ⟨F, ow, δ, w, g1⟩ => ?_
  unfold dStPop at g1
  split at g1
  · rename_i S q
    obtain ⟨a, b, d, h1, h2, hb, h4, h5, h6, h7, h8⟩ := w.stAt q
    obtain ⟨wd, cl, rs, tn⟩ := S
    cases wd with
    | nil => exact g1.elim
    | cons n r =>
      refine ⟨_, h1, a, .ref b, rfl, DGet.k (k := .inr "wide") h6, .inl ⟨rfl, _, SqL.of h7⟩, b, _, 0, 0, .int n, rfl, rfl, h7, by decide, by decide, by simp [seqIndex?], rfl, ?_⟩
      have nd : d ≠ b := fun z => by subst z; exact (w.df _ i hb).1 h4
      exact g1 F ow _ _ (Ext.updOut (w.df b i hb).1) (w.updOwn hb h1 (.st ⟨b, d, h2, hb, h4, h5, by rw [upd_ne h5]; exact h6, upd_same, by rw [upd_ne nd]; exact h8⟩)) (.int n)
  · exact g1.elim

/-! ## lists of one's own -/
def sSetM (i : Nat) (f : Env → R (List D)) (δ : Env) : SRes := match f δ with
  | .ok ds δ1 => if ds.length ≤ 16000000 then .nx (δ1.set i (.ml ds)) else .bad
  | .bad => .bad
open Classical in
theorem ds_setM {x : Str} {es : List Expr} {f : Env → R (List D)} (hi : c.at ≠ some i) (hN : X.N.Nodup) (hiN : X.N[i]? = some x) (hx : Loc X.env.scope x) (he : DA X c es f) (hs : swapsWith (.List es p1) (some (.Name x pos')) pos.line X.env = pure false := by rfl) (hf : X.fn x = true ∨ X.env.scope.names.lookup x = some .local := by first | exact .inl rfl | exact .inr rfl | assumption) :
    DS X c (.Assign [.Name x pos'] (.List es p1) pos) (sSetM i f) :=
  PS.imp (ps_set hN hiN hx (pe_lst he) hs hf) fun Dn σ H ⟨F, ow, δ, w, g1⟩ => by
    refine ⟨F, ow, δ, w, ?_⟩
    unfold sSetM at g1
    cases q : f δ with
    | bad => rw [q] at g1; exact g1
    | ok ds δ1 =>
      rw [q] at g1
      intro F1 ow1 H1 vs e1 w1 r1
      dsimp only at g1
      split at g1
      · rename_i hz
        refine ⟨by rw [r1.length]; exact Nat.le_trans hz line16, fun p hp => ?_⟩
        obtain ⟨f1, f2, f3⟩ := w1.fresh hp
        have w2 := w1.updOut (o := .lst vs) f2 f1 f3
        exact g1 F1 _ _ _ (e1.trans (Ext.updOut f2)) (w2.setS (P2 := fun a => a = p) (FC.io_ne hi) (fun a z => by subst z; exact ⟨f2, by rw [upd_same]; simp, f1, f3⟩) (.ml rfl upd_same (r1.mono (Ext.updOut f2))))
      · exact g1.elim
def sApp (i : Nat) (fe : Env → R D) (δ : Env) : SRes := match δ[i]? with
  | some (.ml _) => (match fe δ with
    | .ok d δ1 => (match δ1[i]? with
      | some (.ml l) => if l.length < 16000000 then .nx (δ1.set i (.ml (l ++ [d]))) else .bad
      | _ => .bad)
    | .bad => .bad)
  | _ => .bad
/-- x.append(e) -/
theorem ds_app {x : Str} {px apos cpos : Pos} (hv : PE X (.Name x px) (tVar i)) (he : DE X c e fe) (hbase : attributeBase (.Name x px) "append" X.env (eval (.Name x px) X.env) = eval (.Name x px) X.env := by rfl) (hline : (apos.endLine == cpos.line) = true := by rfl)
    (hst : starEach [e] X.env = (false, eval e X.env) :: starEach [] X.env := by rfl) (hpl : (backTo cpos (starEach [] X.env)).any (·.1) = false := by rfl)
    (hfew : ((backTo cpos (starEach [e] X.env)).all (fun x => !x.1) && (backToKw cpos (keywordEach [] X.env)).all (fun x => x.1.isSome) && decide ([e].length + ([] : List Keyword).length + (if ([] : List Keyword).isEmpty then 0 else 1) < 30)) = true := by rfl)
    (hs : swapsWith (.Call (.Attribute (.Name x px) "append" apos) [e] [] cpos) none pos.line X.env = pure false := by rfl) :
    DS X c (.Expr (.Call (.Attribute (.Name x px) "append" apos) [e] [] cpos) pos) (sApp i fe) :=
  PS.imp (ps_expr (pe_bm PySem.F.plainAttrs_list PySem.F.slot_list_append PySem.F.type_list_append mt_append hv (pa_cons he pa_nil hst) (hbase := hbase) (hline := hline) (hs := hst) (hplain := hpl) (hfew := hfew)) hs) fun Dn σ H ⟨F, ow, δ, w, g1⟩ => by
    unfold sApp at g1
    split at g1
    · rename_i l' q3
      obtain ⟨a, vs, h1, h2, h3, h4⟩ := w.mlAt q3
      refine ⟨_, h1, .inl ⟨rfl, _, SqL.of h3⟩, F, ow, δ, w, ?_⟩
      cases q : fe δ with
      | bad => rw [q] at g1; exact g1.elim
      | ok d δ1 =>
        rw [q] at g1
        dsimp only at g1
        intro F1 ow1 H1 v e1 w1 r1
        split at g1
        · rename_i l q2
          obtain ⟨a', vs', k1, k2, k3, k4⟩ := w1.mlAt q2
          rw [h1] at k1; cases k1
          split at g1
          · rename_i hz
            have ln := k4.length
            have := line16
            have eu := Ext.updOut (F := F1) (H := H1) (o := HO.lst (vs' ++ [v])) (w1.df _ i k2).1
            exact ⟨_, vs', v, rfl, rfl, k3, by omega, g1 F1 ow1 _ σ (e1.trans eu) (w1.updOwn k2 h1 (.ml k2 upd_same ((k4.mono eu).append (.cons (r1.mono eu) .nil))))⟩
          · exact g1.elim
        · exact g1.elim
    · exact g1.elim
/-- a name that holds a list of one's own is read: it is frozen from then on -/
def dFrz (i : Nat) (δ : Env) : R D := match δ[i]? with
  | some (.ml l) => .ok (.lst l) (δ.set i (.p (.lst l)))
  | some (.p d) => .ok d δ
  | _ => .bad
open Classical in
theorem W.frz {K : PySem.W.Frag} {F : Addr → Prop} {ow : Addr → Option Nat} {H : Hp} {σ : L2.St} {δ : Env} {a : Addr} {vs : List V} {l : List D} (w : W K c F ow H σ δ) (h1 : σ[i]? = some (some (.ref a))) (h2 : ow a = some i) (h3 : H a = some (.lst vs)) (h4 : Reps K F H vs l) :
    W K c (fun b => F b ∨ b = a) (fun b => if b = a then none else ow b) H σ (δ.set i (.p (.lst l))) where
  len := by simpa using w.len
  sl := fun k s e => by
    have ex : Ext F H (fun b => F b ∨ b = a) H := ⟨fun _ z => .inl z, fun _ _ _ z => z⟩
    by_cases hk : i = k
    · subst hk
      have hl : i < δ.length := by rw [← w.len]; exact (List.getElem?_eq_some_iff.mp h1).1
      rw [List.getElem?_set_self hl] at e
      cases e
      exact .inr ⟨_, h1, .p (.lst (.inr rfl) h3 (h4.mono ex))⟩
    · rw [List.getElem?_set_ne hk] at e
      refine (w.sl k s e).imp id fun ⟨u, q, r⟩ => ⟨u, q, r.mono ex fun b z => ⟨?_, rfl⟩⟩
      rw [if_neg fun z' => by subst z'; rw [h2] at z; exact hk (Option.some.inj z)]; exact z
  df := fun b k e => by
    by_cases q : b = a
    · rw [if_pos q] at e; cases e
    · rw [if_neg q] at e
      exact ⟨fun f => f.elim (w.df b k e).1 q, (w.df b k e).2⟩
  ft := fun b f => f.elim (w.ft b) fun z => by subst z; exact ⟨by rw [h3]; simp, .inr (w.df _ i h2).2.2⟩
  kp := w.kp
  io := w.io
theorem de_frz (hv : PE X e (tVar i)) : DE X c e (dFrz i) := PE.imp hv fun σ H Q ⟨F, ow, δ, w, g1⟩ => by
  unfold dFrz at g1
  split at g1
  · rename_i l q
    obtain ⟨a, vs, h1, h2, h3, h4⟩ := w.mlAt q
    have ex : Ext F H (fun b => F b ∨ b = a) H := ⟨fun _ z => .inl z, fun _ _ _ z => z⟩
    exact ⟨_, h1, g1 _ _ H _ ex (w.frz h1 h2 h3 h4) (.lst (.inr rfl) h3 (h4.mono ex))⟩
  · rename_i d q
    obtain ⟨v, ev, r⟩ := w.pur q
    exact ⟨v, ev, g1 F ow H v (Ext.refl _ _) w r⟩
  · exact g1.elim
end
end PV

namespace PV
open PySem PySem.Spec PyProof.Rows L2

/-! ## the law's state is made -/
def mBegun (fw fc : List Int → List Int) : Mir := fun ds _ => match ds with
  | [.scr ns] => if ns.length ≤ 63 then some (.st ⟨fw ns, fc ns, 0, 0⟩, .emp) else none
  | _ => none
theorem begun_ok {P : Program} {w : World} {K : PySem.W.Frag} {mg : Str → Option Value} {base : Heap} {CX : CXT} {x qual : Str} {params : Arguments} {body : List Stmt} {scope : Scope} {dvs : List V} {kws : List (Str × V)} {f : Addr} {fd : FuncData} {N ps : List Str} {k : Nat}
    (Fd : FunD K x qual params body scope dvs kws f fd) (S : FnScope N ps scope) (hps : ps.length = 1) (hN : 2 ≤ N.length) (f1 : Env → SRes) (f2 : Env → R D) (fw fc : List Int → List Int)
    (hb : ∀ (cdv : Value) (A : Around) (outer : List PySem.Env) (s : Shared) (H : Hp) (E : XK) (c : FC), (A.deeper (envOfC qual scope s.heap.objs.size f cdv)).guards = some [] → Room k (A.deeper (envOfC qual scope s.heap.objs.size f cdv)) → c.at = some 0 →
      PSs (cxOf CX P w K mg base N qual scope f cdv A outer s H E) body (tSeq (tSt K c f1) (tRet (tDisp [(tC (.str "wide"), tVar 1), (tC (.str "cells"), fun σ H Q => ∃ c', c'.at = none ∧ tD K c' f2 σ H Q), (tC (.str "rest"), tC (.int 0)), (tC (.str "turn"), tC (.int 0))]))))
    (e1 : ∀ ns : List Int, ns.length ≤ 63 → ∃ δ1, f1 (.p (.scr ns) :: List.replicate (N.length - 1) .emp) = .nx δ1 ∧ δ1.length = N.length ∧ δ1[1]? = some (.p (.lst ((fw ns).map D.int))))
    (e2 : ∀ ns : List Int, ns.length ≤ 63 → ∃ δ2, f2 (.p (.scr ns) :: List.replicate (N.length - 1) .emp) = .ok (.lst ((fc ns).map D.int)) δ2) : FnA P w K mg base CX (k + 1) f fd ps (spF K ps.length none (mBegun fw fc)) := by
  refine fnA_body Fd S (fun vs H Q E h => h.1) fun cdv A outer s H vs Q E hg hr hs => ?_
  obtain ⟨hl, F, Pp, ds, sl, ⟨arg, rfl⟩, hP, hF, r, s', hM, post⟩ := hs
  unfold mBegun at hM
  split at hM
  · split at hM
    · rename_i ns hz
      cases hM
      cases arg with
      | cons rv rt =>
        cases rt
        rename_i v
        let F0 : Addr → Prop := fun y => v = .ref y ∧ ∃ o u, H y = some (.frz o u)
        let c1 : FC := ⟨F0, H, fun _ => False, some (0, v)⟩
        refine ⟨_, hb cdv A outer s H E c1 hg hr rfl, ?_⟩
        have hrep : ∀ (H' : Hp), (∀ a o, H a = some o → H' a = some o) → Rep K F0 H' v (.scr ns) := fun H' kp => by
          cases rv with
          | scr h1 h2 => exact .scr ⟨rfl, _, _, h2⟩ (kp _ _ h2)
          | scrK h => exact .scrK h
        have st : L2.start N [v] = some v :: List.replicate (N.length - 1) none := rfl
        have sl0 : ∀ (H' : Hp) (σ : L2.St), (∀ a o, H a = some o → H' a = some o) → σ.length = N.length → σ[0]? = some (some v) → ∀ ow : Addr → Option Nat, ∀ i s, ((Sl.p (.scr ns) :: List.replicate (N.length - 1) Sl.emp) : Env)[i]? = some s → s = .emp ∨ ∃ v, σ[i]? = some (some v) ∧ SlR K F0 H' (fun a => ow a = some i) v s := by
          intro H' σ kp hl h0 ow i s e
          cases i with
          | zero => cases e; exact .inr ⟨v, h0, .p (hrep H' kp)⟩
          | succ i =>
            left
            rw [List.getElem?_cons_succ, List.getElem?_replicate] at e
            split at e <;> cases e
            rfl
        obtain ⟨δ1, h1, h1l, h2⟩ := e1 ns hz
        refine ⟨F0, fun _ => none, .p (.scr ns) :: List.replicate (N.length - 1) .emp, ⟨by rw [st]; simp, sl0 H _ (fun _ _ e => e) (by rw [st]; simp; omega) rfl _, fun a i e => (by cases e), fun a ha => ?_, fun a o e _ => e, fun j a e => (by cases e; rfl)⟩, ?_⟩
        · obtain ⟨q1, o, u, q⟩ := ha
          exact ⟨by rw [q]; simp, .inl ⟨q1, o, u, q⟩⟩
        rw [h1]
        intro F1 ow1 H1 σ1 ex1 w1
        obtain ⟨va, hva, ra⟩ := w1.pur h2
        obtain ⟨a1, vs1, rfl, hl1, f1, r1⟩ := ra.lst_inv
        rw [r1.of_ints] at hl1
        have kp1 : ∀ a o, H a = some o → H1 a = some o := fun a o e => w1.kp a o e fun z => z
        have n1 : H a1 = none := by
          rcases (w1.ft a1 f1).2 with ⟨_, o, u, q⟩ | z | z
          · have := kp1 a1 _ q; rw [hl1] at this; cases this
          · exact z.elim
          · exact z
        have len1 : σ1.length = N.length := w1.len.trans h1l
        have s0 : σ1[0]? = some (some v) := w1.io 0 v rfl
        intro p hp
        have pn : H p = none := by
          cases q : H p with
          | none => rfl
          | some o => rw [kp1 p o q] at hp; cases hp
        let c2 : FC := ⟨F0, upd H1 p (.dK []), fun _ => False, none⟩
        have kp2 : ∀ a o, H a = some o → upd H1 p (.dK []) a = some o := fun a o e => by
          rw [upd_ne (fun z => by subst z; rw [pn] at e; cases e)]; exact kp1 a o e
        refine ⟨.ref a1, hva, c2, rfl, F0, fun _ => none, .p (.scr ns) :: List.replicate (N.length - 1) .emp, ⟨?_, sl0 _ _ kp2 len1 s0 _, fun a i e => (by cases e), fun a ha => ?_, fun a o e _ => e, fun j a e => (by cases e)⟩, ?_⟩
        · rw [len1, List.length_cons, List.length_replicate]; omega
        · obtain ⟨q1, o, u, q⟩ := ha
          exact ⟨by rw [kp2 a _ q]; simp, .inl ⟨q1, o, u, q⟩⟩
        obtain ⟨δ2, h3⟩ := e2 ns hz
        rw [h3]
        intro F2 ow2 H2 v2 ex2 w2 r2
        obtain ⟨a2, vs2, rfl, hl2, f2, r2'⟩ := r2.lst_inv
        rw [r2'.of_ints] at hl2
        have kp3 : ∀ a o, upd H1 p (.dK []) a = some o → H2 a = some o := fun a o e => w2.kp a o e fun z => z
        have pa1 : a1 ≠ p := fun z => by subst z; rw [hp] at hl1; cases hl1
        have hl1' : H2 a1 = some (.lst ((fw ns).map V.int)) := kp3 a1 _ (by rw [upd_ne pa1]; exact hl1)
        have hp2 : H2 p = some (.dK []) := kp3 p _ upd_same
        have n2 : upd H1 p (.dK []) a2 = none := by
          rcases (w2.ft a2 f2).2 with ⟨_, o, u, q⟩ | z | z
          · have := kp3 a2 _ (kp2 a2 _ q); rw [hl2] at this; cases this
          · exact z.elim
          · exact z
        have a21 : a2 ≠ a1 := fun z => by
          subst z; rw [upd_ne pa1, hl1] at n2; cases n2
        have a2p : a2 ≠ p := fun z => by subst z; rw [upd_same] at n2; cases n2
        have n2' : H a2 = none := by
          cases q : H a2 with
          | none => rfl
          | some o => rw [kp2 a2 o q] at n2; cases n2
        refine ⟨hp2, [(.inr "wide", .ref a1), (.inr "cells", .ref a2), (.inr "rest", .int 0), (.inr "turn", .int 0)], rfl, by show 4 ≤ 15; omega, ?_⟩
        have keep : ∀ a o, H a = some o → upd H2 p (.dK (stKvs a1 a2 ⟨fw ns, fc ns, 0, 0⟩)) a = some o := fun a o e => by
          have e4 := kp3 a o (kp2 a o e)
          rw [upd_ne (fun z => by subst z; rw [pn] at e; cases e)]
          exact e4
        refine post (fun a => F a ∨ a = a2) (fun _ => False) (fun a => a = p ∨ a = a1) (upd H2 p (.dK (stKvs a1 a2 ⟨fw ns, fc ns, 0, 0⟩))) _ ⟨fun _ z => .inl z, fun a o _ e => keep a o e⟩ (fun a o e _ => keep a o e) (fun a fa => ?_) (fun _ z => z.elim) (fun a pa => ?_) (fun j z => (by cases z)) (.st ⟨a1, a2, .inl rfl, .inr rfl, .inr rfl, fun z => pa1 z.symm, upd_same, ?_, ?_⟩)
        · rcases fa with fa | rfl
          · refine ⟨?_, .inl fa⟩
            have := hF a fa
            cases q : H a with
            | none => exact absurd q this
            | some o => rw [keep a o q]; simp
          · refine ⟨?_, .inr (.inr n2')⟩
            rw [upd_ne a2p, hl2]; simp
        · rcases pa with rfl | rfl
          · exact ⟨fun z => z.elim (fun z => hF _ z pn) fun z => a2p z.symm, by rw [upd_same]; simp, pn, fun z => z⟩
          · exact ⟨fun z => z.elim (fun z => hF _ z n1) fun z => a21 z.symm, by rw [upd_ne pa1, hl1']; simp, n1, fun z => z⟩
        · rw [upd_ne pa1]; exact hl1'
        · rw [upd_ne a2p]; exact hl2
    · cases hM
  · cases hM
end PV

namespace PV
open PySem PySem.Spec PyProof.Rows L2

/-! ## isinstance of a built-in type -/
def D.ty : D → Option String
  | .non => some "NoneType"
  | .bl _ => some "bool"
  | .int _ => some "int"
  | .str _ => some "str"
  | .tup _ => some "tuple"
  | .lst _ => some "list"
  | _ => none
theorem Rep.tyx {K : PySem.W.Frag} {F : Addr → Prop} {H : Hp} {v : V} {d : D} {t : String} (r : Rep K F H v d) (e : d.ty = some t) : TyX K H v (.type t) := by
  cases r with
  | tupK h r =>
    cases e
    obtain ⟨o, its, n, h1, h2, _⟩ := h
    exact .kTuple h1 h2
  | tup f h r => cases e; exact .base (.tup h)
  | lst f h r => cases e; exact .base (.lst h)
  | non => cases e; exact .base .non
  | bl b => cases e; exact .base (.bl b)
  | int b => cases e; exact .base (.int b)
  | str b => cases e; exact .base (.str b)
  | _ => cases e
def dIsi (T : String) (f : Env → R D) (δ : Env) : R D := (f δ).bind fun x δ1 => match x.ty with
  | some t => (match kitB t T with
    | some b => .ok (.bl b) δ1
    | none => .bad)
  | none => .bad
section
variable {X : Cx} {c : FC} {e : Expr} {fe : Env → R D} {pos p1 p2 : Pos}
theorem de_isi {T : String} {x : Str} (hg : Gl X "isinstance") (hm : X.mg "isinstance" = none) (hg2 : Gl X x) (hm2 : X.mg x = none) (hv : bootBuiltins x = some (.type T)) (he : DE X c e fe) (hn : x ≠ "__name__" := by decide) (hdb : (x == ("__debug__" : Str)) = false := by decide)
    (hs : starEach [e, .Name x p2] X.env = (false, eval e X.env) :: starEach [.Name x p2] X.env := by rfl) (hs2 : starEach [.Name x p2] X.env = (false, eval (.Name x p2) X.env) :: starEach [] X.env := by rfl) (hpl : (backTo pos (starEach [.Name x p2] X.env)).any (·.1) = false := by rfl) :
    DE X c (.Call (.Name "isinstance" p1) [e, .Name x p2] [] pos) (dIsi T fe) :=
  PE.imp (pe_callB call_isi hg hm boot_isinstance (pa_cons he (pa_cons (pe_bltn (v := .ty T) hg2 hm2 hv rfl hn hdb) pa_nil hs2) hs) (hpl := hpl) (he := hs)) fun σ H Q ⟨F, ow, δ, w, g1⟩ => ⟨F, ow, δ, w, by
    unfold dIsi at g1
    refine Go.imp (fun v H1 h1 => ?_) (Go.bind (rep := Rep X.K) g1)
    obtain ⟨F1, ow1, d, δ1, e1, w1, r1, _, g2⟩ := h1
    cases q : d.ty with
    | none => rw [q] at g2; exact g2.elim
    | some t =>
      rw [q] at g2
      dsimp only at g2
      cases q2 : kitB t T with
      | none => rw [q2] at g2; exact g2.elim
      | some b =>
        rw [q2] at g2
        exact ⟨v, .ty T, .type t, .type T, b, rfl, .ty T, r1.tyx q, kit_ty q2, go_val w1 (.bl b) g2⟩⟩
end

/-! ## the pieces of a call together -/
structure Ok (P : Program) (w : World) (K : PySem.W.Frag) (mg : Str → Option Value) (base : Heap) (x : Str) (ps : List Str) (k : Nat) (io : Option Nat) (M : Mir) (fd : FuncData) : Prop where
  kp : PySem.W.keepIn K (.ref (He.ga K x)) = true
  ad : mg x = some (.ref (He.ga K x))
  bd : Binds K fd ps []
  fn : FnA P w K mg base CX0 k (He.ga K x) fd ps (spF K ps.length io M)
section
variable {X : Cx} {c : FC} {k k2 n l : Nat} {x : Str} {ps : List Str} {M : Mir} {fd : FuncData} {e : Expr} {es : List Expr} {f : Env → R (List D)} {pos p : Pos}
theorem de_callO (hn : ps.length = n) (o : Ok X.prog X.w X.K X.mg X.base x ps k none M fd) (hgu : X.A.guards = some []) (hr : Room k2 X.A) (hk : k ≤ k2) (hg : Gl X x) (ha : DA X c (e :: es) f)
    (hdb : (x == ("__debug__" : Str)) = false := by decide) (he : starEach (e :: es) X.env = (false, eval e X.env) :: starEach es X.env := by rfl) (hpl : (backTo pos (starEach es X.env)).any (·.1) = false := by rfl) :
    DE X c (.Call (.Name x p) (e :: es) [] pos) (dCallF n M [] f) := by
  subst hn
  exact de_call (E := E0) rfl o.fn hgu (hr.mono hk) hg o.ad o.kp o.bd .nil pass0 (fun _ _ => .nil) ha hdb he hpl
theorem de_callO0 (hn : ps.length = n) (o : Ok X.prog X.w X.K X.mg X.base x ps k none M fd) (hgu : X.A.guards = some []) (hr : Room k2 X.A) (hk : k ≤ k2) (hg : Gl X x) (hdb : (x == ("__debug__" : Str)) = false := by decide) :
    DE X c (.Call (.Name x p) [] [] pos) (dCallF n M [] dNil) := by
  subst hn
  exact de_call0 (E := E0) rfl o.fn hgu (hr.mono hk) hg o.ad o.kp o.bd .nil pass0 (fun _ _ => .nil) hdb
theorem de_callOS {i j : Nat} (hn : ps.length = n) (o : Ok X.prog X.w X.K X.mg X.base x ps k (some j) M fd) (hj : j < n) (hgu : X.A.guards = some []) (hr : Room k2 X.A) (hk : k ≤ k2) (hg : Gl X x) (ha : DAS X c j i (e :: es) f)
    (hdb : (x == ("__debug__" : Str)) = false := by decide) (he : starEach (e :: es) X.env = (false, eval e X.env) :: starEach es X.env := by rfl) (hpl : (backTo pos (starEach es X.env)).any (·.1) = false := by rfl) :
    DE X c (.Call (.Name x p) (e :: es) [] pos) (dCallS n i j M f) := by
  subst hn
  exact de_callS (E := E0) rfl hj o.fn hgu (hr.mono hk) hg o.ad o.kp o.bd pass0 ha hdb he hpl
theorem ds_setFO {i : Nat} {y : Str} {pos' spos : Pos} (hn : ps.length = n) (o : Ok X.prog X.w X.K X.mg X.base x ps k none M fd) (hgu : X.A.guards = some []) (hr : Room k2 X.A) (hk : k ≤ k2) (hg : Gl X x)
    (hi : c.at ≠ some i) (hN : X.N.Nodup) (hiN : X.N[i]? = some y) (hloc : Loc X.env.scope y)
    (ha : DA X c (e :: es) f) (hdb : (x == ("__debug__" : Str)) = false := by decide) (he : starEach (e :: es) X.env = (false, eval e X.env) :: starEach es X.env := by rfl) (hpl : (backTo pos (starEach es X.env)).any (·.1) = false := by rfl)
    (hsw : swapsWith (.Call (.Name x p) (e :: es) [] pos) (some (.Name y pos')) spos.line X.env = pure false := by rfl) (hf : X.fn y = true ∨ X.env.scope.names.lookup y = some .local := by first | exact .inl rfl | exact .inr rfl | assumption) :
    DS X c (.Assign [.Name y pos'] (.Call (.Name x p) (e :: es) [] pos) spos) (dSetF i n M f) := by
  subst hn
  exact ds_setF (E := E0) rfl o.fn hgu (hr.mono hk) hg o.ad o.kp o.bd pass0 hi hN hiN hloc ha hdb he hpl hsw hf
theorem de_callOK {m : Nat} {ix : List Nat} {ks : List Str} {kws : List Keyword} {g : Env → R (List D)} (hn : ps.length = n) (o : Ok X.prog X.w X.K X.mg X.base x ps k none M fd) (hl : ks.length = l) (hb : KwB X.K fd ps m ks ix) (hgu : X.A.guards = some []) (hr : Room k2 X.A) (hk : k ≤ k2) (hg : Gl X x) (ha : DA X c (e :: es) f) (hkw : DK X c kws g)
    (hall : (backToKw pos (keywordEach kws X.env)).all (·.1.isSome) = true := by rfl) (hks : (backToKw pos (keywordEach kws X.env)).filterMap (·.1) = ks := by rfl)
    (hdb : (x == ("__debug__" : Str)) = false := by decide) (he : starEach (e :: es) X.env = (false, eval e X.env) :: starEach es X.env := by rfl)
    (hpl : ((backTo pos (starEach (e :: es) X.env)).any (·.1) || (backToKw pos (keywordEach kws X.env)).any (·.1.isNone)) = false := by rfl) :
    DE X c (.Call (.Name x p) (e :: es) kws pos) (dCallK n m l ix M f g) := by
  subst hn
  subst hl; exact de_callK (E := E0) o.fn hgu (hr.mono hk) hg o.ad o.kp hb pass0 ha hkw hall hks hdb he hpl
theorem de_callOK0 {ix : List Nat} {ks : List Str} {kws : List Keyword} {g : Env → R (List D)} (hn : ps.length = n) (o : Ok X.prog X.w X.K X.mg X.base x ps k none M fd) (hl : ks.length = l) (hb : KwB X.K fd ps 0 ks ix) (hgu : X.A.guards = some []) (hr : Room k2 X.A) (hk : k ≤ k2) (hg : Gl X x) (hkw : DK X c kws g)
    (hall : (backToKw pos (keywordEach kws X.env)).all (·.1.isSome) = true := by rfl) (hks : (backToKw pos (keywordEach kws X.env)).filterMap (·.1) = ks := by rfl)
    (hdb : (x == ("__debug__" : Str)) = false := by decide) (hpl : ((backTo pos (starEach [] X.env)).any (·.1) || (backToKw pos (keywordEach kws X.env)).any (·.1.isNone)) = false := by rfl) :
    DE X c (.Call (.Name x p) [] kws pos) (dCallK n 0 l ix M dNil g) := by
  subst hn
  subst hl; exact de_callK0 (E := E0) o.fn hgu (hr.mono hk) hg o.ad o.kp hb pass0 hkw hall hks hdb hpl
end
theorem FunD.kwB {K : PySem.W.Frag} {x qual : Str} {params : Arguments} {body : List Stmt} {scope : Scope} {kws : List (Str × V)} {f : Addr} {fd : FuncData} {ps ks : List Str} {n : Nat} {ix : List Nat} (F : FunD K x qual params body scope [] kws f fd) (h1 : ix.length = ps.length) (h2 : ∀ i ∈ ix, i < n + ks.length)
    (h : ∀ (kV doc pm : Value) (an : Option Addr) (cdv ct : Value) (us ws : List Value), us.length = n → ws.length = ks.length → bindArgs (PySem.W.fnOf x qual params body scope .none kV doc pm an cdv ct) ⟨us, ks.zip ws⟩ = pure (ps.zip (pick ix (us ++ ws)))) : KwB K fd ps n ks ix := by
  refine ⟨h1, h2, fun s us ws _ e1 e2 => ?_⟩
  obtain ⟨oc, od, dV, kV, doc, pm, an, cdv, ct, osl, rfl, lk, hcd, hD, hK⟩ := F.ex
  rcases hD with ⟨_, rfl⟩ | ⟨e, _⟩
  · exact .of_eq (h kV doc pm an cdv ct us ws e1 e2)
  · exact absurd rfl e
end PV

namespace PV
open PySem PySem.Spec PyProof.Rows L2

/-! ## small things of the printed terms -/
theorem at_ne {c : FC} {io : Option Nat} (h : c.at = io) {i : Nat} (hne : io ≠ some i) : c.at ≠ some i := by rw [h]; exact hne
theorem at_all {c : FC} {io : Option Nat} (h : c.at = io) {vs : List Nat} (hne : ∀ i ∈ vs, io ≠ some i) : ∀ i ∈ vs, c.at ≠ some i := by rw [h]; exact hne
theorem rm1 {k : Nat} {A : Around} (r : Room k A) : A.units + 1 < cLine := by have := r.units; omega
theorem bt_abs : bootBuiltins "abs" = some (.builtin "abs") := by decide +kernel
theorem bt_min : bootBuiltins "min" = some (.builtin "min") := by decide +kernel
theorem bt_max : bootBuiltins "max" = some (.builtin "max") := by decide +kernel
theorem bt_len : bootBuiltins "len" = some (.builtin "len") := by decide +kernel
theorem bt_sum : bootBuiltins "sum" = some (.builtin "sum") := by decide +kernel
theorem bt_repr : bootBuiltins "repr" = some (.builtin "repr") := by decide +kernel
theorem bt_int : bootBuiltins "int" = some (.type "int") := by decide +kernel
theorem bt_bool : bootBuiltins "bool" = some (.type "bool") := by decide +kernel
theorem bt_str : bootBuiltins "str" = some (.type "str") := by decide +kernel
theorem bt_list : bootBuiltins "list" = some (.type "list") := by decide +kernel
theorem bt_tuple : bootBuiltins "tuple" = some (.type "tuple") := by decide +kernel
theorem de_ex {X : Cx} {e : Expr} {f : Env → R D} (h : ∀ c' : FC, c'.at = none → DE X c' e f) : PE X e (fun σ H Q => ∃ c' : FC, c'.at = none ∧ tD X.K c' f σ H Q) :=
  ⟨fun pins s σ H Q I ⟨c', h1, h2⟩ => (h c' h1).run pins s σ H Q I h2⟩

/-! ## comprehensions that leave the slots as they are -/
theorem lcLoop_pure {t : Env → R Bool} {e : Env → R D} {i : Nat} {δw : Env} (hw : δw[i]? = some .emp) (p : D → Bool) (f : D → D) : ∀ items : List D,
    (∀ d ∈ items, t (δw.set i (.p d)) = .ok (p d) (δw.set i (.p d)) ∧ (p d = true → e (δw.set i (.p d)) = .ok (f d) (δw.set i (.p d)))) → lcLoop (tgN i) t e [i] items δw = .ok ((items.filter p).map f) δw
  | [], _ => rfl
  | d :: ds, h => by
    have hl : i < δw.length := (List.getElem?_eq_some_iff.mp hw).1
    have e0 : δw.set i .emp = δw := by
      apply List.ext_getElem?
      intro j
      by_cases hj : i = j
      · subst hj; rw [List.getElem?_set_self hl, hw]
      · rw [List.getElem?_set_ne hj]
    have hd := h d List.mem_cons_self
    have ih := lcLoop_pure (t := t) (e := e) hw p f ds fun x hx => h x (List.mem_cons_of_mem _ hx)
    unfold lcLoop
    rw [show wipeE δw [i] = δw from e0]
    rw [show tgN i d δw = some (δw.set i (.p d)) from rfl]
    dsimp only
    rw [hd.1, R.bind_ok]
    have e1 : wipeE (δw.set i (.p d)) [i] = δw := by
      show (δw.set i (.p d)).set i .emp = δw
      rw [List.set_set, e0]
    cases q : p d with
    | true =>
      rw [if_pos rfl, hd.2 q, R.bind_ok, e1, ih, R.bind_ok, List.filter_cons, if_pos q, List.map_cons]
    | false => rw [if_neg Bool.false_ne_true, e1, ih, List.filter_cons, if_neg (by rw [q]; exact Bool.false_ne_true)]
theorem dLc_pure {fi : Env → R (List D)} {t : Env → R Bool} {e : Env → R D} {i : Nat} {δ : Env} {items : List D} (h0 : fi δ = .ok items δ) (s0 : Sl) (hi : δ[i]? = some s0) (hs : s0 = .emp ∨ ∃ d, s0 = .p d) (p : D → Bool) (f : D → D) (hl : items.length ≤ 16000000)
    (h : ∀ d ∈ items, t (δ.set i (.p d)) = .ok (p d) (δ.set i (.p d)) ∧ (p d = true → e (δ.set i (.p d)) = .ok (f d) (δ.set i (.p d)))) : dLc fi (tgN i) t e [i] δ = .ok (.lst ((items.filter p).map f)) δ := by
  have hlen : i < δ.length := (List.getElem?_eq_some_iff.mp hi).1
  have hw : (wipeE δ [i])[i]? = some .emp := by show (δ.set i .emp)[i]? = _; rw [List.getElem?_set_self hlen]
  have hset : ∀ d, (wipeE δ [i]).set i (.p d) = δ.set i (.p d) := fun d => by show (δ.set i .emp).set i _ = _; rw [List.set_set]
  unfold dLc
  rw [h0, R.bind_ok, lcLoop_pure hw p f items fun d hd => by rw [hset d]; exact h d hd, R.bind_ok]
  have c1 : ((items.filter p).map f).length ≤ 16000000 := by
    rw [List.length_map]
    exact Nat.le_trans (List.length_filter_le _ _) hl
  have c2 : (wipeE δ [i]).length = δ.length := by
    show (δ.set i .emp).length = _
    exact List.length_set
  rw [if_pos ⟨c1, c2⟩]
  · congr 1
    show (wipeE δ [i]).set i _ = δ
    show (δ.set i .emp).set i _ = δ
    rw [List.set_set, hi]
    apply List.ext_getElem?
    intro j
    by_cases hj : i = j
    · subst hj
      rw [List.getElem?_set_self hlen, hi]
      rcases hs with rfl | ⟨d, rfl⟩ <;> rfl
    · rw [List.getElem?_set_ne hj]
end PV

namespace PV
open PySem PySem.Spec PyProof.Rows L2

/-! ## evaluation -/
theorem log2_lt {n k : Nat} (hk : 0 < k) (h : n < 2 ^ k) : n.log2 < k := by
  by_cases z : n = 0
  · subst z; rw [show Nat.log2 0 = 0 from by decide]; exact hk
  · exact (Nat.log2_lt z).mpr h
theorem ev_add (i j : Int) : gAdd (.int i) (.int j) = some (.int (i + j)) := rfl
theorem ev_sub (i j : Int) : PV.gSub (.int i) (.int j) = some (.int (i - j)) := rfl
theorem ev_mul {i j : Int} (h : i.natAbs < 18446744073709551616 ∨ j.natAbs < 18446744073709551616) : gMul (.int i) (.int j) = some (.int (i * j)) := by
  unfold gMul; exact if_pos (.inl h)
theorem ev_mulW {i j : Int} {a b : Nat} (h : i.natAbs < 2 ^ a) (h2 : j.natAbs < 2 ^ b) (ha : 0 < a) (hb : 0 < b) (h3 : a + b ≤ 1000000) : gMul (.int i) (.int j) = some (.int (i * j)) := by
  have := log2_lt ha h
  have := log2_lt hb h2
  unfold gMul; exact if_pos (.inr (by omega))
theorem ev_div {i j : Int} (h : 0 < j) (h2 : j.natAbs < 2 ^ 8000) : gDiv (.int i) (.int j) = some (.int (i / j)) := by
  have := log2_lt (by omega) h2
  unfold gDiv; exact if_pos ⟨h, by omega⟩
theorem ev_divL {i j : Int} (h : 0 < j) (h2 : j < 1000000000000000000000000000000000000000000000000000000000000) : gDiv (.int i) (.int j) = some (.int (i / j)) := by
  refine ev_div h (Nat.lt_of_lt_of_le (m := 2 ^ 200) ?_ (Nat.pow_le_pow_right (by omega) (by omega)))
  have : (2 : Nat) ^ 200 = 1606938044258990275541962092341162602522202993782792835301376 := by decide
  omega
theorem ev_mod {i j : Int} (h : 0 < j) : gMod (.int i) (.int j) = some (.int (i % j)) := by unfold gMod; exact if_pos h
theorem ev_pow {i j : Int} (h : 0 ≤ j) (h2 : j ≤ 1000000) (h3 : i.natAbs < 18446744073709551616) : gPow (.int i) (.int j) = some (.int (i ^ j.toNat)) := by unfold gPow; exact if_pos ⟨h, h2, h3⟩
theorem ev_cmp (f : Int → Int → Bool) (i j : Int) : gCmp f (.int i) (.int j) = some (.bl (f i j)) := rfl
theorem ev_eq (i j : Int) : gEq false (.int i) (.int j) = some (.bl (decide (i = j))) := rfl
theorem ev_ne (i j : Int) : gEq true (.int i) (.int j) = some (.bl (!decide (i = j))) := rfl
theorem ev_eqB (i j : Bool) : gEq false (.bl i) (.bl j) = some (.bl (decide (i = j))) := rfl
theorem ev_neB (i j : Bool) : gEq true (.bl i) (.bl j) = some (.bl (!decide (i = j))) := rfl
theorem ev_eqS (i j : Str) : gEq false (.str i) (.str j) = some (.bl (decide (i = j))) := rfl
theorem ev_neS (i j : Str) : gEq true (.str i) (.str j) = some (.bl (!decide (i = j))) := rfl
theorem ev_int (i : Int) : gInt [.int i] = some (.int i) := rfl
theorem ev_intB (b : Bool) : gInt [.bl b] = some (.int (if b then 1 else 0)) := rfl
theorem ev_abs (i : Int) : gAbs [.int i] = some (.int (if i < 0 then -i else i)) := rfl
theorem ev_min (i j : Int) : gMin [.int i, .int j] = some (.int (if j < i then j else i)) := rfl
theorem ev_max (i j : Int) : gMax [.int i, .int j] = some (.int (if j > i then j else i)) := rfl
theorem ev_lenL (l : List D) : gLen [.lst l] = some (.int l.length) := rfl
theorem ev_lenT (l : List D) : gLen [.tup l] = some (.int l.length) := rfl
theorem ev_lenSc (l : List Int) : gLen [.scr l] = some (.int l.length) := rfl
theorem ev_isi_int (i : Int) (δ : Env) (f : Env → R D) (h : f δ = .ok (.int i) δ) : dIsi "int" f δ = .ok (.bl true) δ := by
  unfold dIsi; rw [h]; rfl
theorem kitB_ib : kitB "int" "bool" = some false := by decide +kernel
theorem kitB_bi : kitB "bool" "int" = some true := by decide +kernel
theorem ev_isi_bool (i : Int) (δ : Env) (f : Env → R D) (h : f δ = .ok (.int i) δ) : dIsi "bool" f δ = .ok (.bl false) δ := by
  unfold dIsi; rw [h]; show (match kitB "int" "bool" with | some b => (R.ok (D.bl b) δ : R D) | none => .bad) = _; rw [kitB_ib]
theorem dAndV_bl {fa fb : Env → R D} {δ : Env} {a b : Bool} (h1 : fa δ = .ok (.bl a) δ) (h2 : fb δ = .ok (.bl b) δ) : dAndV fa fb δ = .ok (.bl (a && b)) δ := by
  unfold dAndV; rw [h1]; cases a
  · rfl
  · exact h2
theorem dOrV_bl {fa fb : Env → R D} {δ : Env} {a b : Bool} (h1 : fa δ = .ok (.bl a) δ) (h2 : fb δ = .ok (.bl b) δ) : dOrV fa fb δ = .ok (.bl (a || b)) δ := by
  unfold dOrV; rw [h1]; cases a
  · exact h2
  · rfl
theorem dAnd_bl {fa fb : Env → R Bool} {δ : Env} {a b : Bool} (h1 : fa δ = .ok a δ) (h2 : fb δ = .ok b δ) : dAnd fa fb δ = .ok (a && b) δ := by
  unfold dAnd; rw [h1, R.bind_ok]; cases a
  · rfl
  · exact h2
theorem dOr_bl {fa fb : Env → R Bool} {δ : Env} {a b : Bool} (h1 : fa δ = .ok a δ) (h2 : fb δ = .ok b δ) : dOr fa fb δ = .ok (a || b) δ := by
  unfold dOr; rw [h1, R.bind_ok]; cases a
  · exact h2
  · rfl

theorem seq_nx {f g : Env → SRes} {δ δ1 : Env} (h : f δ = .nx δ1) : sSeq f g δ = g δ1 := by unfold sSeq; rw [h]; rfl
theorem dOp_ok {g : D → D → Option D} {fa fb : Env → R D} {δ δ1 δ2 : Env} {x y z : D} (h1 : fa δ = .ok x δ1) (h2 : fb δ1 = .ok y δ2) (h3 : g x y = some z) : dOp g fa fb δ = .ok z δ2 := by unfold dOp; rw [h1, R.bind_ok, h2, R.bind_ok, h3]
theorem sRet_ok {f : Env → R D} {δ δ1 : Env} {d : D} (h : f δ = .ok d δ1) : sRet f δ = .rt d δ1 := by unfold sRet; rw [h]
theorem sSet_ok {i : Nat} {f : Env → R D} {δ δ1 : Env} {d : D} (h : f δ = .ok d δ1) : sSet i f δ = .nx (δ1.set i (.p d)) := by unfold sSet; rw [h]
theorem ev_t2_0 (a b : D) : gIx (.tup [a, b]) (.int 0) = some a := rfl
theorem ev_t2_1 (a b : D) : gIx (.tup [a, b]) (.int 1) = some b := rfl
theorem ev_t3_0 (a b c : D) : gIx (.tup [a, b, c]) (.int 0) = some a := rfl
theorem ev_t3_1 (a b c : D) : gIx (.tup [a, b, c]) (.int 1) = some b := rfl
theorem ev_t3_2 (a b c : D) : gIx (.tup [a, b, c]) (.int 2) = some c := rfl
theorem seq_rt {f g : Env → SRes} {δ δ1 : Env} {d : D} (h : f δ = .rt d δ1) : sSeq f g δ = .rt d δ1 := by unfold sSeq; rw [h]; rfl
theorem forD_nx {g : D → Env → Option Env} {b : Env → SRes} {d : D} {ds : List D} {δ δ1 δ2 : Env} (h1 : g d δ = some δ1) (h2 : b δ1 = .nx δ2) : forD g b (d :: ds) δ = forD g b ds δ2 := by
  show (match g d δ with | none => SRes.bad | some δ1 => match b δ1 with | .nx δ2 => forD g b ds δ2 | .ct δ2 => forD g b ds δ2 | .bk δ2 => .nx δ2 | .rt x δ2 => .rt x δ2 | .bad => .bad) = _
  rw [h1]; dsimp only; rw [h2]
theorem sFor_ok {f : Env → R (List D)} {g : D → Env → Option Env} {b : Env → SRes} {l : List D} {δ δ1 : Env} (h : f δ = .ok l δ1) : sFor f g b δ = forD g b l δ1 := by unfold sFor; rw [h]
theorem fnMir_rt {io : Option Nat} {b : Env → SRes} {n : Nat} {ds : List D} {s s' : Sl} {d : D} {δ : Env} (h : b (mkEnv io ds s n) = .rt d δ) (h2 : ioOut io δ = some s') : fnMir io b n ds s = some (.p d, s') := by unfold fnMir; rw [h]; dsimp only; rw [h2]; rfl
theorem fnMir_nx {io : Option Nat} {b : Env → SRes} {n : Nat} {ds : List D} {s s' : Sl} {δ : Env} (h : b (mkEnv io ds s n) = .nx δ) (h2 : ioOut io δ = some s') : fnMir io b n ds s = some (.p .non, s') := by unfold fnMir; rw [h]; dsimp only; rw [h2]; rfl

/-! ## equal data -/
theorem D.pys_ints (ns : List Int) : D.pys (ns.map D.int) = some (ns.map PyData.int) := by
  induction ns with
  | nil => rfl
  | cons n r ih => rw [List.map_cons, D.pys, ih]; rfl
mutual
theorem eqv_refl : ∀ p : PyData, p.canLay0 = true → PyData.eqv p p = true
  | .none, _ => rfl
  | .bool b, _ => by cases b <;> rfl
  | .int i, _ => by show (i == i) = true; simp
  | .str x, _ => by show (x == x) = true; simp
  | .list xs, h => eqvAll_refl xs h
  | .tuple xs, h => eqvAll_refl xs h
  | .dict _, h => by cases h
theorem eqvAll_refl : ∀ p : List PyData, PyData.canLayAll0 p = true → PyData.eqvAll p p = true
  | [], _ => rfl
  | x :: xs, h => by
    have h2 : x.canLay0 = true ∧ PyData.canLayAll0 xs = true := by simpa [PyData.canLayAll0] using h
    show (PyData.eqv x x && PyData.eqvAll xs xs) = true
    rw [eqv_refl x h2.1, eqvAll_refl xs h2.2]; rfl
end
theorem canLayAll0_ints (ns : List Int) : PyData.canLayAll0 (ns.map PyData.int) = true := by
  induction ns with
  | nil => rfl
  | cons n r ih => show (true && PyData.canLayAll0 (r.map PyData.int)) = true; rw [ih]; rfl
theorem depthAll_ints (ns : List Int) : PyData.depthAll (ns.map PyData.int) = 0 := by
  induction ns with
  | nil => rfl
  | cons n r ih => show max 0 (PyData.depthAll (r.map PyData.int)) = 0; rw [ih]; rfl
theorem shaped_ints (ns : List Int) : SeqAt.shaped (.list (ns.map PyData.int)) = true ∧ SeqAt.shaped (.tuple (ns.map PyData.int)) = true := by
  have h1 := canLayAll0_ints ns
  have h2 := depthAll_ints ns
  constructor <;> (unfold SeqAt.shaped; simp [PyData.canLay0, PyData.depth, h1, h2])
theorem eqvAll_ints : ∀ (a b : List Int), PyData.eqvAll (a.map PyData.int) (b.map PyData.int) = decide (a = b)
  | [], [] => rfl
  | [], _ :: _ => rfl
  | _ :: _, [] => rfl
  | x :: a, y :: b => by
    show (x == y && PyData.eqvAll (a.map PyData.int) (b.map PyData.int)) = _
    rw [eqvAll_ints a b]
    by_cases h : x = y <;> simp [h]
/-- tuples and lists of whole numbers -/
theorem ev_eqTs (a b : List Int) : gEqB (.tup (a.map D.int)) (.tup (b.map D.int)) = some (decide (a = b)) := by
  have p1 : (D.tup (a.map D.int)).py = some (.tuple (a.map PyData.int)) := by show (D.pys _).map _ = _; rw [D.pys_ints]; rfl
  have p2 : (D.tup (b.map D.int)).py = some (.tuple (b.map PyData.int)) := by show (D.pys _).map _ = _; rw [D.pys_ints]; rfl
  show (match (D.tup (a.map D.int)).py, (D.tup (b.map D.int)).py with
    | some p, some q => if SeqAt.shaped p = true ∧ SeqAt.shaped q = true then some (PyData.eqv p q) else none
    | _, _ => none) = _
  rw [p1, p2]
  show (if _ then some (PyData.eqvAll (a.map PyData.int) (b.map PyData.int)) else none) = _
  rw [if_pos ⟨(shaped_ints a).2, (shaped_ints b).2⟩, eqvAll_ints]
theorem ev_eqLs (a b : List Int) : gEqB (.lst (a.map D.int)) (.lst (b.map D.int)) = some (decide (a = b)) := by
  have p1 : (D.lst (a.map D.int)).py = some (.list (a.map PyData.int)) := by show (D.pys _).map _ = _; rw [D.pys_ints]; rfl
  have p2 : (D.lst (b.map D.int)).py = some (.list (b.map PyData.int)) := by show (D.pys _).map _ = _; rw [D.pys_ints]; rfl
  show (match (D.lst (a.map D.int)).py, (D.lst (b.map D.int)).py with
    | some p, some q => if SeqAt.shaped p = true ∧ SeqAt.shaped q = true then some (PyData.eqv p q) else none
    | _, _ => none) = _
  rw [p1, p2]
  show (if _ then some (PyData.eqvAll (a.map PyData.int) (b.map PyData.int)) else none) = _
  rw [if_pos ⟨(shaped_ints a).1, (shaped_ints b).1⟩, eqvAll_ints]
theorem ev_eqT3 (neg : Bool) (a b c x y z : Int) : gEq neg (.tup [.int a, .int b, .int c]) (.tup [.int x, .int y, .int z]) = some (.bl (if neg then !decide ([a, b, c] = [x, y, z]) else decide ([a, b, c] = [x, y, z]))) := by
  unfold gEq
  rw [show gEqB (.tup [.int a, .int b, .int c]) (.tup [.int x, .int y, .int z]) = some (decide ([a, b, c] = [x, y, z])) from ev_eqTs [a, b, c] [x, y, z]]
  rfl
theorem ev_eqT2 (neg : Bool) (a b x y : Int) : gEq neg (.tup [.int a, .int b]) (.tup [.int x, .int y]) = some (.bl (if neg then !decide ([a, b] = [x, y]) else decide ([a, b] = [x, y]))) := by
  unfold gEq
  rw [show gEqB (.tup [.int a, .int b]) (.tup [.int x, .int y]) = some (decide ([a, b] = [x, y])) from ev_eqTs [a, b] [x, y]]
  rfl

/-! ## repr of whole numbers and tuples of them -/
/-- numbers that repr writes without a limit -/
def Sm (n : Int) : Prop := n.natAbs.log2 < 1920
theorem sm_of {n : Int} (h : n.natAbs < 10 ^ 60) : Sm n := by
  refine log2_lt (by omega) (Nat.lt_of_lt_of_le (m := 2 ^ 200) ?_ (Nat.pow_le_pow_right (by omega) (by omega)))
  exact Nat.lt_of_lt_of_le h (by decide)
theorem ev_reprI {n : Int} (h : Sm n) : gRepr [.int n] = some (.str (PyData.int n).shown) := by
  unfold gRepr
  show (if (PyData.int n).showable = true ∧ (PyData.int n).hasDict = false ∧ (PyData.int n).depth ≤ 60 ∧ wtP (.int n) ≤ 16000000 then some (D.str (PyData.int n).shown) else none) = _
  have h' : n.natAbs.log2 < 1920 := h
  refine if_pos ⟨?_, rfl, Nat.zero_le _, by show 1922 ≤ 16000000; omega⟩
  simp [PyData.showable, h']
theorem ev_reprB (b : Bool) : gRepr [.bl b] = some (.str (PyData.bool b).shown) := by
  cases b <;> rfl
theorem ev_reprT3 {a b c : Int} (h1 : Sm a) (h2 : Sm b) (h3 : Sm c) : gRepr [.tup [.int a, .int b, .int c]] = some (.str (PyData.tuple [.int a, .int b, .int c]).shown) := by
  unfold gRepr
  show (if (PyData.tuple [.int a, .int b, .int c]).showable = true ∧ (PyData.tuple [.int a, .int b, .int c]).hasDict = false ∧ (PyData.tuple [.int a, .int b, .int c]).depth ≤ 60 ∧ wtP (PyData.tuple [.int a, .int b, .int c]) ≤ 16000000 then some (D.str (PyData.tuple [.int a, .int b, .int c]).shown) else none) = _
  refine if_pos ⟨?_, rfl, by show 1 ≤ 60; omega, ?_⟩
  · have h1' : a.natAbs.log2 < 1920 := h1
    have h2' : b.natAbs.log2 < 1920 := h2
    have h3' : c.natAbs.log2 < 1920 := h3
    simp [PyData.showable, PyData.showableAll, h1', h2', h3']
  · simp [wtP, wtPs]
end PV

namespace PV
open PySem PySem.Spec PyProof.Rows L2

/-! ## the head's hook with one more fact -/
abbrev AlE := Bool × He.AlD
def obsE (n : Nat) (fa : List He.Fa) (fn : List He.DefD) (ex : PySem.W.Frag → Bool) (g : Addr → Option Obj) : AlE := (ex (He.frG g (He.asD g n)), He.obsD fa fn (He.frG g (He.asD g n)))
def hookE (n : Nat) (fa : List He.Fa) (fn : List He.DefD) (ex : PySem.W.Frag → Bool) : PySem.W.Hook where
  α := AlE
  obs := fun s => obsE n fa fn ex s.heap.get?
  val := fun _ => (true, He.valD fn)
  says := fun _ h => ∃ K : PySem.W.Frag, K.In h ∧ He.SaysD fa fn K ∧ ex K = true
  of := fun _ _ e => ⟨_, He.frG_in, congrArg (fun z : AlE => z.2) e, congrArg (fun z : AlE => z.1) e⟩
  keeps := fun _ _ _ ⟨K, hK, c⟩ k => ⟨K, PySem.W.Frag.In.keeps hK k, c⟩
theorem obsE_eq {n : Nat} {fa : List He.Fa} {fn : List He.DefD} {ex : PySem.W.Frag → Bool} {g : Addr → Option Obj} {s : Shared} (h : ∀ a, g a = s.heap.get? a) : obsE n fa fn ex g = (hookE n fa fn ex).obs s := by
  have e : g = s.heap.get? := funext h
  rw [e] <;> rfl
end PV
namespace PV
open PySem PySem.Spec PyProof.Rows L2
theorem FunD.fd_eq {K : PySem.W.Frag} {x x' qual qual' : Str} {params params' : Arguments} {body body' : List Stmt} {scope scope' : Scope} {dvs dvs' : List V} {kws kws' : List (Str × V)} {f : Addr} {fd fd' : FuncData} (F : L2.FunD K x qual params body scope dvs kws f fd) (F' : L2.FunD K x' qual' params' body' scope' dvs' kws' f fd') : fd = fd' := by
  obtain ⟨oc, od, dV, kV, doc, pm, an, cdv, ct, osl, _, lk, _, _, _⟩ := F.ex
  obtain ⟨oc', od', dV', kV', doc', pm', an', cdv', ct', osl', _, lk', _, _, _⟩ := F'.ex
  rw [lk] at lk'
  injection lk' with e
  injection e with e1 e2 e3
  injection e3
end PV

namespace PV
open PySem PySem.Spec PyProof.Rows L2

/-! ## over a tuple -/
theorem itt_sq {K : PySem.W.Frag} {F : Addr → Prop} {H : Hp} {a : Addr} {vs : List V} {ds : List D} (sq : ∀ F' H', Ext F H F' H' → SqT K H' a vs) (r : Reps K F H vs ds) : ItD K (Itt K a) F H ds := by
  refine ⟨fun F' H' i e hi => ?_, fun F' H' i x H2 e hi ⟨e2, k⟩ => ?_, fun F' H' i e hi => ⟨vs, sq F' H' e, by rw [r.length]; exact hi⟩⟩
  · have hi' : i < vs.length := by rw [r.length]; exact hi
    exact ⟨vs, vs[i], sq F' H' e, List.getElem?_eq_getElem hi'⟩
  · have q := k vs (sq F' H' e)
    obtain ⟨d, hd, rd⟩ := r.getV q
    exact ⟨d, hd, .inl ⟨e2, rd.mono e⟩⟩
theorem itd_tup {K : PySem.W.Frag} {F : Addr → Prop} {H : Hp} {a : Addr} {ds : List D} (h : Rep K F H (.ref a) (.tup ds)) : ItD K (Itt K a) F H ds := by
  cases h with
  | tup f q r => exact itt_sq (fun F' H' ex => SqT.of (ex.kp a _ f q)) r
  | tupK q r => exact itt_sq (fun F' H' ex => .inr q) r
def iTupD (f : Env → R D) (δ : Env) : R (List D) := (f δ).bind fun x δ1 => match x with
  | .tup l => .ok l δ1
  | _ => .bad
theorem di_tup {X : Cx} {c : FC} {e tg : Expr} {fe : Env → R D} (h : DE X c e fe) : DI X c tg e (iTupD fe) :=
  PI.imp (pi_tup h) fun σ H Q ⟨F, ow, δ, w, g1⟩ => by
    refine ⟨F, ow, δ, w, ?_⟩
    unfold iTupD at g1
    cases q : fe δ with
    | bad => rw [q] at g1; exact g1
    | ok d δ1 =>
      rw [q, R.bind_ok] at g1
      intro F' ow' H' v ex w' r
      cases d with
      | tup l =>
        obtain ⟨a, vs, rfl, h, r1⟩ := r.tup_inv
        exact ⟨a, rfl, ⟨vs, h⟩, g1 F' ow' H' _ ex w' (itd_tup r)⟩
      | _ => exact g1.elim

/-! ## two fors in a comprehension -/
theorem ItD.mono {K : PySem.W.Frag} {J : It} {F F' : Addr → Prop} {H H' : Hp} {l : List D} (h : ItD K J F H l) (e : Ext F H F' H') : ItD K J F' H' l :=
  ⟨fun F2 H2 i e2 => h.go F2 H2 i (e.trans e2), fun F2 H2 i x H3 e2 => h.yld F2 H2 i x H3 (e.trans e2), fun F2 H2 i e2 => h.stop F2 H2 i (e.trans e2)⟩
/-- one block's loop, by its reading: what it appends to the list at Dn -/
theorem lc_walk {X : Cx} {c : FC} {gT : TG} {gd : D → Env → Option Env} {ft : Env → R Bool} {fe : Env → R D} {vs : List Nat} (ok : TgOk X.K gT gd vs) {σ : L2.St} {F1 : Addr → Prop} {ow1 : Addr → Option Nat} {H1 : Hp} {J : It} {items : List D} (it : ItD X.K J F1 H1 items) {Dn : Addr} {accv0 : List V} {acc0 ys : List D} {δ0 δ2 : Env} {Fin : Hp → Prop}
    (w0 : W X.K c F1 ow1 H1 (L2.wipe σ vs) δ0) (nf0 : ¬ F1 Dn) (no0 : ow1 Dn = none) (nD : c.fp0 Dn ∨ c.H0 Dn = none) (hDn0 : H1 Dn = some (.lst accv0)) (rac0 : Reps X.K F1 H1 accv0 acc0) (hl0 : lcLoop gd ft fe vs items δ0 = .ok ys δ2) (hz : (acc0 ++ ys).length ≤ 16000000)
    (fin : ∀ F' ow' H' accv, Ext F1 H1 F' H' → W X.K c F' ow' H' (L2.wipe σ vs) δ2 → ¬ F' Dn → ow' Dn = none → H' Dn = some (.lst accv) → Reps X.K F' H' accv (acc0 ++ ys) → Fin H') :
    ∃ Wv : Nat → Nat → Hp → Prop, (∃ m, Wv 0 m H1) ∧ ∀ i m H, Wv i m H → (J.stop i H ∧ Fin H) ∨ (J.go i H ∧ ∃ Nx : Hp → Prop, (∀ H', Nx H' → ∃ m', m' < m ∧ Wv (i + 1) m' H') ∧ ∀ x H', J.yld i H x H' → gT x (L2.wipe σ vs) H' fun σ2 H2 => L2.wipe σ2 vs = L2.wipe σ vs ∧ (fun σ H Q => ∃ c', c'.at = none ∧ tBn X.K c' ft σ H Q : TT) σ2 H2 fun b H3 =>
      if b = true then (fun σ H Q => ∃ c', c'.at = none ∧ tD X.K c' fe σ H Q : TE) σ2 H3 fun y H4 => ∃ acc, H4 Dn = some (.lst acc) ∧ acc.length < sizeLine ∧ Nx (upd H4 Dn (.lst (acc ++ [y]))) else Nx H3) := by
  refine ⟨fun i m H' => m + i = items.length ∧ ∃ F' ow' δ' accv acc rest, Ext F1 H1 F' H' ∧ W X.K c F' ow' H' (L2.wipe σ vs) δ' ∧ ¬ F' Dn ∧ ow' Dn = none ∧ H' Dn = some (.lst accv) ∧ Reps X.K F' H' accv acc ∧
    lcLoop gd ft fe vs (items.drop i) δ' = .ok rest δ2 ∧ acc ++ rest = acc0 ++ ys, ⟨items.length, rfl, F1, ow1, δ0, accv0, acc0, ys, Ext.refl _ _, w0, nf0, no0, hDn0, rac0, hl0, rfl⟩, ?_⟩
  rintro i m H2 ⟨hm, F2, ow2, δ3, accv, acc, rest, e2, w2, nf, no, hDn, rac, hl, hys⟩
  rcases Nat.lt_or_ge i items.length with hlt | hge
  · refine .inr ⟨it.go F2 H2 i e2 hlt, fun H' => ∃ F' ow' δ' accv acc rest, Ext F1 H1 F' H' ∧ W X.K c F' ow' H' (L2.wipe σ vs) δ' ∧ ¬ F' Dn ∧ ow' Dn = none ∧ H' Dn = some (.lst accv) ∧ Reps X.K F' H' accv acc ∧
      lcLoop gd ft fe vs (items.drop (i + 1)) δ' = .ok rest δ2 ∧ acc ++ rest = acc0 ++ ys, fun H' hN => ⟨m - 1, by omega, by omega, hN⟩, fun x H3 hy => ?_⟩
    obtain ⟨d, hd, hx⟩ := it.yld F2 H2 i x H3 e2 hlt hy
    have hdrop : items.drop i = d :: items.drop (i + 1) := by
      have h1 := (List.getElem?_eq_some_iff.mp hd)
      rw [← h1.2]; exact List.drop_eq_getElem_cons h1.1
    rw [hdrop] at hl
    unfold lcLoop at hl
    have wi := w2.inner (p := Dn) no
    obtain ⟨F3, e3, w3, r3⟩ : ∃ F3, Ext F2 H2 F3 H3 ∧ W X.K ⟨F2, H2, fun a => ow2 a ≠ none ∧ a ≠ Dn, none⟩ F3 ow2 H3 (L2.wipe σ vs) δ3 ∧ Rep X.K F3 H3 x d := by
      rcases hx with ⟨rfl, r⟩ | ⟨T, o, rfl, hT, rfl, r⟩
      · exact ⟨F2, Ext.refl _ _, wi, r⟩
      · exact ⟨_, Ext.new wi hT, wi.new hT, r⟩
    have w3' := w3.wipe vs fun v _ => by show (none : Option Nat) ≠ some v; simp
    rw [wipe_wipe] at w3'
    cases q3 : gd d (wipeE δ3 vs) with
    | none => rw [q3] at hl; cases hl
    | some δ4 =>
      rw [q3] at hl
      dsimp only at hl
      refine ok _ F3 ow2 H3 (L2.wipe σ vs) (wipeE δ3 vs) δ4 x d _ (fun v _ => by show (none : Option Nat) ≠ some v; simp) w3' r3 q3 fun σ4 w4 l4 n4 => ?_
      have hw4 : L2.wipe σ4 vs = L2.wipe σ vs := (wipe_ext l4 n4).trans wipe_wipe
      refine ⟨hw4, _, rfl, F3, ow2, δ4, w4, ?_⟩
      cases q4 : ft δ4 with
      | bad => rw [q4] at hl; cases hl
      | ok b δ5 =>
        rw [q4, R.bind_ok] at hl
        intro F5 ow5 H5 b' e5 w5 rb
        subst rb
        have kD : ∀ {F' ow' H' σ' δ'}, W X.K ⟨F2, H2, fun a => ow2 a ≠ none ∧ a ≠ Dn, none⟩ F' ow' H' σ' δ' → H' Dn = some (.lst accv) ∧ ¬ F' Dn ∧ ow' Dn = none := fun {F' ow' H' σ' δ'} w' => by
          refine ⟨w'.kp Dn _ hDn fun z => z.2 rfl, fun f => ?_, ?_⟩
          · rcases (w'.ft Dn f).2 with z | z | z
            · exact nf z
            · exact z.2 rfl
            · rw [show H2 Dn = none from z] at hDn; cases hDn
          · cases q : ow' Dn with
            | none => rfl
            | some k =>
              rcases (w'.df Dn k q).2.2 with z | z
              · exact absurd rfl z.2
              · rw [show H2 Dn = none from z] at hDn; cases hDn
        have back : ∀ {F' ow' H' δ'}, W X.K ⟨F2, H2, fun a => ow2 a ≠ none ∧ a ≠ Dn, none⟩ F' ow' H' σ4 δ' → W X.K c F' ow' H' (L2.wipe σ vs) (wipeE δ' vs) := fun {F' ow' H' δ'} w' => by
          have w6 := w'.wipe vs fun v _ => by show (none : Option Nat) ≠ some v; simp
          rw [hw4] at w6
          exact w6.toC (w2.sub Dn) w2.io
        cases b' with
        | false =>
          rw [if_neg Bool.false_ne_true] at hl ⊢
          obtain ⟨k1, k2, k3⟩ := kD w5
          exact ⟨F5, ow5, wipeE δ5 vs, accv, acc, rest, e2.trans (e3.trans e5), back w5, k2, k3, k1, rac.mono (e3.trans e5), hl, hys⟩
        | true =>
          rw [if_pos rfl] at hl ⊢
          refine ⟨_, rfl, F5, ow5, δ5, w5, ?_⟩
          cases q6 : fe δ5 with
          | bad => rw [q6] at hl; cases hl
          | ok y δ6 =>
            rw [q6, R.bind_ok] at hl
            cases q7 : lcLoop gd ft fe vs (items.drop (i + 1)) (wipeE δ6 vs) with
            | bad => rw [q7] at hl; cases hl
            | ok rest' δ7 =>
              rw [q7, R.bind_ok] at hl
              obtain ⟨hr1, hr2⟩ : y :: rest' = rest ∧ δ7 = δ2 := by injection hl with a b; exact ⟨a, b⟩
              intro F6 ow6 H6 yv e6 w6 ry
              obtain ⟨k1, k2, k3⟩ := kD w6
              have ln := rac.length
              have := line16
              have hlen : acc.length + (rest'.length + 1) ≤ 16000000 := by
                have h1 := hz
                rw [← hys, ← hr1, List.length_append, List.length_cons] at h1
                exact h1
              have eu := (Ext.updOut (F := F6) (H := H6) (o := HO.lst (accv ++ [yv])) k2)
              exact ⟨accv, k1, by omega, F6, ow6, wipeE δ6 vs, accv ++ [yv], acc ++ [y], rest', e2.trans (e3.trans (e5.trans (e6.trans eu))), (back w6).updOut k2 k3 nD, k2, k3, upd_same,
                (rac.mono (e3.trans (e5.trans (e6.trans eu)))).append (.cons (ry.mono eu) .nil), by rw [q7, hr2], by rw [List.append_assoc]; show acc ++ (y :: rest') = _; rw [hr1]; exact hys⟩
  · refine .inl ⟨it.stop F2 H2 i e2 hge, ?_⟩
    rw [List.drop_eq_nil_of_le hge] at hl
    obtain ⟨h1, h2⟩ : ([] : List D) = rest ∧ δ3 = δ2 := by unfold lcLoop at hl; injection hl with a b; exact ⟨a, b⟩
    subst h1; subst h2
    rw [List.append_nil] at hys
    subst hys
    exact fin F2 ow2 H2 accv e2 w2 nf no hDn rac
def lc2Loop (g : D → Env → Option Env) (t : Env → R Bool) (f1 : Env → R (List D)) (g1 : D → Env → Option Env) (t1 : Env → R Bool) (e : Env → R D) (vs vs1 : List Nat) : List D → Env → R (List D)
  | [], δ => .ok [] δ
  | d :: ds, δ => match g d (wipeE δ vs) with
    | none => .bad
    | some δ1 => (t δ1).bind fun b δ2 => if b = true then (f1 δ2).bind fun items δ3 => (lcLoop g1 t1 e vs1 items (wipeE δ3 vs1)).bind fun ys δ4 => (lc2Loop g t f1 g1 t1 e vs vs1 ds (wipeE δ4 vs)).bind fun zs δ5 => .ok (ys ++ zs) δ5 else lc2Loop g t f1 g1 t1 e vs vs1 ds (wipeE δ2 vs)
def dLc2 (f : Env → R (List D)) (g : D → Env → Option Env) (t : Env → R Bool) (f1 : Env → R (List D)) (g1 : D → Env → Option Env) (t1 : Env → R Bool) (e : Env → R D) (vs vs1 : List Nat) (δ : Env) : R D := (f δ).bind fun items δ1 => (lc2Loop g t f1 g1 t1 e vs vs1 items (wipeE δ1 vs)).bind fun ys δ2 =>
  if ys.length ≤ 16000000 ∧ δ2.length = δ1.length then .ok (.lst ys) (restE δ1 δ2 vs) else .bad
theorem wipe_sub {σ σ2 : L2.St} {vs vs1 : List Nat} (hs : ∀ i ∈ vs1, i ∈ vs) (h : L2.wipe σ2 vs1 = L2.wipe σ vs1) : L2.wipe σ2 vs = L2.wipe σ vs := by
  have hl : σ2.length = σ.length := by have := congrArg List.length h; rwa [wipe_length, wipe_length] at this
  refine wipe_ext hl fun i hi => ?_
  have h1 : i ∉ vs1 := fun z => hi (hs i z)
  have := congrArg (fun l : L2.St => l[i]?) h
  simpa only [wipe_get h1] using this
theorem lc2_imp {X : Cx} {c : FC} {fi f1 : Env → R (List D)} {gT gT1 : TG} {gd gd1 : D → Env → Option Env} {ft ft1 : Env → R Bool} {fe : Env → R D} {vs vs1 : List Nat} (hvs : ∀ i ∈ vs, c.at ≠ some i) (hsub : ∀ i ∈ vs1, i ∈ vs) (ok : TgOk X.K gT gd vs) (ok1 : TgOk X.K gT1 gd1 vs1) (σ : L2.St) (H : Hp) (Q : VK) (h : tD X.K c (dLc2 fi gd ft f1 gd1 ft1 fe vs vs1) σ H Q) :
    tLc2 (tIt X.K c fi) gT (fun σ H Q => ∃ c', c'.at = none ∧ tBn X.K c' ft σ H Q) (fun σ H Rr => ∃ c', c'.at = none ∧ tIt X.K c' f1 σ H Rr) gT1 (fun σ H Q => ∃ c', c'.at = none ∧ tBn X.K c' ft1 σ H Q) (fun σ H Q => ∃ c', c'.at = none ∧ tD X.K c' fe σ H Q) vs vs1 σ H Q := by
  obtain ⟨F, ow, δ, w, g1⟩ := h
  refine ⟨F, ow, δ, w, ?_⟩
  unfold dLc2 at g1
  cases q : fi δ with
  | bad => rw [q] at g1; exact g1
  | ok items δ1 =>
    rw [q, R.bind_ok] at g1
    cases q2 : lc2Loop gd ft f1 gd1 ft1 fe vs vs1 items (wipeE δ1 vs) with
    | bad => rw [q2] at g1; exact g1.elim
    | ok ys δ2 =>
      rw [q2, R.bind_ok] at g1
      split at g1
      · rename_i hz
        intro F1 ow1 H1 J e1 w1 it Dn hD
        obtain ⟨f1', f2, f3⟩ := w1.fresh hD
        have nD : c.fp0 Dn ∨ c.H0 Dn = none := f3
        refine ⟨fun i m H' => m + i = items.length ∧ ∃ F' ow' δ' accv acc rest, Ext F1 H1 F' H' ∧ W X.K c F' ow' H' (L2.wipe σ vs) δ' ∧ ¬ F' Dn ∧ ow' Dn = none ∧ H' Dn = some (.lst accv) ∧ Reps X.K F' H' accv acc ∧
          lc2Loop gd ft f1 gd1 ft1 fe vs vs1 (items.drop i) δ' = .ok rest δ2 ∧ acc ++ rest = ys, ⟨items.length, rfl, F1, ow1, wipeE δ1 vs, [], [], ys, Ext.updOut f2, (w1.updOut f2 f1' f3).wipe vs hvs, f2, f1', upd_same, .nil, q2, rfl⟩, ?_⟩
        rintro i m H2 ⟨hm, F2, ow2, δ3, accv, acc, rest, e2, w2, nf, no, hDn, rac, hl, hys⟩
        rcases Nat.lt_or_ge i items.length with hlt | hge
        · refine .inr ⟨it.go F2 H2 i e2 hlt, fun H' => ∃ F' ow' δ' accv acc rest, Ext F1 H1 F' H' ∧ W X.K c F' ow' H' (L2.wipe σ vs) δ' ∧ ¬ F' Dn ∧ ow' Dn = none ∧ H' Dn = some (.lst accv) ∧ Reps X.K F' H' accv acc ∧
            lc2Loop gd ft f1 gd1 ft1 fe vs vs1 (items.drop (i + 1)) δ' = .ok rest δ2 ∧ acc ++ rest = ys, fun H' hN => ⟨m - 1, by omega, by omega, hN⟩, fun x H3 hy => ?_⟩
          obtain ⟨d, hd, hx⟩ := it.yld F2 H2 i x H3 e2 hlt hy
          have hdrop : items.drop i = d :: items.drop (i + 1) := by
            have h1 := (List.getElem?_eq_some_iff.mp hd)
            rw [← h1.2]; exact List.drop_eq_getElem_cons h1.1
          rw [hdrop] at hl
          unfold lc2Loop at hl
          have wi := w2.inner (p := Dn) no
          obtain ⟨F3, e3, w3, r3⟩ : ∃ F3, Ext F2 H2 F3 H3 ∧ W X.K ⟨F2, H2, fun a => ow2 a ≠ none ∧ a ≠ Dn, none⟩ F3 ow2 H3 (L2.wipe σ vs) δ3 ∧ Rep X.K F3 H3 x d := by
            rcases hx with ⟨rfl, r⟩ | ⟨T, o, rfl, hT, rfl, r⟩
            · exact ⟨F2, Ext.refl _ _, wi, r⟩
            · exact ⟨_, Ext.new wi hT, wi.new hT, r⟩
          have w3' := w3.wipe vs fun v _ => by show (none : Option Nat) ≠ some v; simp
          rw [wipe_wipe] at w3'
          cases q3 : gd d (wipeE δ3 vs) with
          | none => rw [q3] at hl; cases hl
          | some δ4 =>
            rw [q3] at hl
            dsimp only at hl
            refine ok _ F3 ow2 H3 (L2.wipe σ vs) (wipeE δ3 vs) δ4 x d _ (fun v _ => by show (none : Option Nat) ≠ some v; simp) w3' r3 q3 fun σ4 w4 l4 n4 => ?_
            have hw4 : L2.wipe σ4 vs = L2.wipe σ vs := (wipe_ext l4 n4).trans wipe_wipe
            have io4 : ∀ j a, c.io = some (j, a) → σ4[j]? = some (some a) := fun j a e => by
              have z := w2.io j a e
              have hj : j ∉ vs := fun hm => by
                have hlen : j < σ.length := by
                  have := (List.getElem?_eq_some_iff.mp z).1
                  rwa [wipe_length] at this
                rw [wipe_in hlen hm] at z; cases z
              rw [← hw4, wipe_get hj] at z
              exact z
            refine ⟨hw4, _, rfl, F3, ow2, δ4, w4, ?_⟩
            have kD : ∀ {F' ow' H' σ' δ'}, W X.K ⟨F2, H2, fun a => ow2 a ≠ none ∧ a ≠ Dn, none⟩ F' ow' H' σ' δ' → H' Dn = some (.lst accv) ∧ ¬ F' Dn ∧ ow' Dn = none := fun {F' ow' H' σ' δ'} w' => by
              refine ⟨w'.kp Dn _ hDn fun z => z.2 rfl, fun f => ?_, ?_⟩
              · rcases (w'.ft Dn f).2 with z | z | z
                · exact nf z
                · exact z.2 rfl
                · rw [show H2 Dn = none from z] at hDn; cases hDn
              · cases q : ow' Dn with
                | none => rfl
                | some k =>
                  rcases (w'.df Dn k q).2.2 with z | z
                  · exact absurd rfl z.2
                  · rw [show H2 Dn = none from z] at hDn; cases hDn
            cases q4 : ft δ4 with
            | bad => rw [q4] at hl; cases hl
            | ok b δ5 =>
              rw [q4, R.bind_ok] at hl
              intro F5 ow5 H5 b' e5 w5 rb
              subst rb
              obtain ⟨k1, k2, k3⟩ := kD w5
              cases b' with
              | false =>
                rw [if_neg Bool.false_ne_true] at hl ⊢
                have w6 := w5.wipe vs fun v _ => by show (none : Option Nat) ≠ some v; simp
                rw [hw4] at w6
                exact ⟨F5, ow5, wipeE δ5 vs, accv, acc, rest, e2.trans (e3.trans e5), w6.toC (w2.sub Dn) w2.io, k2, k3, k1, rac.mono (e3.trans e5), hl, hys⟩
              | true =>
                rw [if_pos rfl] at hl ⊢
                refine ⟨_, rfl, F5, ow5, δ5, w5, ?_⟩
                cases q5 : f1 δ5 with
                | bad => rw [q5] at hl; cases hl
                | ok items1 δ6 =>
                  rw [q5, R.bind_ok] at hl
                  cases q6 : lcLoop gd1 ft1 fe vs1 items1 (wipeE δ6 vs1) with
                  | bad => rw [q6] at hl; cases hl
                  | ok ys1 δ7 =>
                    rw [q6, R.bind_ok] at hl
                    cases q7 : lc2Loop gd ft f1 gd1 ft1 fe vs vs1 (items.drop (i + 1)) (wipeE δ7 vs) with
                    | bad => rw [q7] at hl; cases hl
                    | ok zs δ8 =>
                      rw [q7, R.bind_ok] at hl
                      obtain ⟨hr1, hr2⟩ : ys1 ++ zs = rest ∧ δ8 = δ2 := by injection hl with a b; exact ⟨a, b⟩
                      intro F6 ow6 H6 J1 e6 w6 it1
                      obtain ⟨k61, k62, k63⟩ := kD w6
                      have w6c := (w6.toC (w2.sub Dn) io4).wipe vs1 fun v hv => hvs v (hsub v hv)
                      refine lc_walk ok1 it1 w6c k62 k63 nD k61 (rac.mono (e3.trans (e5.trans e6))) q6 ?_ fun F' ow' H' accv' ex' w' nf' no' hD' rac' => ?_
                      · have h1 := hz.1
                        rw [← hys, ← hr1, ← List.append_assoc, List.length_append] at h1
                        omega
                      · have w7 := w'.wipe vs hvs
                        have ew : L2.wipe (L2.wipe σ4 vs1) vs = L2.wipe σ vs := (wipe_sub hsub (wipe_wipe (σ := σ4) (vs := vs1))).trans hw4
                        rw [ew] at w7
                        exact ⟨F', ow', wipeE δ7 vs, accv', acc ++ ys1, zs, e2.trans (e3.trans (e5.trans (e6.trans ex'))), w7, nf', no', hD', rac', by rw [q7, hr2], by rw [List.append_assoc, hr1]; exact hys⟩
        · refine .inl ⟨it.stop F2 H2 i e2 hge, ?_⟩
          rw [List.drop_eq_nil_of_le hge] at hl
          obtain ⟨h1, h2⟩ : ([] : List D) = rest ∧ δ3 = δ2 := by unfold lc2Loop at hl; injection hl with a b; exact ⟨a, b⟩
          subst h1; subst h2
          rw [List.append_nil] at hys
          subst hys
          have w9 := (w1.rest e2 w2 hz.2).freeze no (by rw [hDn]; simp) nD
          have ef : Ext F2 H2 (fun a => F2 a ∨ a = Dn) H2 := ⟨fun _ z => .inl z, fun _ _ _ z => z⟩
          exact g1 _ ow2 H2 (.ref Dn) (e1.trans (e2.trans ef)) w9 (.lst (.inr rfl) hDn (rac.mono ef))
      · exact g1.elim
theorem de_lc2 {X : Cx} {c : FC} {elt tg iter tg1 iter1 : Expr} {ifs ifs1 : List Expr} {scope : Scope} {own : List (Str × Nat)} {vs1 : List Nat} {pos : Pos} {fi f1 : Env → R (List D)} {gT gT1 : TG} {gd gd1 : D → Env → Option Env} {ft ft1 : Env → R Bool} {fe : Env → R D} (hc : X.calm = true) (hN : X.N.Nodup)
    (hvs : ∀ i ∈ own.map (·.2), c.at ≠ some i) (hsub : ∀ i ∈ vs1, i ∈ own.map (·.2)) (hi : DI X c tg iter fi) (ok : BlkOk X.N X.env.scope scope own)
    (hg : ∀ (s : Shared) (H : Hp) (C : Addr) (cl : List (Str × Addr)) (fp : List Addr), PG (X.blk s H scope (compEnvC scope cl C X.env) fp) tg gT) (tok : TgOk X.K gT gd (own.map (·.2)))
    (ht : ∀ (c' : FC) (s : Shared) (H : Hp) (C : Addr) (cl : List (Str × Addr)) (fp : List Addr), c'.at = none → DTs (X.blk s H scope (compEnvC scope cl C X.env) fp) c' ifs ft)
    (hi1 : ∀ (c' : FC) (s : Shared) (H : Hp) (C : Addr) (cl : List (Str × Addr)) (fp : List Addr), c'.at = none → DI (X.blk s H scope (compEnvC scope cl C X.env) fp) c' tg1 iter1 f1)
    (hg1 : ∀ (s : Shared) (H : Hp) (C : Addr) (cl : List (Str × Addr)) (fp : List Addr), PG (X.blk s H scope (compEnvC scope cl C X.env) fp) tg1 gT1) (tok1 : TgOk X.K gT1 gd1 vs1)
    (ht1 : ∀ (c' : FC) (s : Shared) (H : Hp) (C : Addr) (cl : List (Str × Addr)) (fp : List Addr), c'.at = none → DTs (X.blk s H scope (compEnvC scope cl C X.env) fp) c' ifs1 ft1)
    (he : ∀ (c' : FC) (s : Shared) (H : Hp) (C : Addr) (cl : List (Str × Addr)) (fp : List Addr), c'.at = none → DE (X.blk s H scope (compEnvC scope cl C X.env) fp) c' elt fe) (hs : ∀ x, foldedSetIterable iter X.env x = pure x := by intro _; rfl) (hs1 : ∀ env x, foldedSetIterable iter1 env x = pure x := by intro _ _; rfl) :
    DE X c (.ListComp elt [⟨tg, iter, ifs, 0⟩, ⟨tg1, iter1, ifs1, 0⟩] scope pos) (dLc2 fi gd ft f1 gd1 ft1 fe (own.map (·.2)) vs1) :=
  PE.imp (pe_lc2 (vs1 := vs1) hc hN hi ok hsub hg (fun s H C cl fp => ⟨fun pins s' σ H' Q I ⟨c', h1, h2⟩ => (ht c' s H C cl fp h1).run pins s' σ H' Q I h2⟩)
    (fun s H C cl fp => ⟨fun pins s' σ H' Q I ⟨c', h1, h2⟩ => (hi1 c' s H C cl fp h1).run pins s' σ H' Q I h2⟩) hg1 (fun s H C cl fp => ⟨fun pins s' σ H' Q I ⟨c', h1, h2⟩ => (ht1 c' s H C cl fp h1).run pins s' σ H' Q I h2⟩)
    (fun s H C cl fp => ⟨fun pins s' σ H' Q I ⟨c', h1, h2⟩ => (he c' s H C cl fp h1).run pins s' σ H' Q I h2⟩) hs hs1) (lc2_imp hvs hsub tok tok1)
end PV

namespace PV
open PySem PySem.Spec PyProof.Rows L2
/-! ## a call, whatever is called -/
/-- n positional values, keywords ks, defaults dd, in the parameters' order by ix -/
def KBd (K : PySem.W.Frag) (fd : FuncData) (ps : List Str) (n : Nat) (ks : List Str) (ix : List Nat) (dd : List D) : Prop :=
  ∃ (dvs : List V) (dsv : List Value), Vals dvs dsv ∧ (∀ F H, Reps K F H dvs dd) ∧ ∀ (s : Shared) (us ws : List Value), K.In s.heap → us.length = n → ws.length = ks.length → BindsTo s fd ⟨us, ks.zip ws⟩ (ps.zip (pick ix (us ++ ws ++ dsv)))
def mirD (M : Mir) (ds : List D) : Option D := match M ds .emp with
  | some (.p d, _) => some d
  | _ => none
/-- what runs at f: MD says the result -/
def RunsD (X : Cx) (f : Value) (n : Nat) (ks : List Str) (ix : List Nat) (dd : List D) (MD : List D → Option D) : Prop :=
  ∀ (pins : List (Addr × Obj)) (σ : L2.St) (H : Hp) (s : Shared) (Q : VK) (us ws : List Value) (vs zs : List V) (c : FC) (F : Addr → Prop) (ow : Addr → Option Nat) (δ : Env) (ds es : List D) (d : D),
    Inv X pins σ H s → Vals vs us → Vals zs ws → vs.length = n → zs.length = ks.length → W X.K c F ow H σ δ → Reps X.K F H vs ds → Reps X.K F H zs es → MD (pick ix (ds ++ es ++ dd)) = some d →
    Go X.K c (Rep X.K) F H σ (.ok d δ) Q → codeAny (model X.prog X.w) X.A (.call f ⟨us, ks.zip ws⟩) (fun r s' => match r with | .ok (.ret v) => EP X pins σ Q v s' | .ok _ => False | .error e => X.xe e s') s
theorem mirD_inv {M : Mir} {ds : List D} {d : D} (h : mirD M ds = some d) : ∃ s', M ds .emp = some (.p d, s') := by
  unfold mirD at h
  split at h
  · rename_i d' s' e; cases h; exact ⟨s', e⟩
  · cases h
section
variable {X : Cx} {c : FC} {k k2 n : Nat} {f C : Addr} {fd : FuncData} {ps ks : List Str} {ix : List Nat} {dd : List D} {M : Mir}
theorem runs_fn (Fn : FnA X.prog X.w X.K X.mg X.base CX0 k f fd ps (spF X.K ps.length none M)) (hg : X.A.guards = some []) (hr : Room k X.A) (hb : KBd X.K fd ps n ks ix dd) (hl : ix.length = ps.length) (hbd : ∀ i ∈ ix, i < n + ks.length + dd.length) :
    RunsD X (.ref f) n ks ix dd (mirD M) := by
  intro pins σ H s Q us ws vs zs c F ow δ ds es d I rv rz l1 l2 w r1 r2 hM g
  obtain ⟨s', hM⟩ := mirD_inv hM
  obtain ⟨dvs, dsv, rd, rdd, hbt⟩ := hb
  have e1 : us.length = n := rv.length.symm.trans l1
  have e2 : ws.length = ks.length := rz.length.symm.trans l2
  have rr := (r1.append r2).append (rdd F H)
  have hlen : (pick ix (ds ++ es ++ dd)).length = ps.length := by
    rw [pick_length (fun i hi => ?_), hl]
    have := hbd i hi
    rw [List.length_append, List.length_append, ← r1.length, ← r2.length, l1, l2]; exact this
  have sp := call_pure (E := E0) (M := M) w (pick_reps (ix := ix) rr) hlen hM g
  refine (codeAny_mono (Fn.run X.A X.stack s H ⟨us, ks.zip ws⟩ (pick ix (us ++ ws ++ dsv)) _ Q E0 hg hr I.env0 (hbt s us ws I.kIn e1 e2) (pick_vals ((rv.append rz).append rd)) sp) ?_)
  intro out s' hq
  match out, hq with
  | .error e, hq => exact hq.elim
  | .ok (.ret u), hq => exact I.after hq
def makeD (x : Str) (M : Mir) (ds : List D) : Option D := match M ds (.ob x [] []) with
  | some (.p .non, .ob y ks l) => if y = x then some (.obj x ks l) else none
  | _ => none
theorem makeD_inv {x : Str} {ds : List D} {d : D} (h : makeD x M ds = some d) : ∃ ks l, M ds (.ob x [] []) = some (.p .non, .ob x ks l) ∧ d = .obj x ks l := by
  unfold makeD at h
  split at h
  · rename_i y ks l e
    split at h
    · rename_i hy; subst hy; cases h; exact ⟨ks, l, e, rfl⟩
    · cases h
  · cases h
theorem pick_succ {α : Type} (a : α) (l : List α) : ∀ ix : List Nat, pick (ix.map (· + 1)) (a :: l) = pick ix l
  | [] => rfl
  | i :: r => by
    unfold pick
    rw [List.map_cons, List.filterMap_cons, List.filterMap_cons, List.getElem?_cons_succ]
    have := pick_succ a l r
    unfold pick at this
    rw [this]
theorem pick_zero {α : Type} (a : α) (l : List α) (ix : List Nat) : pick (0 :: ix.map (· + 1)) (a :: l) = a :: pick ix l := by
  rw [← pick_succ a l ix]; rfl
theorem guards_under {A : Around} {C : Addr} {us : List Value} {kw : List (Str × Value)} : (A.under (.builtin "type.__call__" ⟨.ref C :: us, kw⟩)).guards = A.guards := by
  first | rfl | simp [Around.under, Code.weight, Code.isCreation, Code.isGuard, Code.isCaller, Code.frames, Code.isFrame, guardIds]
theorem runs_make {x : Str} (Mk : L2.Mk X.K (He.ga X.K x) f) (Fn : FnA X.prog X.w X.K X.mg X.base CX0 k f fd ps (spF X.K ps.length (some 0) M)) (hg : X.A.guards = some []) (hr : Room (k + 1) X.A) (hb : KBd X.K fd ps (n + 1) ks (0 :: ix.map (· + 1)) dd)
    (hl : ix.length + 1 = ps.length) (hbd : ∀ i ∈ ix, i < n + ks.length + dd.length) : RunsD X (.ref (He.ga X.K x)) n ks ix dd (makeD x M) := by
  intro pins σ H s Q us ws vs zs c F ow δ ds es d I rv rz l1 l2 w r1 r2 hM g
  obtain ⟨fk, fl, hM1, rfl⟩ := makeD_inv hM
  obtain ⟨dvs, dsv, rd, rdd, hbt⟩ := hb
  have e1 : us.length = n := rv.length.symm.trans l1
  have e2 : ws.length = ks.length := rz.length.symm.trans l2
  have hx : H (s.heap.objs.size + 1) = none := I.hok.fresh (Nat.le_succ _)
  have hdx : H s.heap.objs.size = none := I.hok.fresh (Nat.le_refl _)
  have I2 := Inv.made (C := He.ga X.K x) I
  generalize hp : s.heap.objs.size + 1 = p at *
  generalize hd0 : s.heap.objs.size = dx at *
  have ndx : dx ≠ p := by omega
  generalize hH1 : upd (upd H dx (.own p)) p (.ins (He.ga X.K x) dx []) = H1 at *
  have k1 : ∀ a o, H a = some o → H1 a = some o := fun a o e => by
    rw [← hH1, upd_ne (ne_of_none e hx), upd_ne (ne_of_none e hdx)]; exact e
  have ex1 : Ext F H F H1 := ⟨fun _ h => h, fun a o _ e => k1 a o e⟩
  have hpp : H1 p = some (.ins (He.ga X.K x) dx []) := by rw [← hH1, upd_same]
  have nFp : ¬ F p := fun h => (w.ft p h).1 hx
  have rr := ((r1.append r2).append (rdd F H)).mono ex1
  have hlen : (pick ix (vs ++ zs ++ dvs)).length + 1 = ps.length := by
    rw [pick_length (fun i hi => ?_), hl]
    have := hbd i hi
    rw [List.length_append, List.length_append, l1, l2, (rdd F H).length]; exact this
  have sp : spF X.K ps.length (some 0) M (.ref p :: pick ix (vs ++ zs ++ dvs)) H1 (fun v H3 => v = .non ∧ Q (.ref p) H3) E0 := by
    refine ⟨by rw [List.length_cons]; exact hlen, F, fun a => a = p, pick ix (ds ++ es ++ dd), .ob x [] [], ⟨pick_reps rr, .ref p, rfl, ?_⟩, fun a e => by subst e; exact ⟨nFp, by rw [hpp]; simp⟩, fun a fa => ?_, _, _, hM1, fun F' P' P2 H' v ext kp ff pp p2 hio rv' => ?_⟩
    · exact .ob (ks := []) (vs := []) rfl hpp .nil rfl
    · have h0 := (w.ft a fa).1
      cases q : H a with
      | none => exact absurd q h0
      | some o => rw [k1 a o q]; simp
    · have hv : v = .non := by cases rv' with | p r => exact r.non_inv
      refine ⟨hv, ?_⟩
      have hs := hio 0 rfl (.ref p) rfl
      cases hs with
      | ob pa hh rl ll =>
        have fz : ∀ a, F' a → H' a ≠ none ∧ (F a ∨ H a = none) := fun a fa => ⟨(ff a fa).1, by
          rcases (ff a fa).2 with z | z | z
          · exact .inl z
          · subst z; exact .inr hx
          · right
            cases q : H a with
            | none => rfl
            | some o => rw [k1 a o q] at z; cases z⟩
        have kp2 : ∀ a o, H a = some o → H' a = some o := fun a o e => kp a o (k1 a o e) (ne_of_none e hx)
        have w2 : W X.K c F' ow H' σ δ := w.after (ex1.trans ext) kp2 fz
        have oz : ow p = none := (w.fresh hx).1
        have nz : c.fp0 p ∨ c.H0 p = none := (w.fresh hx).2.2
        have w3 := w2.freeze (p := p) oz (by rw [hh]; simp) nz
        have ex3 : Ext F' H' (fun a => F' a ∨ a = p) H' := ⟨fun _ h => .inl h, fun _ _ _ e => e⟩
        exact g (fun a => F' a ∨ a = p) ow H' (.ref p) ((ex1.trans ext).trans ex3) w3 (.obj (.inr rfl) hh (rl.mono ex3) ll)
  have eb := hbt { s with heap := (s.heap.push PySem.W.emptyDict).push (PySem.W.instObj (He.ga X.K x) dx) } (.ref p :: us) ws I2.kIn (by rw [List.length_cons, e1]) e2
  have epk : pick (0 :: ix.map (· + 1)) (Value.ref p :: us ++ ws ++ dsv) = .ref p :: pick ix (us ++ ws ++ dsv) := pick_zero _ _ _
  rw [epk] at eb
  subst hp
  subst hd0
  refine (make_map (f := f) I.kIn Mk.makes Mk.init (beq_iff_eq.mp Mk.fn) (codeAny_mono (Fn.run _ X.stack _ _ ⟨_, ks.zip ws⟩ (.ref (s.heap.objs.size + 1) :: pick ix (us ++ ws ++ dsv)) _ _ E0 (guards_under.trans hg) (hr.make _ us (ks.zip ws))
    (I2.env0.make _ us (ks.zip ws)) eb (.cons (show RelV (V.ref _) (Value.ref _) from rfl) (pick_vals ((rv.append rz).append rd))) sp) fun out s' hq => ?_))
  match out, hq with
  | .error e, hq => exact hq.elim
  | .ok (.ret u), hq =>
    obtain ⟨v, H', I3, rv3, ev, q3⟩ := I2.after hq
    subst ev
    exact ⟨rv3, ⟨V.ref (s.heap.objs.size + 1), H', I3, rfl, q3⟩⟩
end
end PV

namespace PV
open PySem PySem.Spec PyProof.Rows L2
/-! ## calls as expressions -/
def dApp (n m : Nat) (ix : List Nat) (dd : List D) (MD : List D → Option D) (f g : Env → R (List D)) (δ : Env) : R D := (f δ).bind fun ds δ1 => (g δ1).bind fun es δ2 =>
  if ds.length = n ∧ es.length = m then (match MD (pick ix (ds ++ es ++ dd)) with
    | some d => .ok d δ2
    | none => .bad) else .bad
section
variable {X : Cx} {c : FC} {n m0 : Nat} {ks : List Str} {ix : List Nat} {dd : List D} {MD : List D → Option D} {x : Str} {p pos apos : Pos} {e o : Expr} {es : List Expr} {kws : List Keyword} {fa fk : Env → R (List D)} {fo : Env → R D}
/-- what the arguments' values are asked for -/
def AskA (X : Cx) (c : FC) (pins : List (Addr × Obj)) (σ : L2.St) (Q : VK) (F1 : Addr → Prop) (H1 : Hp) (n m : Nat) (P : (Addr → Prop) → Hp → List V → List V → (VK) → Prop) : Prop := True
theorem arg_imp {r1 : R (List D)} {F : Addr → Prop} {H : Hp} {σ : L2.St} {Q : VK} {k : List D → Env → R D} (g : Go X.K c (Rep X.K) F H σ (r1.bind k) Q) :
    Go X.K c (Reps X.K) F H σ r1 fun vs H1 => ∃ F1 ow1 ds δ1, Ext F H F1 H1 ∧ W X.K c F1 ow1 H1 σ δ1 ∧ Reps X.K F1 H1 vs ds ∧ Go X.K c (Rep X.K) F1 H1 σ (k ds δ1) Q :=
  Go.imp (fun v H1 ⟨F1, ow1, ds, δ1, e1, w1, r, _, g2⟩ => ⟨F1, ow1, ds, δ1, e1, w1, r, g2⟩) (Go.bind (rep := Reps X.K) g)

theorem cw {P : Heap → Prop} {fv : Value} {first : List Value} {pins : List (Addr × Obj)} {s : Shared} {σ : L2.St} {H : Hp} {Q : VK} {F : Addr → Prop} {ow : Addr → Option Nat} {δ : Env}
    (hkp : ∀ h, P h → ∃ k, (k = Keeper.frame ∨ k = Keeper.machine ∨ k = Keeper.boundFrame) ∧ PySem.W.Looks (model X.prog X.w) h (keeperOf fv) k) (ha : DA X c (e :: es) fa) (hkw : DK X c kws fk) (hall : (backToKw pos (keywordEach kws X.env)).all (·.1.isSome) = true) (hks : (backToKw pos (keywordEach kws X.env)).filterMap (·.1) = ks)
    (hpl : ((backTo pos (starEach (e :: es) X.env)).any (·.1) || (backToKw pos (keywordEach kws X.env)).any (·.1.isNone)) = false) (he : starEach (e :: es) X.env = (false, eval e X.env) :: starEach es X.env)
    (I : Inv X pins σ H s) (w : W X.K c F ow H σ δ) (g : Go X.K c (Rep X.K) F H σ (dApp n ks.length ix dd MD fa fk δ) Q)
    (hrun : ∀ s2 H2 us ws vs zs F2 ow2 δ2 ds es d, Inv X pins σ H2 s2 → Vals vs us → Vals zs ws → vs.length = n → zs.length = ks.length → Ext F H F2 H2 → W X.K c F2 ow2 H2 σ δ2 → Reps X.K F2 H2 vs ds → Reps X.K F2 H2 zs es → MD (pick ix (ds ++ es ++ dd)) = some d →
      Go X.K c (Rep X.K) F2 H2 σ (.ok d δ2) Q → P s2.heap ∧ wpAny (model X.prog X.w) X.A (call fv (first ++ us) (ks.zip ws)) (EP X pins σ Q) X.xe s2) :
    wpAny (model X.prog X.w) X.A (callWith pos fv first (backTo pos (starEach (e :: es) X.env)) (backToKw pos (keywordEach kws X.env))) (EP X pins σ Q) X.xe s := by
  refine PySem.W.callWith_of (P := P) hpl hkp (evalArgs_kw2 hall (thn (ha.run pos pins s σ H _ I ⟨F, ow, δ, w, arg_imp g⟩) ?_) he)
  rintro us s1 ⟨vs, H1, I1, rv, F1, ow1, ds, δ1, e1, w1, r1, g1⟩
  refine thn (hkw.run pos pins s1 σ H1 _ I1 ⟨F1, ow1, δ1, w1, arg_imp g1⟩) ?_
  rintro ws s2 ⟨zs, H2, I2, rz, F2, ow2, es', δ2, e2, w2, r2, g2⟩
  split at g2
  · rename_i hl
    split at g2
    · rename_i d hM
      rw [hks]
      exact hrun s2 H2 us ws vs zs F2 ow2 δ2 ds es' d I2 rv rz (r1.length.trans hl.1) (r2.length.trans hl.2) (e1.trans e2) w2 (r1.mono e2) r2 hM g2
    · exact g2.elim
  · exact g2.elim

theorem cw0 {P : Heap → Prop} {fv : Value} {first : List Value} {pins : List (Addr × Obj)} {s : Shared} {σ : L2.St} {H : Hp} {Q : VK} {F : Addr → Prop} {ow : Addr → Option Nat} {δ : Env}
    (hkp : ∀ h, P h → ∃ k, (k = Keeper.frame ∨ k = Keeper.machine ∨ k = Keeper.boundFrame) ∧ PySem.W.Looks (model X.prog X.w) h (keeperOf fv) k)  (hkw : DK X c kws fk) (hall : (backToKw pos (keywordEach kws X.env)).all (·.1.isSome) = true) (hks : (backToKw pos (keywordEach kws X.env)).filterMap (·.1) = ks)
    (hpl : ((backTo pos (starEach [] X.env)).any (·.1) || (backToKw pos (keywordEach kws X.env)).any (·.1.isNone)) = false) 
    (I : Inv X pins σ H s) (w : W X.K c F ow H σ δ) (g : Go X.K c (Rep X.K) F H σ (dApp n ks.length ix dd MD dNil fk δ) Q)
    (hrun : ∀ s2 H2 us ws vs zs F2 ow2 δ2 ds es d, Inv X pins σ H2 s2 → Vals vs us → Vals zs ws → vs.length = n → zs.length = ks.length → Ext F H F2 H2 → W X.K c F2 ow2 H2 σ δ2 → Reps X.K F2 H2 vs ds → Reps X.K F2 H2 zs es → MD (pick ix (ds ++ es ++ dd)) = some d →
      Go X.K c (Rep X.K) F2 H2 σ (.ok d δ2) Q → P s2.heap ∧ wpAny (model X.prog X.w) X.A (call fv (first ++ us) (ks.zip ws)) (EP X pins σ Q) X.xe s2) :
    wpAny (model X.prog X.w) X.A (callWith pos fv first (backTo pos (starEach [] X.env)) (backToKw pos (keywordEach kws X.env))) (EP X pins σ Q) X.xe s := by
  refine PySem.W.callWith_of (P := P) hpl hkp (evalArgs_kw2_nil hall ?_)
  have g0 : Go X.K c (Rep X.K) F H σ ((fk δ).bind fun es δ2 => if ([] : List D).length = n ∧ es.length = ks.length then (match MD (pick ix ([] ++ es ++ dd)) with
    | some d => .ok d δ2
    | none => .bad) else .bad) Q := g
  refine thn (hkw.run pos pins s σ H _ I ⟨F, ow, δ, w, arg_imp g0⟩) ?_
  rintro ws s2 ⟨zs, H2, I2, rz, F2, ow2, es', δ2, e2, w2, r2, g2⟩
  split at g2
  · rename_i hl
    split at g2
    · rename_i d hM
      rw [hks]
      exact hrun s2 H2 [] ws [] zs F2 ow2 δ2 [] es' d I2 .nil rz hl.1 (r2.length.trans hl.2) e2 w2 .nil r2 hM g2
    · exact g2.elim
  · exact g2.elim

def dCMeth (y : Str) (n k : Nat) (ix : List Nat) (dd : List D) (MD : List D → Option D) (fo : Env → R D) (f g : Env → R (List D)) (δ : Env) : R D := (fo δ).bind fun o δ1 => match o with
  | .cls z => if z = y then dApp n k ix dd (fun a => MD (.cls y :: a)) f g δ1 else .bad
  | _ => .bad
def dAppL (i : Nat) (y : Str) (n m : Nat) (ix : List Nat) (dd : List D) (MD : List D → Option D) (f g : Env → R (List D)) (δ : Env) : R D := match δ[i]? with
  | some (.p (.cls z)) => if z = y then dApp n m ix dd MD f g δ else .bad
  | _ => .bad
def dMeth (y m : Str) (n k : Nat) (ix : List Nat) (dd : List D) (MD : List D → Option D) (fo : Env → R D) (f g : Env → R (List D)) (δ : Env) : R D := (fo δ).bind fun o δ1 => match o with
  | .obj y' ks l => if y' = y ∧ m ∉ ks then dApp n k ix dd (fun a => MD (.obj y' ks l :: a)) f g δ1 else .bad
  | _ => .bad
theorem lookup_zip_none {m : Str} : ∀ {ks : List Str}, m ∉ ks → ∀ vs : List V, (ks.zip vs).lookup m = none
  | [], _, _ => rfl
  | _ :: _, _, [] => rfl
  | k :: ks, h, v :: vs => by
    have h1 : (m == k) = false := by
      have : m ≠ k := fun e => h (by rw [e]; exact List.mem_cons_self)
      simpa using this
    rw [List.zip_cons_cons, List.lookup_cons, h1]
    exact lookup_zip_none (fun z => h (List.mem_cons_of_mem _ z)) vs

/-- a global name that holds a def or a class -/
theorem de_app {f : Addr} (hg : Gl X x) (hm : X.mg x = some (.ref f)) (hk : PySem.W.keepIn X.K (.ref f) = true) (R : RunsD X (.ref f) n ks ix dd MD) (hn : ks.length = m0) (ha : DA X c (e :: es) fa) (hkw : DK X c kws fk)
    (hall : (backToKw pos (keywordEach kws X.env)).all (·.1.isSome) = true := by rfl) (hks : (backToKw pos (keywordEach kws X.env)).filterMap (·.1) = ks := by rfl)
    (hpl : ((backTo pos (starEach (e :: es) X.env)).any (·.1) || (backToKw pos (keywordEach kws X.env)).any (·.1.isNone)) = false := by rfl) (he : starEach (e :: es) X.env = (false, eval e X.env) :: starEach es X.env := by rfl) (hdb : (x == ("__debug__" : Str)) = false := by decide) :
    DE X c (.Call (.Name x p) (e :: es) kws pos) (dApp n m0 ix dd MD fa fk) := by
  subst hn
  constructor
  intro pins s σ H Q I ⟨F, ow, δ, w, g⟩
  refine wpAny_Call_Name_kw (ld_glob I hg hm ?_ hdb)
  refine cw (P := X.K.In) (n := n) (ks := ks) (ix := ix) (dd := dd) (MD := MD) (fun h k => PySem.W.keeps_K hk h k) ha hkw hall hks hpl he I w g fun s2 H2 us ws vs zs F2 ow2 δ2 ds es' d I2 rv rz l1 l2 ex w2 r1 r2 hM g2 => ⟨I2.kIn, ?_⟩
  exact wpAny_call (R pins σ H2 s2 Q us ws vs zs c F2 ow2 δ2 ds es' d I2 rv rz l1 l2 w2 r1 r2 hM g2)
/-- a local name that holds a class -/
theorem de_appL {y : Str} (i : Nat) (hv : PE X (.Name x p) (tVar i)) (hk : PySem.W.keepIn X.K (.ref (He.ga X.K y)) = true) (R : RunsD X (.ref (He.ga X.K y)) n ks ix dd MD) (hn : ks.length = m0) (ha : DA X c (e :: es) fa) (hkw : DK X c kws fk)
    (hall : (backToKw pos (keywordEach kws X.env)).all (·.1.isSome) = true := by rfl) (hks : (backToKw pos (keywordEach kws X.env)).filterMap (·.1) = ks := by rfl)
    (hpl : ((backTo pos (starEach (e :: es) X.env)).any (·.1) || (backToKw pos (keywordEach kws X.env)).any (·.1.isNone)) = false := by rfl) (he : starEach (e :: es) X.env = (false, eval e X.env) :: starEach es X.env := by rfl) :
    DE X c (.Call (.Name x p) (e :: es) kws pos) (dAppL i y n m0 ix dd MD fa fk) := by
  subst hn
  constructor
  intro pins s σ H Q I ⟨F, ow, δ, w, g⟩
  unfold dAppL at g
  split at g
  · rename_i z q
    split at g
    · rename_i hz
      subst hz
      obtain ⟨v, ev, r⟩ := w.pur q
      refine wpAny_Call_Name_kw (thn (hv.run pins s σ H (fun v' H1 => v' = v ∧ H1 = H) I ⟨v, ev, rfl, rfl⟩) ?_)
      rintro u s1 ⟨v', H1, I1, rv1, e1, e2⟩
      subst e1; subst e2
      cases r with
      | cls =>
        cases (show u = _ from rv1)
        refine cw (P := X.K.In) (n := n) (ks := ks) (ix := ix) (dd := dd) (MD := MD) (fun h k => PySem.W.keeps_K hk h k) ha hkw hall hks hpl he I1 w g fun s2 H2 us ws vs zs F2 ow2 δ2 ds es' d I2 rv rz l1 l2 ex w2 r1 r2 hM g2 => ⟨I2.kIn, ?_⟩
        exact wpAny_call (R pins σ H2 s2 Q us ws vs zs c F2 ow2 δ2 ds es' d I2 rv rz l1 l2 w2 r1 r2 hM g2)
    · exact g.elim
  · exact g.elim
/-- o.m(..), o an instance -/
theorem de_meth {f : Addr} {y m : Str} {pl : Sem Bool} (ho : DE X c o fo) (cl : Cls X.K (He.ga X.K y)) (hm : Meth X.K (He.ga X.K y) m f) (R : RunsD X (.ref f) (n + 1) ks (0 :: ix.map (· + 1)) dd MD) (hn : ks.length = m0) (ha : DA X c (e :: es) fa) (hkw : DK X c kws fk)
    (hall : (backToKw pos (keywordEach kws X.env)).all (·.1.isSome) = true := by rfl) (hks : (backToKw pos (keywordEach kws X.env)).filterMap (·.1) = ks := by rfl)
    (hpl : ((backTo pos (starEach (e :: es) X.env)).any (·.1) || (backToKw pos (keywordEach kws X.env)).any (·.1.isNone)) = false := by rfl) (he : starEach (e :: es) X.env = (false, eval e X.env) :: starEach es X.env := by rfl)
    (ht : eval (.Call (.Attribute o m apos) (e :: es) kws pos) X.env = (do
      let ov ← eval o X.env
      standAt apos.atName
      let (f, first) ← holding [ov] (getMethod ov m pl)
      callWith pos f first (backTo pos (starEach (e :: es) X.env)) (backToKw pos (keywordEach kws X.env))) := by rfl) :
    DE X c (.Call (.Attribute o m apos) (e :: es) kws pos) (dMeth y m n m0 ix dd MD fo fa fk) := by
  subst hn
  constructor
  intro pins s σ H Q I ⟨F, ow, δ, w, g⟩
  refine PySem.W.methodCall_KW (pl := pl) (thn (ho.run pins s σ H _ I ⟨F, ow, δ, w, Go.bind (rep := Rep X.K) g⟩) ?_) ht
  rintro u s1 ⟨v, H1, I1, rv1, F1, ow1, d, δ1, e1, w1, r0, _, g1⟩
  cases d with
  | obj y' kf lf =>
    dsimp only at g1
    split at g1
    · rename_i hy
      obtain ⟨rfl, hlk⟩ := hy
      obtain ⟨a, dx, vf, rfl, fa1, ha1, rf, lf1⟩ := r0.obj_inv
      obtain rfl : u = Value.ref a := rv1
      have hl0 : (kf.zip vf).lookup m = none := lookup_zip_none hlk vf
      refine getmeth_ok I1 ha1 cl hm hl0 ?_
      refine cw (P := X.K.In) (n := n) (ks := ks) (ix := ix) (dd := dd) (MD := fun l => MD (.obj y' kf lf :: l)) (fun h k => PySem.W.keeps_K hm.kp h k) ha hkw hall hks hpl he I1 w1 g1 fun s2 H2 us ws vs zs F2 ow2 δ2 ds es' d2 I2 rv rz l1 l2 ex w2 r1 r2 hM g2 => ⟨I2.kIn, ?_⟩
      refine wpAny_call (R pins σ H2 s2 Q (.ref a :: us) ws (.ref a :: vs) zs c F2 ow2 δ2 (.obj y' kf lf :: ds) es' d2 I2 (.cons (show RelV (V.ref a) (Value.ref a) from rfl) rv) rz (by rw [List.length_cons, l1]) l2 w2 (.cons (r0.mono ex) r1) r2 ?_ g2)
      rw [List.cons_append, List.cons_append, pick_zero]; exact hM
    · exact g1.elim
  | _ => exact g1.elim
/-- C.m(..), m a classmethod -/
theorem de_cmeth {q f : Addr} {y m : Str} {mc : Value} {pl : Sem Bool} (ho : DE X c o fo) (rd : ClX.CRead X.K (He.ga X.K y) mc) (hm : ClX.CMet X.K (He.ga X.K y) mc m q f) (R : RunsD X (.ref f) (n + 1) ks (0 :: ix.map (· + 1)) dd MD) (hn : ks.length = m0) (ha : DA X c (e :: es) fa) (hkw : DK X c kws fk)
    (hall : (backToKw pos (keywordEach kws X.env)).all (·.1.isSome) = true := by rfl) (hks : (backToKw pos (keywordEach kws X.env)).filterMap (·.1) = ks := by rfl)
    (hpl : ((backTo pos (starEach (e :: es) X.env)).any (·.1) || (backToKw pos (keywordEach kws X.env)).any (·.1.isNone)) = false := by rfl) (he : starEach (e :: es) X.env = (false, eval e X.env) :: starEach es X.env := by rfl)
    (ht : eval (.Call (.Attribute o m apos) (e :: es) kws pos) X.env = (do
      let ov ← eval o X.env
      standAt apos.atName
      let (f, first) ← holding [ov] (getMethod ov m pl)
      callWith pos f first (backTo pos (starEach (e :: es) X.env)) (backToKw pos (keywordEach kws X.env))) := by rfl) :
    DE X c (.Call (.Attribute o m apos) (e :: es) kws pos) (dCMeth y n m0 ix dd MD fo fa fk) := by
  subst hn
  constructor
  intro pins s σ H Q I ⟨F, ow, δ, w, g⟩
  refine PySem.W.methodCall_KW (pl := pl) (thn (ho.run pins s σ H _ I ⟨F, ow, δ, w, Go.bind (rep := Rep X.K) g⟩) ?_) ht
  rintro u s1 ⟨v, H1, I1, rv1, F1, ow1, d, δ1, e1, w1, r0, _, g1⟩
  cases d with
  | cls y' =>
    dsimp only at g1
    split at g1
    · rename_i hy
      subst hy
      cases r0 with
      | cls =>
      obtain rfl : u = Value.ref _ := rv1
      refine ClX.getmethcm_ok I1 rd hm fun s2 I2 => ?_
      refine thn (cw (P := fun h => PySem.W.MethP X.K s1.heap.objs.size f (.ref (He.ga X.K y')) h) (n := n) (ks := ks) (ix := ix) (dd := dd) (MD := fun l => MD (.cls y' :: l)) (fun h k => PySem.W.keeps_M hm.fi h k) ha hkw hall hks hpl he I2 w1 g1 fun s3 H3 us ws vs zs F2 ow2 δ2 ds es' d2 I3 rv rz l1 l2 ex w2 r1 r2 hM g2 => ⟨⟨ClX.pin_at I3, I3.kIn⟩, ?_⟩) fun _ _ z => ClX.unpinE z
      refine wpAny_call (PySem.W.method_call (ClX.pin_at I3) (R _ σ H3 s3 Q (.ref (He.ga X.K y') :: us) ws (.ref (He.ga X.K y') :: vs) zs c F2 ow2 δ2 (.cls y' :: ds) es' d2 I3 (.cons (show RelV (V.ref _) (Value.ref _) from rfl) rv) rz (by rw [List.length_cons, l1]) l2 w2 (.cons (.cls y') r1) r2 ?_ g2))
      rw [List.cons_append, List.cons_append, pick_zero]; exact hM
    · exact g1.elim
  | _ => exact g1.elim

/-- a global name that holds a def or a class -/
theorem de_app0 {f : Addr} (hg : Gl X x) (hm : X.mg x = some (.ref f)) (hk : PySem.W.keepIn X.K (.ref f) = true) (R : RunsD X (.ref f) n ks ix dd MD) (hn : ks.length = m0)  (hkw : DK X c kws fk)
    (hall : (backToKw pos (keywordEach kws X.env)).all (·.1.isSome) = true := by rfl) (hks : (backToKw pos (keywordEach kws X.env)).filterMap (·.1) = ks := by rfl)
    (hpl : ((backTo pos (starEach [] X.env)).any (·.1) || (backToKw pos (keywordEach kws X.env)).any (·.1.isNone)) = false := by rfl)  (hdb : (x == ("__debug__" : Str)) = false := by decide) :
    DE X c (.Call (.Name x p) [] kws pos) (dApp n m0 ix dd MD dNil fk) := by
  subst hn
  constructor
  intro pins s σ H Q I ⟨F, ow, δ, w, g⟩
  refine wpAny_Call_Name_kw (ld_glob I hg hm ?_ hdb)
  refine cw0 (P := X.K.In) (n := n) (ks := ks) (ix := ix) (dd := dd) (MD := MD) (fun h k => PySem.W.keeps_K hk h k)  hkw hall hks hpl  I w g fun s2 H2 us ws vs zs F2 ow2 δ2 ds es' d I2 rv rz l1 l2 ex w2 r1 r2 hM g2 => ⟨I2.kIn, ?_⟩
  exact wpAny_call (R pins σ H2 s2 Q us ws vs zs c F2 ow2 δ2 ds es' d I2 rv rz l1 l2 w2 r1 r2 hM g2)
/-- a local name that holds a class -/
theorem de_appL0 {y : Str} (i : Nat) (hv : PE X (.Name x p) (tVar i)) (hk : PySem.W.keepIn X.K (.ref (He.ga X.K y)) = true) (R : RunsD X (.ref (He.ga X.K y)) n ks ix dd MD) (hn : ks.length = m0)  (hkw : DK X c kws fk)
    (hall : (backToKw pos (keywordEach kws X.env)).all (·.1.isSome) = true := by rfl) (hks : (backToKw pos (keywordEach kws X.env)).filterMap (·.1) = ks := by rfl)
    (hpl : ((backTo pos (starEach [] X.env)).any (·.1) || (backToKw pos (keywordEach kws X.env)).any (·.1.isNone)) = false := by rfl)  :
    DE X c (.Call (.Name x p) [] kws pos) (dAppL i y n m0 ix dd MD dNil fk) := by
  subst hn
  constructor
  intro pins s σ H Q I ⟨F, ow, δ, w, g⟩
  unfold dAppL at g
  split at g
  · rename_i z q
    split at g
    · rename_i hz
      subst hz
      obtain ⟨v, ev, r⟩ := w.pur q
      refine wpAny_Call_Name_kw (thn (hv.run pins s σ H (fun v' H1 => v' = v ∧ H1 = H) I ⟨v, ev, rfl, rfl⟩) ?_)
      rintro u s1 ⟨v', H1, I1, rv1, e1, e2⟩
      subst e1; subst e2
      cases r with
      | cls =>
        cases (show u = _ from rv1)
        refine cw0 (P := X.K.In) (n := n) (ks := ks) (ix := ix) (dd := dd) (MD := MD) (fun h k => PySem.W.keeps_K hk h k)  hkw hall hks hpl  I1 w g fun s2 H2 us ws vs zs F2 ow2 δ2 ds es' d I2 rv rz l1 l2 ex w2 r1 r2 hM g2 => ⟨I2.kIn, ?_⟩
        exact wpAny_call (R pins σ H2 s2 Q us ws vs zs c F2 ow2 δ2 ds es' d I2 rv rz l1 l2 w2 r1 r2 hM g2)
    · exact g.elim
  · exact g.elim
/-- o.m(..), o an instance -/
theorem de_meth0 {f : Addr} {y m : Str} {pl : Sem Bool} (ho : DE X c o fo) (cl : Cls X.K (He.ga X.K y)) (hm : Meth X.K (He.ga X.K y) m f) (R : RunsD X (.ref f) (n + 1) ks (0 :: ix.map (· + 1)) dd MD) (hn : ks.length = m0)  (hkw : DK X c kws fk)
    (hall : (backToKw pos (keywordEach kws X.env)).all (·.1.isSome) = true := by rfl) (hks : (backToKw pos (keywordEach kws X.env)).filterMap (·.1) = ks := by rfl)
    (hpl : ((backTo pos (starEach [] X.env)).any (·.1) || (backToKw pos (keywordEach kws X.env)).any (·.1.isNone)) = false := by rfl) 
    (ht : eval (.Call (.Attribute o m apos) [] kws pos) X.env = (do
      let ov ← eval o X.env
      standAt apos.atName
      let (f, first) ← holding [ov] (getMethod ov m pl)
      callWith pos f first (backTo pos (starEach [] X.env)) (backToKw pos (keywordEach kws X.env))) := by rfl) :
    DE X c (.Call (.Attribute o m apos) [] kws pos) (dMeth y m n m0 ix dd MD fo dNil fk) := by
  subst hn
  constructor
  intro pins s σ H Q I ⟨F, ow, δ, w, g⟩
  refine PySem.W.methodCall_KW (pl := pl) (thn (ho.run pins s σ H _ I ⟨F, ow, δ, w, Go.bind (rep := Rep X.K) g⟩) ?_) ht
  rintro u s1 ⟨v, H1, I1, rv1, F1, ow1, d, δ1, e1, w1, r0, _, g1⟩
  cases d with
  | obj y' kf lf =>
    dsimp only at g1
    split at g1
    · rename_i hy
      obtain ⟨rfl, hlk⟩ := hy
      obtain ⟨a, dx, vf, rfl, fa1, ha1, rf, lf1⟩ := r0.obj_inv
      obtain rfl : u = Value.ref a := rv1
      have hl0 : (kf.zip vf).lookup m = none := lookup_zip_none hlk vf
      refine getmeth_ok I1 ha1 cl hm hl0 ?_
      refine cw0 (P := X.K.In) (n := n) (ks := ks) (ix := ix) (dd := dd) (MD := fun l => MD (.obj y' kf lf :: l)) (fun h k => PySem.W.keeps_K hm.kp h k)  hkw hall hks hpl  I1 w1 g1 fun s2 H2 us ws vs zs F2 ow2 δ2 ds es' d2 I2 rv rz l1 l2 ex w2 r1 r2 hM g2 => ⟨I2.kIn, ?_⟩
      refine wpAny_call (R pins σ H2 s2 Q (.ref a :: us) ws (.ref a :: vs) zs c F2 ow2 δ2 (.obj y' kf lf :: ds) es' d2 I2 (.cons (show RelV (V.ref a) (Value.ref a) from rfl) rv) rz (by rw [List.length_cons, l1]) l2 w2 (.cons (r0.mono ex) r1) r2 ?_ g2)
      rw [List.cons_append, List.cons_append, pick_zero]; exact hM
    · exact g1.elim
  | _ => exact g1.elim
/-- C.m(..), m a classmethod -/
theorem de_cmeth0 {q f : Addr} {y m : Str} {mc : Value} {pl : Sem Bool} (ho : DE X c o fo) (rd : ClX.CRead X.K (He.ga X.K y) mc) (hm : ClX.CMet X.K (He.ga X.K y) mc m q f) (R : RunsD X (.ref f) (n + 1) ks (0 :: ix.map (· + 1)) dd MD) (hn : ks.length = m0)  (hkw : DK X c kws fk)
    (hall : (backToKw pos (keywordEach kws X.env)).all (·.1.isSome) = true := by rfl) (hks : (backToKw pos (keywordEach kws X.env)).filterMap (·.1) = ks := by rfl)
    (hpl : ((backTo pos (starEach [] X.env)).any (·.1) || (backToKw pos (keywordEach kws X.env)).any (·.1.isNone)) = false := by rfl) 
    (ht : eval (.Call (.Attribute o m apos) [] kws pos) X.env = (do
      let ov ← eval o X.env
      standAt apos.atName
      let (f, first) ← holding [ov] (getMethod ov m pl)
      callWith pos f first (backTo pos (starEach [] X.env)) (backToKw pos (keywordEach kws X.env))) := by rfl) :
    DE X c (.Call (.Attribute o m apos) [] kws pos) (dCMeth y n m0 ix dd MD fo dNil fk) := by
  subst hn
  constructor
  intro pins s σ H Q I ⟨F, ow, δ, w, g⟩
  refine PySem.W.methodCall_KW (pl := pl) (thn (ho.run pins s σ H _ I ⟨F, ow, δ, w, Go.bind (rep := Rep X.K) g⟩) ?_) ht
  rintro u s1 ⟨v, H1, I1, rv1, F1, ow1, d, δ1, e1, w1, r0, _, g1⟩
  cases d with
  | cls y' =>
    dsimp only at g1
    split at g1
    · rename_i hy
      subst hy
      cases r0 with
      | cls =>
      obtain rfl : u = Value.ref _ := rv1
      refine ClX.getmethcm_ok I1 rd hm fun s2 I2 => ?_
      refine thn (cw0 (P := fun h => PySem.W.MethP X.K s1.heap.objs.size f (.ref (He.ga X.K y')) h) (n := n) (ks := ks) (ix := ix) (dd := dd) (MD := fun l => MD (.cls y' :: l)) (fun h k => PySem.W.keeps_M hm.fi h k)  hkw hall hks hpl  I2 w1 g1 fun s3 H3 us ws vs zs F2 ow2 δ2 ds es' d2 I3 rv rz l1 l2 ex w2 r1 r2 hM g2 => ⟨⟨ClX.pin_at I3, I3.kIn⟩, ?_⟩) fun _ _ z => ClX.unpinE z
      refine wpAny_call (PySem.W.method_call (ClX.pin_at I3) (R _ σ H3 s3 Q (.ref (He.ga X.K y') :: us) ws (.ref (He.ga X.K y') :: vs) zs c F2 ow2 δ2 (.cls y' :: ds) es' d2 I3 (.cons (show RelV (V.ref _) (Value.ref _) from rfl) rv) rz (by rw [List.length_cons, l1]) l2 w2 (.cons (.cls y') r1) r2 ?_ g2))
      rw [List.cons_append, List.cons_append, pick_zero]; exact hM
    · exact g1.elim
  | _ => exact g1.elim

end

section
variable {X : Cx} {c : FC} {ks : List Str} {MD : List D → Option D} {x : Str} {pos : Pos} {a b e : Expr} {fo fa fb : Env → R D}
/-- a global that holds a class -/
theorem de_cls (hg : Gl X x) (hm : X.mg x = some (.ref (He.ga X.K x))) (hd : (x == ("__debug__" : Str)) = false := by decide) : DE X c (.Name x pos) (dC (.cls x)) :=
  de_con (v := .ref (He.ga X.K x)) (pe_glob hg hm rfl hd) fun _ _ => .cls x
/-! ## attributes, properties -/
def fldOf (f : Str) : List Str → List D → Option D
  | k :: ks, d :: ds => if k = f then some d else fldOf f ks ds
  | _, _ => none
theorem fldOf_ok {K : PySem.W.Frag} {F : Addr → Prop} {H : Hp} {f : Str} : ∀ {ks : List Str} {vs : List V} {ds : List D} {d : D}, Reps K F H vs ds → ks.length = vs.length → fldOf f ks ds = some d → ∃ v, (ks.zip vs).lookup f = some v ∧ Rep K F H v d
  | [], _, _, _, _, _, h => by cases h
  | _ :: _, [], _, _, _, l, _ => by cases l
  | k :: ks, v :: vs, _, d, .cons (d := d0) (ds := ds0) r rs, l, h => by
    unfold fldOf at h
    by_cases e : k = f
    · rw [if_pos e] at h
      cases h
      subst e
      exact ⟨v, by rw [List.zip_cons_cons, List.lookup_cons]; simp, r⟩
    · rw [if_neg e] at h
      obtain ⟨v', h1, h2⟩ := fldOf_ok rs (by simpa using l) h
      refine ⟨v', ?_, h2⟩
      have h0 : (f == k) = false := by simpa using fun z => e z.symm
      rw [List.zip_cons_cons, List.lookup_cons, h0]; exact h1
def dFld (y f : Str) (fo : Env → R D) (δ : Env) : R D := (fo δ).bind fun o δ1 => match o with
  | .obj y' ks l => if y' = y then (match fldOf f ks l with
    | some d => .ok d δ1
    | none => .bad) else .bad
  | _ => .bad
theorem de_fld {y f : Str} (ho : DE X c e fo) (cl : Cls X.K (He.ga X.K y)) (na : NoAttr X.K (He.ga X.K y) f) (hb : attributeBase e f X.env (eval e X.env) = eval e X.env := by rfl) : DE X c (.Attribute e f pos) (dFld y f fo) :=
  PE.imp (pe_fld ho hb) fun σ H Q ⟨F, ow, δ, w, g⟩ => ⟨F, ow, δ, w, Go.imp (fun v H1 h1 => by
    obtain ⟨F1, ow1, d, δ1, e1, w1, r1, _, g2⟩ := h1
    cases d with
    | obj y' kf lf =>
      dsimp only at g2
      split at g2
      · rename_i hy
        subst hy
        split at g2
        · rename_i d2 hf
          obtain ⟨a, dx, vf, rfl, fa1, ha1, rf, lf1⟩ := r1.obj_inv
          obtain ⟨v2, hl, r2⟩ := fldOf_ok rf lf1 hf
          exact ⟨a, _, dx, _, v2, rfl, ha1, cl, na, hl, g2 F1 ow1 H1 v2 (Ext.refl _ _) w1 r2⟩
        · exact g2.elim
      · exact g2.elim
    | _ => exact g2.elim) (Go.bind (rep := Rep X.K) g)⟩
def dProp (y : Str) (MD : List D → Option D) (fo : Env → R D) (δ : Env) : R D := (fo δ).bind fun o δ1 => match o with
  | .obj y' ks l => if y' = y then (match MD [.obj y' ks l] with
    | some d => .ok d δ1
    | none => .bad) else .bad
  | _ => .bad
/-- runs one level further in -/
def RunsI (X : Cx) (f : Value) (n : Nat) (MD : List D → Option D) : Prop :=
  ∀ (pins : List (Addr × Obj)) (σ : L2.St) (H : Hp) (s : Shared) (Q : VK) (us : List Value) (vs : List V) (c : FC) (F : Addr → Prop) (ow : Addr → Option Nat) (δ : Env) (ds : List D) (d : D),
    Inv X pins σ H s → Vals vs us → vs.length = n → W X.K c F ow H σ δ → Reps X.K F H vs ds → MD ds = some d →
    Go X.K c (Rep X.K) F H σ (.ok d δ) Q → codeAny (model X.prog X.w) X.A.in1 (.call f ⟨us, []⟩) (fun r s' => match r with | .ok (.ret v) => EP X pins σ Q v s' | .ok _ => False | .error e => False) s
theorem runs_in {k n : Nat} {f : Addr} {fd : FuncData} {ps : List Str} {M : Mir} (Fn : FnA X.prog X.w X.K X.mg X.base CX0 k f fd ps (spF X.K ps.length none M)) (hg : X.A.guards = some []) (hr : Room (k + 1) X.A) (hb : Binds X.K fd ps []) (hl : ps.length = n) : RunsI X (.ref f) n (mirD M) := by
  intro pins σ H s Q us vs c F ow δ ds d I rv l1 w r1 hM g
  obtain ⟨s', hM⟩ := mirD_inv hM
  have e1 : us.length = n := rv.length.symm.trans l1
  have sp := call_pure (n := ps.length) (E := E0) (M := M) w r1 (by rw [← r1.length, l1, hl]) hM g
  have hb' := hb s us I.kIn (by rw [List.append_nil, e1, hl])
  rw [List.append_nil] at hb'
  refine (codeAny_mono (Fn.run X.A.in1 X.stack s H ⟨us, []⟩ us _ Q E0 hg hr.in1 I.env0.in1 hb' rv sp) ?_)
  intro out s' hq
  match out, hq with
  | .error e, hq => exact hq.elim
  | .ok (.ret u), hq => exact I.after hq
theorem de_prop {y f : Str} {p g : Addr} (ho : DE X c e fo) (cl : Cls X.K (He.ga X.K y)) (hp : PropOf X.K (He.ga X.K y) f p g) (R : RunsI X (.ref g) 1 MD) (hb : attributeBase e f X.env (eval e X.env) = eval e X.env := by rfl) : DE X c (.Attribute e f pos) (dProp y MD fo) := by
  constructor
  intro pins s σ H Q I ⟨F, ow, δ, w, gg⟩
  refine attr_of hb (thn (ho.run pins s σ H _ I ⟨F, ow, δ, w, Go.bind (rep := Rep X.K) gg⟩) ?_)
  rintro u s1 ⟨v, H1, I1, rv1, F1, ow1, d, δ1, e1, w1, r0, _, g1⟩
  cases d with
  | obj y' kf lf =>
    dsimp only at g1
    split at g1
    · rename_i hy
      subst hy
      split at g1
      · rename_i d2 hM
        obtain ⟨a, dx, vf, rfl, fa1, ha1, rf, lf1⟩ := r0.obj_inv
        obtain rfl : u = Value.ref a := rv1
        obtain ⟨mA, O, _, _, _, _⟩ := ins_get I1.hok ha1
        obtain ⟨od, J, _⟩ := O.look
        obtain ⟨rest, hrec⟩ := hp.rec_
        have hc : (PySem.W.clsIn X.K (He.ga X.K y')).isSome = true := by
          obtain ⟨cd, hc, _⟩ := PySem.W.any_some cl.hd
          rw [hc]; rfl
        refine PySem.W.get_bind I1.kIn J (PySem.W.plainGet_of (cl.get f)).1 (PySem.W.findObj_data hc hp.at_ hp.get hp.tak) (PySem.W.plainGet_of (cl.get f)).2 (wpAny_call (PySem.W.prop_get (s := { s1 with toks := s1.toks + 1 }) I1.kIn hrec ?_))
        refine codeAny_mono (R pins σ H1 { s1 with toks := s1.toks + 1 } Q [.ref a] [.ref a] c F1 ow1 δ1 [_] d2 (I1.tok _) (.cons (show RelV (V.ref a) (Value.ref a) from rfl) .nil) rfl w1 (.cons r0 .nil) hM g1) fun r s2 hq => ?_
        match r, hq with
        | .error e, hq => exact hq.elim
        | .ok (.ret u), ⟨v2, H2, I2, rv2, q2⟩ =>
          show wpAny _ _ (handedOut u) _ _ _
          rw [PySem.W.handedOut_of (handed_of rv2)]
          exact wpAny_pure ⟨v2, H2, I2, rv2, q2⟩
      · exact g1.elim
    · exact g1.elim
  | _ => exact g1.elim
end

end PV
namespace PV
open PySem PySem.Spec PyProof.Rows L2
/-! ## facts of the text: classes, their methods, properties, classmethods -/
/-- where a def stands -/
structure PDef where
  ad : PySem.W.Frag → Addr
  d : He.DefD
def pAdP (x f : Str) (K : PySem.W.Frag) : Addr := match PySem.W.recIn K (He.ma K (He.ga K x) f) "property" with
  | some (.ref g :: _) => g
  | _ => 0
def pAdC (x f : Str) (K : PySem.W.Frag) : Addr := match PySem.W.recIn K (He.ma K (He.ga K x) f) "classmethod" with
  | some (.ref g :: _) => g
  | _ => 0
def fnP (K : PySem.W.Frag) (a : Addr) : He.FnW := match K.lookup a with
  | some ⟨_, _, .func fd, _⟩ => some (fd.name, fd.qualname, fd.params, fd.body, fd.scope, fd.globals, fd.closure, fd.builtins)
  | _ => none
def okP (K : PySem.W.Frag) (p : PDef) : Bool := PySem.W.keepIn K (.ref (p.ad K)) && (match K.lookup (p.ad K) with
  | some ⟨_, _, .func fd, _⟩ => PySem.W.codeIn K fd.code p.d.qual && (He.dflB K fd.defaults (p.d.dvs K) && He.kwdB K fd.kwdefaults (p.d.kws K))
  | _ => false)
theorem PDef.funD {K : PySem.W.Frag} {p : PDef} (e : fnP K (p.ad K) = p.d.val) (c : okP K p = true) : ∃ fd, FunD K p.d.name p.d.qual p.d.params p.d.body p.d.scope (p.d.dvs K) (p.d.kws K) (p.ad K) fd := by
  obtain ⟨kp, c2⟩ := He.ba c
  unfold fnP at e
  generalize p.ad K = a at *
  cases q : K.lookup a with
  | none => rw [q] at c2; cases c2
  | some o =>
    obtain ⟨oc, od, dt, osl⟩ := o
    rw [q] at c2 e
    cases dt with
    | func fd =>
      obtain ⟨n1, n2, n3, n4, n5, n6, n7, n8, n9, n10, n11, n12, n13, n14, n15⟩ := fd
      have e2 : (some (n1, n2, n3, n4, n5, n6, n7, n15) : He.FnW) = some (p.d.name, p.d.qual, p.d.params, .stmts p.d.body, p.d.scope, mainGlobals, [], builtinsNs) := e
      simp only [Option.some.injEq, Prod.mk.injEq] at e2
      obtain ⟨h1, h2, h3, h4, h5, h6, h7, h8⟩ := e2
      subst h1 h2 h3 h4 h5 h6 h7 h8
      obtain ⟨k1, k2⟩ := He.ba (show (PySem.W.codeIn K n13 p.d.qual && (He.dflB K n8 (p.d.dvs K) && He.kwdB K n9 (p.d.kws K))) = true from c2)
      obtain ⟨k3, k4⟩ := He.ba k2
      exact ⟨_, ⟨oc, od, n8, n9, n10, n11, n12, n13, n14, osl, rfl, q, k1, He.dflB_ok k3, He.kwdB_ok k4⟩, kp⟩
    | _ => cases c2
abbrev AlP := Bool × List He.FnW
def frP (g : Addr → Option Obj) (n : Nat) : PySem.W.Frag := He.frG g (cStatics :: He.asD g n)
def obsP (n : Nat) (fa : List He.Fa) (fn : List PDef) (ex : PySem.W.Frag → Bool) (g : Addr → Option Obj) : AlP := ((fa.all fun f => f.ok (frP g n)) && ((fn.all fun d => okP (frP g n) d) && ex (frP g n)), fn.map fun d => fnP (frP g n) (d.ad (frP g n)))
structure SaysP (fa : List He.Fa) (fn : List PDef) (ex : PySem.W.Frag → Bool) (K : PySem.W.Frag) : Prop where
  fa : ∀ f ∈ fa, f.ok K = true
  fn : ∀ p ∈ fn, ∃ fd, FunD K p.d.name p.d.qual p.d.params p.d.body p.d.scope (p.d.dvs K) (p.d.kws K) (p.ad K) fd
  ex : ex K = true
def hookP (n : Nat) (fa : List He.Fa) (fn : List PDef) (ex : PySem.W.Frag → Bool) : PySem.W.Hook where
  α := AlP
  obs := fun s => obsP n fa fn ex s.heap.get?
  val := fun _ => (true, fn.map fun p => p.d.val)
  says := fun _ h => ∃ K : PySem.W.Frag, K.In h ∧ SaysP fa fn ex K
  of := fun _ s e => by
    have e1 : ((fa.all fun f => f.ok (frP s.heap.get? n)) && ((fn.all fun d => okP (frP s.heap.get? n) d) && ex (frP s.heap.get? n))) = true := congrArg (fun z : AlP => z.1) e
    have e2 : fn.map (fun d => fnP (frP s.heap.get? n) (d.ad (frP s.heap.get? n))) = fn.map fun p => p.d.val := congrArg (fun z : AlP => z.2) e
    obtain ⟨c1, c2⟩ := He.ba e1
    obtain ⟨c2, c3⟩ := He.ba c2
    refine ⟨frP s.heap.get? n, He.frG_in, ⟨fun f hf => List.all_eq_true.mp c1 f hf, fun p hp => ?_, c3⟩⟩
    refine PDef.funD ?_ (List.all_eq_true.mp c2 p hp)
    obtain ⟨i, hi, ep⟩ := List.mem_iff_getElem.mp hp
    have e3 : (fn.map (fun d => fnP (frP s.heap.get? n) (d.ad (frP s.heap.get? n))))[i]? = (fn.map fun p => p.d.val)[i]? := by rw [e2]
    rw [List.getElem?_map, List.getElem?_map, List.getElem?_eq_getElem hi, ep] at e3
    exact Option.some.inj e3
  keeps := fun _ _ _ ⟨K, hK, c⟩ k => ⟨K, PySem.W.Frag.In.keeps hK k, c⟩
theorem obsP_eq {n : Nat} {fa : List He.Fa} {fn : List PDef} {ex : PySem.W.Frag → Bool} {g : Addr → Option Obj} {s : Shared} (h : ∀ a, g a = s.heap.get? a) : obsP n fa fn ex g = (hookP n fa fn ex).obs s := by
  have e : g = s.heap.get? := funext h
  rw [e] <;> rfl
/-! ### what is asked of a class -/
def tysB : List String := ["NoneType", "bool", "int", "str", "tuple", "list", "dict"]
/-- an instance's type is read; it is no built-in's; no built-in's value is one -/
def fTyp (x : Str) (K : PySem.W.Frag) : Bool := (He.Fa.cls x).ok K && (He.eqO (PySem.W.findIn K (.ref (He.ga K x)) "__class__") (some (some (.builtin "object.__class__"))) && (He.eqO (PySem.W.specialIn K (.builtin "object.__class__") "__get__") (some (some (.builtin "getset_descriptor.__get__"))) &&
  (decide (PySem.W.takesIn K (.builtin "object.__class__") = some true) && (decide (PySem.W.mroIn K (He.ga K x) (.type "object") = some true) && (PySem.W.selfFirst K (He.ga K x) && tysB.all fun T => PySem.W.notFirst K (He.ga K x) (.type T) && decide (PySem.W.kitOne K (.type T) (.ref (He.ga K x)) = some false))))))
structure OTyp (K : PySem.W.Frag) (x : Str) : Prop where
  cls : Cls K (He.ga K x)
  at_ : PySem.W.findIn K (.ref (He.ga K x)) "__class__" = some (some (.builtin "object.__class__"))
  get : PySem.W.specialIn K (.builtin "object.__class__") "__get__" = some (some (.builtin "getset_descriptor.__get__"))
  tak : PySem.W.takesIn K (.builtin "object.__class__") = some true
  obj : PySem.W.mroIn K (He.ga K x) (.type "object") = some true
  fst : PySem.W.selfFirst K (He.ga K x) = true
  not : ∀ T ∈ tysB, PySem.W.notFirst K (He.ga K x) (.type T) = true ∧ PySem.W.kitOne K (.type T) (.ref (He.ga K x)) = some false
theorem fTyp_ok {x : Str} {K : PySem.W.Frag} (h : fTyp x K = true) : OTyp K x := by
  obtain ⟨h1, h⟩ := He.ba h
  obtain ⟨h2, h⟩ := He.ba h
  obtain ⟨h3, h⟩ := He.ba h
  obtain ⟨h4, h⟩ := He.ba h
  obtain ⟨h5, h⟩ := He.ba h
  obtain ⟨h6, h⟩ := He.ba h
  exact ⟨He.cls_ok h1, He.eqO_ok h2, He.eqO_ok h3, of_decide_eq_true h4, of_decide_eq_true h5, h6, fun T hT => by
    obtain ⟨a, b⟩ := He.ba (List.all_eq_true.mp h T hT)
    exact ⟨a, of_decide_eq_true b⟩⟩
theorem OTyp.tyOf {K : PySem.W.Frag} {x : Str} (o : OTyp K x) {H : Hp} {a dx : Addr} {fs : List (Str × V)} (e : H a = some (.ins (He.ga K x) dx fs)) : TyOf K H (.ref a) (.ref (He.ga K x)) := .ins e o.cls o.at_ o.get o.tak o.obj
/-- another class is none of it -/
def fNot (y x : Str) (K : PySem.W.Frag) : Bool := decide (PySem.W.kitOne K (.ref (He.ga K y)) (.ref (He.ga K x)) = some false)
theorem fNot_ok {y x : Str} {K : PySem.W.Frag} (h : fNot y x K = true) : PySem.W.kitOne K (.ref (He.ga K y)) (.ref (He.ga K x)) = some false := of_decide_eq_true h
def fMeth (x m : Str) (K : PySem.W.Frag) : Bool := (He.Fa.meth x m).ok K
def fProp (x f : Str) (K : PySem.W.Frag) : Bool := He.eqO (PySem.W.findIn K (.ref (He.ga K x)) f) (some (some (.ref (He.ma K (He.ga K x) f)))) && (He.eqO (PySem.W.specialIn K (.ref (He.ma K (He.ga K x) f)) "__get__") (some (some (.builtin "property.__get__"))) &&
  (decide (PySem.W.takesIn K (.ref (He.ma K (He.ga K x) f)) = some true) && (match PySem.W.recIn K (He.ma K (He.ga K x) f) "property" with
    | some (.ref _ :: _) => true
    | _ => false)))
theorem fProp_ok {x f : Str} {K : PySem.W.Frag} (h : fProp x f K = true) : PropOf K (He.ga K x) f (He.ma K (He.ga K x) f) (pAdP x f K) := by
  obtain ⟨h1, h⟩ := He.ba h
  obtain ⟨h2, h⟩ := He.ba h
  obtain ⟨h3, h4⟩ := He.ba h
  refine ⟨He.eqO_ok h1, He.eqO_ok h2, of_decide_eq_true h3, ?_⟩
  unfold pAdP
  split at h4
  · rename_i g r e; rw [e]; exact ⟨r, rfl⟩
  · cases h4
def fCm (x m : Str) (K : PySem.W.Frag) : Bool := (match PySem.W.findCls K (.ref (He.ga K x)) (.type "type") m with
    | some (.get (.builtin s) (.ref q) .none (.ref c)) => decide (s = "classmethod.__get__") && (decide (q = He.ma K (He.ga K x) m) && decide (c = He.ga K x))
    | _ => false) && ((match PySem.W.recIn K (He.ma K (He.ga K x) m) "classmethod" with
    | some (.ref _ :: _) => true
    | _ => false) && PySem.W.fnIn K (pAdC x m K))
theorem fCm_ok {x m : Str} {K : PySem.W.Frag} (h : fCm x m K = true) : ClX.CMet K (He.ga K x) (.type "type") m (He.ma K (He.ga K x) m) (pAdC x m K) := by
  obtain ⟨h1, h⟩ := He.ba h
  obtain ⟨h2, h3⟩ := He.ba h
  refine ⟨?_, ?_, h3⟩
  · split at h1
    · rename_i s q c e
      obtain ⟨a, b⟩ := He.ba h1
      obtain ⟨b, d⟩ := He.ba b
      rw [e, of_decide_eq_true a, of_decide_eq_true b, of_decide_eq_true d]
    · cases h1
  · unfold pAdC
    split at h2
    · rename_i g r e; rw [e]; exact ⟨r, rfl⟩
    · cases h2
def fRd (x : Str) (K : PySem.W.Frag) : Bool := PySem.W.readsIn K (He.ga K x) (.type "type") && He.eqO (PySem.W.specialIn K (.ref (He.ga K x)) "__getattribute__") (some (some (.builtin "type.__getattribute__")))
theorem fRd_ok {x : Str} {K : PySem.W.Frag} (h : fRd x K = true) : ClX.CRead K (He.ga K x) (.type "type") := by
  obtain ⟨h1, h2⟩ := He.ba h
  exact ⟨h1, He.eqO_ok h2⟩
/-! ## operators of instances -/
section
variable {X : Cx} {c : FC} {MD : List D → Option D} {x : Str} {pos : Pos} {a b e : Expr} {fa fb : Env → R D}
theorem ins_at {X : Cx} {pins : List (Addr × Obj)} {σ : L2.St} {H : Hp} {s : Shared} {a C dx : Addr} {fs : List (Str × V)} (I : Inv X pins σ H s) (ha : H a = some (.ins C dx fs)) : ∃ ox od, PySem.W.InstAt s.heap a ox C (some od) := by
  obtain ⟨mA, J, _⟩ := ins_get I.hok ha
  obtain ⟨od, J, _⟩ := J.look
  exact ⟨_, od, J⟩
theorem ne_ni {v : V} {u : Value} (r : RelV v u) : u ≠ .notImplemented := by
  intro e; subst e
  cases v <;> first | (obtain ⟨t, z⟩ := (show ∃ t, _ from r); cases z) | cases (show _ = _ from r)
theorem back_of {P : Value → Shared → Prop} {v : V} {u : Value} {s : Shared} (r : RelV v u) (h : P u s) : PySem.W.CmpBack P u s := by
  have := ne_ni r
  cases u <;> first | exact h | exact absurd rfl this
def gObj2 (y : Str) (MD : List D → Option D) : D → D → Option D
  | .obj y1 k1 l1, .obj y2 k2 l2 => if y1 = y ∧ y2 = y then MD [.obj y1 k1 l1, .obj y2 k2 l2] else none
  | _, _ => none
/-- a two-place operation that runs a def -/
def OpF (X : Cx) (f : Value → Value → Sem Value) (g : D → D → Option D) : Prop := ∀ (pins : List (Addr × Obj)) (σ : L2.St) (H : Hp) (s : Shared) (Q : VK) (u1 u2 : Value) (v1 v2 : V) (c : FC) (F : Addr → Prop) (ow : Addr → Option Nat) (δ : Env) (d1 d2 d : D),
  Inv X pins σ H s → RelV v1 u1 → RelV v2 u2 → W X.K c F ow H σ δ → Rep X.K F H v1 d1 → Rep X.K F H v2 d2 → g d1 d2 = some d → Go X.K c (Rep X.K) F H σ (.ok d δ) Q → wpAny (model X.prog X.w) X.A (f u1 u2) (EP X pins σ Q) X.xe s
theorem opf_bin {y : Str} {op : Operator} {f : Addr} (o : OTyp X.K y) (hs : PySem.W.findIn X.K (.ref (He.ga X.K y)) (PySem.dunder op.info.2) = some (some (.ref f))) (hf : PySem.W.isFn X.K (.ref f) = true) (R : RunsD X (.ref f) 2 [] [0, 1] [] MD) : OpF X (binaryOp op) (gObj2 y MD) := by
  intro pins σ H s Q u1 u2 v1 v2 c F ow δ d1 d2 d I r1 r2 w p1 p2 hg g
  cases d1 with
  | obj y1 k1 l1 =>
    cases d2 with
    | obj y2 k2 l2 =>
      have hg' : (if y1 = y ∧ y2 = y then MD [.obj y1 k1 l1, .obj y2 k2 l2] else none) = some d := hg
      split at hg'
      · rename_i hy
        obtain ⟨rfl, rfl⟩ := hy
        obtain ⟨a1, dx1, vf1, rfl, _, h1, _, _⟩ := p1.obj_inv
        obtain ⟨a2, dx2, vf2, rfl, _, h2, _, _⟩ := p2.obj_inv
        cases r1; cases r2
        obtain ⟨ox1, od1, J1⟩ := ins_at I h1
        obtain ⟨ox2, od2, J2⟩ := ins_at I h2
        obtain ⟨m, hF⟩ := I.fr
        refine PySem.W.binop_K hF I.ok.mod.kin J1 J2.type o.fst hs hf ?_
        refine wpAny_mono (wpAny_call (R pins σ H s Q [.ref a1, .ref a2] [] [.ref a1, .ref a2] [] c F ow δ [_, _] [] d I (.cons (show RelV (V.ref _) (Value.ref _) from rfl) (.cons (show RelV (V.ref _) (Value.ref _) from rfl) .nil)) .nil rfl rfl w (.cons p1 (.cons p2 .nil)) .nil hg' g)) (fun v s' hv => ?_) fun _ _ z => z
        obtain ⟨z, H', I', rz, q⟩ := hv
        exact back_of rz ⟨z, H', I', rz, q⟩
      · cases hg'
    | _ => cases hg
  | _ => cases hg
def dOpF (g : D → D → Option D) (fa fb : Env → R D) : Env → R D := dOp g fa fb
theorem opf_imp {f : Value → Value → Sem Value} {g : D → D → Option D} (ho : OpF X f g) (ha : DE X c a fa) (hb : DE X c b fb) {pins : List (Addr × Obj)} {s : Shared} {σ : L2.St} {H : Hp} {Q : VK} (I : Inv X pins σ H s) (h : tD X.K c (dOp g fa fb) σ H Q) :
    wpAny (model X.prog X.w) X.A (eval a X.env) (fun u1 s1 => wpAny (model X.prog X.w) X.A (eval b X.env) (fun u2 s2 => wpAny (model X.prog X.w) X.A (f u1 u2) (EP X pins σ Q) X.xe s2) X.xe s1) X.xe s := by
  obtain ⟨F, ow, δ, w, g1⟩ := h
  refine thn (ha.run pins s σ H _ I ⟨F, ow, δ, w, Go.bind (rep := Rep X.K) g1⟩) ?_
  rintro u1 s1 ⟨v1, H1, I1, r1, F1, ow1, d1, δ1, e1, w1, p1, _, g2⟩
  refine thn (hb.run pins s1 σ H1 _ I1 ⟨F1, ow1, δ1, w1, Go.bind (rep := Rep X.K) g2⟩) ?_
  rintro u2 s2 ⟨v2, H2, I2, r2, F2, ow2, d2, δ2, e2, w2, p2, _, g3⟩
  cases q : g d1 d2 with
  | none => rw [q] at g3; exact g3.elim
  | some z =>
    rw [q] at g3
    exact ho pins σ H2 s2 Q u1 u2 v1 v2 c F2 ow2 δ2 d1 d2 z I2 r1 r2 w2 (p1.mono e2) p2 q g3

theorem de_opf {op : Operator} {g : D → D → Option D} (ho : OpF X (binaryOp op) g) (ha : DE X c a fa) (hb : DE X c b fb) : DE X c (.BinOp a op b pos) (dOp g fa fb) :=
  ⟨fun pins s σ H Q I h => wpAny_BinOp (opf_imp ho ha hb I h)⟩
theorem de_cmpf {op : CmpOp} {g : D → D → Option D} (ho : OpF X (compareOp op) g) (ha : DE X c a fa) (hb : DE X c b fb) (hm : behindInMarks op b = false := by rfl) : DE X c (.Compare a [op] [b] pos) (dOp g fa fb) :=
  ⟨fun pins s σ H Q I h => wpAny_Compare1 (opf_imp ho ha hb I h) hm⟩
theorem dt_cmpf {op : CmpOp} {g : D → D → Option D} (ho : OpF X (compareOp op) g) (ha : DE X c a fa) (hb : DE X c b fb) (hm : behindInMarks op b = false := by rfl) : DT X c (.Compare a [op] [b] pos) (dTst (dOp g fa fb)) := by
  constructor
  intro pins s σ H Q I ⟨F, ow, δ, w, g1⟩
  have h2 : tD X.K c (dOp g fa fb) σ H (fun v H1 => ∃ k, v = .bl k ∧ Q k H1) := ⟨F, ow, δ, w, Go.imp (fun v H1 h1 => by
    obtain ⟨F1, ow1, d, δ1, e1, w1, r1, _, g2⟩ := h1
    cases d with
    | bl k =>
      have e := r1.bl_inv
      subst e
      exact ⟨k, rfl, g2 F1 ow1 H1 k (Ext.refl _ _) w1 rfl⟩
    | _ => exact g2.elim) (Go.bind (rep := Rep X.K) g1)⟩
  refine wpAny_isTrue_Compare1 (thn (opf_imp ho ha hb I h2) fun u1 s1 h1 => thn h1 fun u2 s2 h3 => thn h3 fun u3 s3 h4 => ?_) hm
  obtain ⟨z, H3, I3, r3, k, e, q3⟩ := h4
  subst e
  cases r3
  exact wpAny_truthy_bool ⟨H3, I3, q3⟩
/-- ~x -/
def gObj1 (y : Str) (MD : List D → Option D) : D → Option D
  | .obj y1 k1 l1 => if y1 = y then MD [.obj y1 k1 l1] else none
  | _ => none
def dUnF (g : D → Option D) (fa : Env → R D) (δ : Env) : R D := (fa δ).bind fun x δ1 => match g x with
  | some z => .ok z δ1
  | none => .bad
theorem de_inv {y : Str} {f : Addr} (hs : PySem.W.findIn X.K (.ref (He.ga X.K y)) "__invert__" = some (some (.ref f))) (hf : PySem.W.isFn X.K (.ref f) = true) (R : RunsD X (.ref f) 1 [] [0] [] MD) (ha : DE X c a fa) : DE X c (.UnaryOp .Invert a pos) (dUnF (gObj1 y MD) fa) := by
  constructor
  intro pins s σ H Q I ⟨F, ow, δ, w, g1⟩
  refine wpAny_UnaryOp (thn (ha.run pins s σ H _ I ⟨F, ow, δ, w, Go.bind (rep := Rep X.K) g1⟩) ?_)
  rintro u1 s1 ⟨v1, H1, I1, r1, F1, ow1, d1, δ1, e1, w1, p1, _, g2⟩
  cases d1 with
  | obj y1 k1 l1 =>
    have g3 : Go X.K c (Rep X.K) F1 H1 σ (match (if y1 = y then MD [.obj y1 k1 l1] else none) with
      | some z => PV.R.ok z δ1
      | none => .bad) Q := g2
    split at g3
    · rename_i z hz
      split at hz
      · rename_i hy
        subst hy
        obtain ⟨a1, dx1, vf1, rfl, _, h1, _, _⟩ := p1.obj_inv
        cases r1
        obtain ⟨ox1, od1, J1⟩ := ins_at I1 h1
        obtain ⟨m, hF⟩ := I1.fr
        refine PySem.W.ksp_inv hF I1.ok.mod.kin J1 hs hf ?_
        exact wpAny_call (R pins σ H1 s1 Q [.ref a1] [] [.ref a1] [] c F1 ow1 δ1 [_] [] z I1 (.cons (show RelV (V.ref _) (Value.ref _) from rfl) .nil) .nil rfl rfl w1 (.cons p1 .nil) .nil hz g3)
      · cases hz
    · exact g3.elim
  | _ => exact g2.elim
/-- x in o, o an instance with its own __contains__ -/
def gIn (neg : Bool) (y : Str) (MD : List D → Option D) : D → D → Option D
  | x, .obj y1 k1 l1 => if y1 = y then (match MD [.obj y1 k1 l1, x] with
    | some (.bl b) => some (.bl (if neg then !b else b))
    | _ => none) else none
  | _, _ => none
theorem gIn_inv {neg : Bool} {y : Str} {d1 d2 d : D} (h : gIn neg y MD d1 d2 = some d) : ∃ k1 l1 b, d2 = .obj y k1 l1 ∧ MD [.obj y k1 l1, d1] = some (.bl b) ∧ d = .bl (if neg then !b else b) := by
  unfold gIn at h
  split at h
  · split at h
    · rename_i hy
      subst hy
      split at h
      · rename_i b e; cases h; exact ⟨_, _, b, rfl, e, rfl⟩
      · cases h
    · cases h
  · cases h
theorem in_run {y : Str} {f : Addr} (R : RunsD X (.ref f) 2 [] [0, 1] [] MD) {pins : List (Addr × Obj)} {σ : L2.St} {H : Hp} {s : Shared} {u1 : Value} {a1 : Addr} {v1 : V} {F : Addr → Prop} {ow : Addr → Option Nat} {δ : Env} {d1 : D} {k1 : List Str} {l1 : List D} {b : Bool} {Q : Bool → Value → Shared → Prop}
    (I : Inv X pins σ H s) (r1 : RelV v1 u1) (w : W X.K c F ow H σ δ) (p1 : Rep X.K F H v1 d1) (p2 : Rep X.K F H (.ref a1) (.obj y k1 l1)) (hM : MD [.obj y k1 l1, d1] = some (.bl b))
    (q : ∀ s', ∀ H', Inv X pins σ H' s' → (∃ F' ow', Ext F H F' H' ∧ W X.K c F' ow' H' σ δ) → wpAny (model X.prog X.w) X.A (truthy (.bool b)) (fun k s2 => Q k (.bool k) s2) X.xe s') :
    wpAny (model X.prog X.w) X.A (call (.ref f) [.ref a1, u1]) (fun r s' => wpAny (model X.prog X.w) X.A (truthy r) (fun k s2 => Q k (.bool k) s2) X.xe s') X.xe s := by
  refine wpAny_mono (wpAny_call (R pins σ H s (fun v H' => v = .bl b ∧ ∃ F' ow', Ext F H F' H' ∧ W X.K c F' ow' H' σ δ) [.ref a1, u1] [] [.ref a1, v1] [] c F ow δ [_, _] [] (.bl b) I (.cons (show RelV (V.ref _) (Value.ref _) from rfl) (.cons r1 .nil)) .nil rfl rfl w (.cons p2 (.cons p1 .nil)) .nil hM
    (fun F' ow' H' v ex w' r => ⟨r.bl_inv, F', ow', ex, w'⟩))) (fun v s' hv => ?_) fun _ _ z => z
  obtain ⟨z, H', I', rz, ez, ex⟩ := hv
  subst ez
  cases rz
  exact q s' H' I' ex
theorem opf_in {y : Str} {f : Addr} (hs : PySem.W.findIn X.K (.ref (He.ga X.K y)) "__contains__" = some (some (.ref f))) (hf : PySem.W.isFn X.K (.ref f) = true) (R : RunsD X (.ref f) 2 [] [0, 1] [] MD) : OpF X (compareOp .In) (gIn false y MD) := by
  intro pins σ H s Q u1 u2 v1 v2 c F ow δ d1 d2 d I r1 r2 w p1 p2 hg g
  obtain ⟨k1, l1, b, rfl, hM, rfl⟩ := gIn_inv hg
  obtain ⟨a1, dx1, vf1, rfl, _, h1, _, _⟩ := id p2.obj_inv
  cases r2
  obtain ⟨ox1, od1, J1⟩ := ins_at I h1
  obtain ⟨m, hF⟩ := I.fr
  refine PySem.W.in_K hF I.ok.mod.kin J1 hs hf (in_run (c := c) (Q := fun k u s2 => EP X pins σ Q u s2) R I r1 w p1 p2 hM fun s' H' I' ⟨F', ow', ex, w'⟩ => wpAny_truthy_bool ⟨.bl b, H', I', rfl, g F' ow' H' (.bl b) ex w' (.bl b)⟩)
theorem opf_nin {y : Str} {f : Addr} (hs : PySem.W.findIn X.K (.ref (He.ga X.K y)) "__contains__" = some (some (.ref f))) (hf : PySem.W.isFn X.K (.ref f) = true) (R : RunsD X (.ref f) 2 [] [0, 1] [] MD) : OpF X (compareOp .NotIn) (gIn true y MD) := by
  intro pins σ H s Q u1 u2 v1 v2 c F ow δ d1 d2 d I r1 r2 w p1 p2 hg g
  obtain ⟨k1, l1, b, rfl, hM, rfl⟩ := gIn_inv hg
  obtain ⟨a1, dx1, vf1, rfl, _, h1, _, _⟩ := id p2.obj_inv
  cases r2
  obtain ⟨ox1, od1, J1⟩ := ins_at I h1
  obtain ⟨m, hF⟩ := I.fr
  refine PySem.W.notIn_K hF I.ok.mod.kin J1 hs hf (in_run (c := c) (Q := fun k u s2 => EP X pins σ Q (.bool (!k)) s2) R I r1 w p1 p2 hM fun s' H' I' ⟨F', ow', ex, w'⟩ => wpAny_truthy_bool ⟨.bl (!b), H', I', rfl, g F' ow' H' (.bl (!b)) ex w' (.bl (!b))⟩)
/-- the truth of an instance with its own __bool__ -/
def dTruO (y : Str) (MD : List D → Option D) (fa : Env → R D) (δ : Env) : R Bool := (fa δ).bind fun x δ1 => match gObj1 y MD x with
  | some (.bl b) => .ok b δ1
  | _ => .bad
theorem tru_run {y : Str} {f : Addr} (hs : PySem.W.findIn X.K (.ref (He.ga X.K y)) "__bool__" = some (some (.ref f))) (hf : PySem.W.isFn X.K (.ref f) = true) (R : RunsD X (.ref f) 1 [] [0] [] MD) {pins : List (Addr × Obj)} {σ : L2.St} {H : Hp} {s : Shared} {u1 : Value} {v1 : V} {F : Addr → Prop} {ow : Addr → Option Nat} {δ : Env} {d1 : D} {b : Bool} {Q : Bool → Hp → Prop}
    (I : Inv X pins σ H s) (r1 : RelV v1 u1) (w : W X.K c F ow H σ δ) (p1 : Rep X.K F H v1 d1) (hM : gObj1 y MD d1 = some (.bl b)) (g : Go X.K c repB F H σ (.ok b δ) Q) :
    wpAny (model X.prog X.w) X.A (truthy u1) (TP X pins σ Q) X.xe s := by
  cases d1 with
  | obj y1 k1 l1 =>
    have hM' : (if y1 = y then MD [.obj y1 k1 l1] else none) = some (.bl b) := hM
    split at hM'
    · rename_i hy
      subst hy
      obtain ⟨a1, dx1, vf1, rfl, _, h1, _, _⟩ := id p1.obj_inv
      cases r1
      obtain ⟨ox1, od1, J1⟩ := ins_at I h1
      obtain ⟨m, hF⟩ := I.fr
      refine PySem.W.truthy_K hF I.ok.mod.kin J1 hs hf ?_
      refine wpAny_mono (wpAny_call (R pins σ H s (fun v H' => v = .bl b ∧ Q b H') [.ref a1] [] [.ref a1] [] c F ow δ [_] [] (.bl b) I (.cons (show RelV (V.ref _) (Value.ref _) from rfl) .nil) .nil rfl rfl w (.cons p1 .nil) .nil hM'
        (fun F' ow' H' v ex w' r => ⟨r.bl_inv, g F' ow' H' b ex w' rfl⟩))) (fun v s' hv => ?_) fun _ _ z => z
      obtain ⟨z, H', I', rz, ez, q⟩ := hv
      subst ez
      cases rz
      exact ⟨H', I', q⟩
    · cases hM'
  | _ => cases hM
theorem dt_truO {y : Str} {f : Addr} (hs : PySem.W.findIn X.K (.ref (He.ga X.K y)) "__bool__" = some (some (.ref f))) (hf : PySem.W.isFn X.K (.ref f) = true) (R : RunsD X (.ref f) 1 [] [0] [] MD) (ha : DE X c e fa)
    (he : ∀ whole, isTrue e X.env whole = (do let v ← whole; standAt e.pos; holding [v] (truthy v)) := by intro _; rfl) : DT X c e (dTruO y MD fa) := by
  constructor
  intro pins s σ H Q I ⟨F, ow, δ, w, g1⟩
  rw [he]
  refine wpAny_bind (thn (ha.run pins s σ H _ I ⟨F, ow, δ, w, Go.bind (rep := Rep X.K) g1⟩) ?_)
  rintro u1 s1 ⟨v1, H1, I1, r1, F1, ow1, d1, δ1, e1, w1, p1, _, g2⟩
  refine wpAny_bind (wpAny_standAt (wpAny_holding ?_))
  split at g2
  · rename_i b hM
    exact tru_run hs hf R I1 r1 w1 p1 hM g2
  · exact g2.elim
end
end PV

namespace PV
open PySem PySem.Spec PyProof.Rows L2
/-! ## an instance in the making -/
section
variable {X : Cx} {c : FC} {MD : List D → Option D} {x : Str} {pos p1 p2 pos' : Pos} {a b e o : Expr} {fa fb fe : Env → R D} {i : Nat}
theorem W.obAt {K : PySem.W.Frag} {F : Addr → Prop} {ow : Addr → Option Nat} {H : Hp} {σ : L2.St} {δ : Env} {x : Str} {ks : List Str} {l : List D} (w : W K c F ow H σ δ) (h : δ[i]? = some (.ob x ks l)) :
    ∃ a dx vs, σ[i]? = some (some (.ref a)) ∧ ow a = some i ∧ H a = some (.ins (He.ga K x) dx (ks.zip vs)) ∧ Reps K F H vs l ∧ ks.length = vs.length := by
  rcases w.sl i _ h with z | ⟨v, e, r⟩
  · cases z
  · cases r with | ob pa hh rr ll => exact ⟨_, _, _, e, pa, hh, rr, ll⟩
theorem putF_zip {f : Str} {y : V} : ∀ {ks : List Str} {vs : List V}, f ∉ ks → ks.length = vs.length → putF f y (ks.zip vs) = (ks ++ [f]).zip (vs ++ [y])
  | [], [], _, _ => rfl
  | [], _ :: _, _, l => by cases l
  | _ :: _, [], _, l => by cases l
  | k :: ks, v :: vs, h, l => by
    have hk : k ≠ f := fun e => h (by rw [e]; exact List.mem_cons_self)
    rw [List.zip_cons_cons]
    unfold putF
    rw [if_neg hk, putF_zip (fun z => h (List.mem_cons_of_mem _ z)) (by simpa using l)]
    rfl
def sFldO (i : Nat) (f : Str) (fe : Env → R D) (δ : Env) : SRes := match fe δ with
  | .ok d δ1 => (match δ1[i]? with
    | some (.ob x ks l) => if f ∉ ks ∧ ks.length < 900 then .nx (δ1.set i (.ob x (ks ++ [f]) (l ++ [d]))) else .bad
    | _ => .bad)
  | .bad => .bad
theorem ds_fldO {y f : Str} (hv : PE X o (tVar i)) (he : DE X c e fe) (hy : ∀ δ δ1 d, fe δ = .ok d δ1 → ∀ x ks l, δ1[i]? = some (.ob x ks l) → x = y) (cl : Cls X.K (He.ga X.K y)) (na : NoAttr X.K (He.ga X.K y) f) (hs : swapsWith e (some (.Attribute o f pos')) pos.line X.env = pure false := by rfl) :
    DS X c (.Assign [.Attribute o f pos'] e pos) (sFldO i f fe) :=
  PS.imp (ps_fld hv he hs) fun Dn σ H ⟨F, ow, δ, w, g⟩ => by
    unfold sFldO at g
    refine ⟨F, ow, δ, w, ?_⟩
    cases q : fe δ with
    | bad => rw [q] at g; exact g
    | ok d δ1 =>
      rw [q] at g
      intro F' ow' H' v ex w' r
      dsimp only at g
      cases q2 : δ1[i]? with
      | none => rw [q2] at g; exact g.elim
      | some s =>
        rw [q2] at g
        cases s with
        | ob x ks l =>
          dsimp only at g
          split at g
          · rename_i hl
            obtain ⟨ad, dx, vs, e1, e2, e3, e4, e5⟩ := w'.obAt q2
            have hx := hy δ δ1 d q x ks l q2
            subst hx
            refine ⟨.ref ad, e1, ad, _, dx, _, rfl, e3, cl, na, by rw [List.length_zip, ← e5, Nat.min_self]; omega, ?_⟩
            rw [putF_zip hl.1 e5]
            have nF : ¬ F' ad := (w'.df ad i e2).1
            have ex2 : Ext F' H' F' (upd H' ad (.ins (He.ga X.K x) dx ((ks ++ [f]).zip (vs ++ [v])))) := Ext.updOut nF
            refine g F' ow' _ σ (ex.trans ex2) (w'.updOwn (v := .ref ad) e2 e1 ?_)
            exact .ob e2 upd_same ((e4.mono ex2).append (.cons (r.mono ex2) .nil)) (by rw [List.length_append, List.length_append, e5]; rfl)
          · exact g.elim
        | _ => exact g.elim
/-- self.f read while it is made -/
def dFldO (i : Nat) (y f : Str) (δ : Env) : R D := match δ[i]? with
  | some (.ob x ks l) => if x = y then (match fldOf f ks l with
    | some d => .ok d δ
    | none => .bad) else .bad
  | _ => .bad
theorem de_fldO {y f : Str} (hv : PE X e (tVar i)) (cl : Cls X.K (He.ga X.K y)) (na : NoAttr X.K (He.ga X.K y) f) (hb : attributeBase e f X.env (eval e X.env) = eval e X.env := by rfl) : DE X c (.Attribute e f pos) (dFldO i y f) :=
  PE.imp (pe_fld hv hb) fun σ H Q ⟨F, ow, δ, w, g⟩ => by
    unfold dFldO at g
    split at g
    · rename_i x ks l q
      split at g
      · rename_i hx
        subst hx
        split at g
        · rename_i d hf
          obtain ⟨ad, dx, vs, e1, e2, e3, e4, e5⟩ := w.obAt q
          obtain ⟨v, h1, h2⟩ := fldOf_ok e4 e5 hf
          exact ⟨.ref ad, e1, ad, _, dx, _, v, rfl, e3, cl, na, h1, g F ow H v (Ext.refl _ _) w h2⟩
        · exact g.elim
      · exact g.elim
    · exact g.elim
/-! ## isinstance of an own class -/
/-- the answers for class x: others, none of which is one -/
def isiC (x : Str) (no : List Str) : D → Option Bool
  | .obj y _ _ => if y = x then some true else if y ∈ no then some false else none
  | d => d.ty.map fun _ => false
def dIsiC (x : Str) (no : List Str) (f : Env → R D) (δ : Env) : R D := (f δ).bind fun d δ1 => match isiC x no d with
  | some b => .ok (.bl b) δ1
  | none => .bad
theorem ty_mem {d : D} {t : String} (h : d.ty = some t) : t ∈ tysB := by
  cases d <;> first | (cases h; decide) | cases h
theorem de_isiC {no : List Str} (o : OTyp X.K x) (hno : ∀ y ∈ no, OTyp X.K y ∧ PySem.W.kitOne X.K (.ref (He.ga X.K y)) (.ref (He.ga X.K x)) = some false) (hg : Gl X "isinstance") (hm : X.mg "isinstance" = none) (hg2 : Gl X x) (hm2 : X.mg x = some (.ref (He.ga X.K x))) (he : DE X c e fe) (hdb : (x == ("__debug__" : Str)) = false := by decide)
    (h1 : starEach [e, .Name x p2] X.env = (false, eval e X.env) :: starEach [.Name x p2] X.env := by rfl) (h2 : starEach [.Name x p2] X.env = (false, eval (.Name x p2) X.env) :: starEach [] X.env := by rfl) (h3 : (backTo pos (starEach [.Name x p2] X.env)).any (·.1) = false := by rfl) :
    DE X c (.Call (.Name "isinstance" p1) [e, .Name x p2] [] pos) (dIsiC x no fe) := by
  refine PE.imp (pe_callB call_isi hg hm boot_isinstance (pa_cons he (pa_cons (pe_glob (v := .ref (He.ga X.K x)) hg2 hm2 rfl hdb) pa_nil h2) h1) (hpl := h3) (he := h1)) fun σ H Q ⟨F, ow, δ, w, g⟩ => ⟨F, ow, δ, w, Go.imp (fun v H1 h1 => by
    obtain ⟨F1, ow1, d, δ1, e1, w1, r1, _, g2⟩ := h1
    split at g2
    · rename_i b hb
      show ∃ (y c' : V) (t u : Value) (b' : Bool), [v, V.ref (He.ga X.K x)] = [y, c'] ∧ _
      have fin : Q (.bl b) H1 := g2 F1 ow1 H1 (.bl b) (Ext.refl _ _) w1 (.bl b)
      cases d with
      | obj y k l =>
        have hb' : (if y = x then some true else if y ∈ no then some false else none) = some b := hb
        obtain ⟨a1, dx1, vf1, rfl, _, hh1, _, _⟩ := id r1.obj_inv
        by_cases hy : y = x
        · subst hy
          rw [if_pos rfl] at hb'
          cases hb'
          exact ⟨_, _, _, _, true, rfl, .own _, .base (o.tyOf hh1), by unfold PySem.W.kitOne; rw [if_pos (by simp)], fin⟩
        · rw [if_neg hy] at hb'
          split at hb'
          · rename_i hn
            cases hb'
            obtain ⟨oy, ky⟩ := hno y hn
            exact ⟨_, _, _, _, false, rfl, .own _, .base (oy.tyOf hh1), ky, fin⟩
          · cases hb'
      | _ =>
        rename_i hd
        all_goals first
          | (cases hb; refine ⟨_, _, _, _, false, rfl, .own _, r1.tyx rfl, (o.not _ (by decide)).2, fin⟩)
          | cases hb
    · exact g2.elim) (Go.bind (rep := Rep X.K) g)⟩
end
end PV

namespace PV
open PySem PySem.Spec PyProof.Rows L2
/-! ## == and != of an instance with its own __eq__, with anything -/
section
open PySem.W Builtin
variable {prog : Program} {w : World} {A : Around} {E : Value → Shared → Prop} {s : Shared} {K : Frag} {x C L f : Addr} {h₀ : Heap} {m : Str → Option Value} {ox : Obj} {od : Option Obj} {b tb : Value}
theorem bound_blt {M : Model} {name : Str} {args : List Value} {id : String} {Q : Option Value → Shared → Prop} (X : K.In s.heap) (I : InstAt s.heap x ox C od) (hs : findIn K (.ref C) name = some (some (.builtin id))) (hb : bindSpecial (.builtin id) (.ref x) = pure (.builtin id, [.ref x]))
    (h : wpAny M A (call (.builtin id) (.ref x :: args)) (fun v => Q (some v)) E s) : wpAny M A (callSpecialIfBound? (.ref x) name args) Q E s := by
  have done : wpAny M A (call (.builtin id) ([.ref x] ++ args) >>= fun v => pure (some v)) Q E s := wpAny_bind (wpAny_mono h (fun _ _ z => wpAny_pure z) fun _ _ z => z)
  simp only [callSpecialIfBound?, bindSpecialIfBound?]
  refine wpAny_holding (wpAny_bind (wpAny_bind (wpAny_bind (I.type.here ((looks_findIn X hs).here ?_)))))
  simp only [hb]
  refine wpAny_bind (wpAny_askSetting (wpAny_ite ?_))
  split
  · exact wpAny_bind (wpAny_pure (wpAny_pure done))
  · exact wpAny_tryCatch (wpAny_bind (wpAny_pure (wpAny_pure done)))
theorem ne_own {Q : Value → Shared → Prop} (hu : A.units + 1 < cLine) (hFr : Fr h₀ L s.heap m) (X₀ : K.In h₀) (I : InstAt s.heap x ox C od) (hb : Looks (model prog w) s.heap (typeOf b) tb) (hn : notFirst K C tb = true) (hne : findIn K (.ref C) "__ne__" = some (some (.builtin "object.__ne__"))) (hob : mroIn K C (.type "object") = some true)
    (hs : findIn K (.ref C) "__eq__" = some (some (.ref f))) (hf : isFn K (.ref f) = true)
    (h : wpAny (model prog w) A.in1 (call (.ref f) [.ref x, b]) (fun v s' => ∃ k, v = .bool k ∧ Q (.bool (!k)) s') E s) : wpAny (model prog w) A (richCompare .NotEq (.ref x) b) Q E s := by
  have X := X₀.keeps hFr.keep
  have body : ∀ (R : Fin → Shared → Prop), (∀ k s', Q (.bool (!k)) s' → R (.done (.ret (.bool (!k)))) s') → wpAny (model prog w) A.in1 (Builtin.«object.__ne__» ⟨[.ref x, b], []⟩) R E s := fun R hR => by
    unfold Builtin.«object.__ne__»
    refine wpAny_bind (wpAny_pure ?_)
    refine wpAny_bind (wpAny_cRoomFor (show A.in1.units < cLine from hu) ?_)
    refine wpAny_bind (ifBound_K X I hs hf (wpAny_mono h (fun v s' hv => ?_) fun _ _ z => z))
    obtain ⟨k, rfl, hq⟩ := hv
    exact wpAny_bind (wpAny_truthy_bool (wpAny_pure (hR k s' hq)))
  have sub : Looks (model prog w) s.heap (isInstance (.ref x) (.type "object")) true := I.type.andThen (looks_mroIn X hob)
  have one : wpAny (model prog w) A (tryCompare (.ref x) "__ne__" b) (fun r s' => ∃ v, r = some v ∧ Q v s') E s := by
    unfold tryCompare
    refine wpAny_bind (bound_blt X I hne (F.cmp_object.ne.bind _) (wpAny_call (codeAny_call_builtin F.cmp_object.ne.plain F.cmpEntry_ne
      (@check_slot (model prog w) _ _ s "object.__ne__" "object" "__ne__" (.ref x) [b] [] _ F.cmpKind_ne F.cmpSplit_ne sub (F.cmpArgs_ne _ _) (body _ fun k s' q => ?_)))))
    exact wpAny_pure ⟨_, rfl, q⟩
  unfold richCompare
  simp only [oneThing_ref]
  refine wpAny_holding (wpAny_bind (wpAny_cRoomFor (Nat.lt_of_succ_lt hu) ?_))
  rw [cmpInfo_NotEq]
  dsimp only
  refine wpAny_bind (I.type.here (wpAny_bind (hb.here ?_)))
  have fin : wpAny (model prog w) A (tryCompare (.ref x) "__ne__" b) (fun r s' => ∃ v, r = some v ∧ Q v s') E s := one
  split
  · rename_i q
    have e : subIn K tb (.ref C) = some false := by
      rcases Bool.or_eq_true_iff.mp hn with e | e
      · rw [beq_iff_eq.mp e] at q; simp at q
      · exact beq_iff_eq.mp e
    refine wpAny_bind ((looks_subIn X e).here ?_)
    simp only [Bool.false_eq_true, if_false]
    refine wpAny_bind (wpAny_mono fin (fun r s' z => ?_) fun _ _ z => z)
    obtain ⟨v, rfl, hq⟩ := z
    exact wpAny_pure hq
  · refine wpAny_bind (wpAny_pure ?_)
    simp only [Bool.false_eq_true, if_false]
    refine wpAny_bind (wpAny_mono fin (fun r s' z => ?_) fun _ _ z => z)
    obtain ⟨v, rfl, hq⟩ := z
    exact wpAny_pure hq
end
section
variable {X : Cx} {c : FC} {MD : List D → Option D}
/-- the type of what data stand for, as a class -/
theorem rep_type {F : Addr → Prop} {pins : List (Addr × Obj)} {σ : L2.St} {H : Hp} {s : Shared} {v : V} {u : Value} {d : D} {t : String} {M : Model} (I : Inv X pins σ H s) (r : Rep X.K F H v d) (rv : RelV v u) (e : d.ty = some t) : PySem.W.Looks M s.heap (typeOf u) (.type t) := by
  have ob : ∀ {a : Addr} {o : Obj}, s.heap.get? a = some o → o.cls = .type t → PySem.W.Looks M s.heap (typeOf (.ref a)) (.type t) := fun {a o} h hc A Q E s2 k q => wpAny_typeOf_ref (k _ _ h) (by rw [hc]; exact q)
  cases d with
  | non => cases e; have := r.non_inv; subst this; cases (show u = Value.none from rv); exact .of_pure rfl
  | bl b => cases e; have := r.bl_inv; subst this; cases (show u = Value.bool b from rv); exact .of_pure rfl
  | int i => cases e; have := r.int_inv; subst this; obtain ⟨tk, rfl⟩ := (show ∃ tk, u = Value.int i tk from rv); exact .of_pure rfl
  | str x => cases e; have := r.str_inv; subst this; obtain ⟨tk, rfl⟩ := (show ∃ tk, u = Value.str x tk from rv); exact .of_pure rfl
  | tup l =>
    cases e
    obtain ⟨a, vs, rfl, h, _⟩ := r.tup_inv
    cases (show u = Value.ref a from rv)
    obtain ⟨its, _, it, _⟩ := I.tuple h
    obtain ⟨o, ho, hc, _⟩ := it
    exact ob ho hc
  | lst l =>
    cases e
    obtain ⟨a, vs, rfl, h, _⟩ := r.lst_inv
    cases (show u = Value.ref a from rv)
    obtain ⟨_, its, n, _, ho⟩ := I.hok a _ h
    exact ob ho rfl
  | _ => cases e
def okEq (y : Str) (x : D) : Bool := x.ty.isSome || (match x with
  | .obj z _ _ => decide (z = y)
  | _ => false)
theorem okEq_inv {y : Str} {x : D} (h : okEq y x = true) : x.ty.isSome = true ∨ ∃ k2 l2, x = .obj y k2 l2 := by
  unfold okEq at h
  rcases Bool.or_eq_true_iff.mp h with h | h
  · exact .inl h
  · cases x with
    | obj z k l =>
      have := of_decide_eq_true h
      subst this
      exact .inr ⟨k, l, rfl⟩
    | _ => cases h
def gEqO (neg : Bool) (y : Str) (MD : List D → Option D) : D → D → Option D
  | .obj y1 k1 l1, x => if y1 = y ∧ okEq y x = true then (match MD [.obj y1 k1 l1, x] with
    | some (.bl b) => some (.bl (if neg then !b else b))
    | _ => none) else none
  | _, _ => none
theorem gEqO_inv {neg : Bool} {y : Str} {d1 d2 d : D} (h : gEqO neg y MD d1 d2 = some d) : ∃ k1 l1 b, d1 = .obj y k1 l1 ∧ (d2.ty.isSome = true ∨ ∃ k2 l2, d2 = .obj y k2 l2) ∧ MD [.obj y k1 l1, d2] = some (.bl b) ∧ d = .bl (if neg then !b else b) := by
  unfold gEqO at h
  split at h
  · split at h
    · rename_i hy
      obtain ⟨rfl, h2⟩ := hy
      split at h
      · rename_i b e; cases h; exact ⟨_, _, b, rfl, okEq_inv h2, e, rfl⟩
      · cases h
    · cases h
  · cases h
theorem eq_other {y : Str} (o : OTyp X.K y) {pins : List (Addr × Obj)} {σ : L2.St} {H : Hp} {s : Shared} {F : Addr → Prop} {v2 : V} {u2 : Value} {d2 : D} (I : Inv X pins σ H s) (r2 : RelV v2 u2) (p2 : Rep X.K F H v2 d2) (h : d2.ty.isSome = true ∨ ∃ k2 l2, d2 = .obj y k2 l2) :
    ∃ tb, PySem.W.Looks (model X.prog X.w) s.heap (typeOf u2) tb ∧ PySem.W.notFirst X.K (He.ga X.K y) tb = true := by
  rcases h with h | ⟨k2, l2, rfl⟩
  · obtain ⟨t, ht⟩ := Option.isSome_iff_exists.mp h
    exact ⟨_, rep_type I p2 r2 ht, (o.not t (ty_mem ht)).1⟩
  · obtain ⟨a2, dx2, vf2, rfl, _, h2, _, _⟩ := p2.obj_inv
    cases r2
    obtain ⟨ox2, od2, J2⟩ := ins_at I h2
    exact ⟨_, J2.type, by unfold PySem.W.notFirst; simp⟩
theorem opf_eqO {y : Str} {f : Addr} (o : OTyp X.K y) (hu : X.A.units < cLine) (hs : PySem.W.findIn X.K (.ref (He.ga X.K y)) "__eq__" = some (some (.ref f))) (hf : PySem.W.isFn X.K (.ref f) = true) (R : RunsD X (.ref f) 2 [] [0, 1] [] MD) : OpF X (compareOp .Eq) (gEqO false y MD) := by
  intro pins σ H s Q u1 u2 v1 v2 c F ow δ d1 d2 d I r1 r2 w p1 p2 hg g
  obtain ⟨k1, l1, b, rfl, h2, hM, rfl⟩ := gEqO_inv hg
  obtain ⟨tb, lk, nf⟩ := eq_other o I r2 p2 h2
  obtain ⟨a1, dx1, vf1, rfl, _, h1, _, _⟩ := id p1.obj_inv
  cases r1
  obtain ⟨ox1, od1, J1⟩ := ins_at I h1
  obtain ⟨m, hF⟩ := I.fr
  show wpAny (model X.prog X.w) X.A (richCompare .Eq (.ref a1) u2) (EP X pins σ Q) X.xe s
  refine PySem.W.cmp_K (op := .Eq) hu hF I.ok.mod.kin J1 lk nf hs hf ?_
  refine wpAny_mono (wpAny_call (R pins σ H s Q [.ref a1, u2] [] [.ref a1, v2] [] c F ow δ [_, _] [] _ I (.cons (show RelV (V.ref _) (Value.ref _) from rfl) (.cons r2 .nil)) .nil rfl rfl w (.cons p1 (.cons p2 .nil)) .nil hM g)) (fun v s' hv => ?_) fun _ _ z => z
  obtain ⟨z, H', I', rz, q⟩ := hv
  exact back_of rz ⟨z, H', I', rz, q⟩
theorem opf_neO {y : Str} {f : Addr} (o : OTyp X.K y) (hu : X.A.units + 1 < cLine) (hne : PySem.W.findIn X.K (.ref (He.ga X.K y)) "__ne__" = some (some (.builtin "object.__ne__"))) (hs : PySem.W.findIn X.K (.ref (He.ga X.K y)) "__eq__" = some (some (.ref f))) (hf : PySem.W.isFn X.K (.ref f) = true) (R : RunsI X (.ref f) 2 MD) : OpF X (compareOp .NotEq) (gEqO true y MD) := by
  intro pins σ H s Q u1 u2 v1 v2 c F ow δ d1 d2 d I r1 r2 w p1 p2 hg g
  obtain ⟨k1, l1, b, rfl, h2, hM, rfl⟩ := gEqO_inv hg
  obtain ⟨tb, lk, nf⟩ := eq_other o I r2 p2 h2
  obtain ⟨a1, dx1, vf1, rfl, _, h1, _, _⟩ := id p1.obj_inv
  cases r1
  obtain ⟨ox1, od1, J1⟩ := ins_at I h1
  obtain ⟨m, hF⟩ := I.fr
  show wpAny (model X.prog X.w) X.A (richCompare .NotEq (.ref a1) u2) (EP X pins σ Q) X.xe s
  refine ne_own hu hF I.ok.mod.kin J1 lk nf hne o.obj hs hf ?_
  refine wpAny_mono (wpAny_call (codeAny_mono (R pins σ H s (fun v H' => v = .bl b ∧ ∃ F' ow', Ext F H F' H' ∧ W X.K c F' ow' H' σ δ) [.ref a1, u2] [.ref a1, v2] c F ow δ [_, _] _ I (.cons (show RelV (V.ref _) (Value.ref _) from rfl) (.cons r2 .nil)) rfl w (.cons p1 (.cons p2 .nil)) hM
    (fun F' ow' H' v ex w' r => ⟨r.bl_inv, F', ow', ex, w'⟩)) (R' := fun r s' => match r with
      | .ok (.ret v) => EP X pins σ (fun v H' => v = .bl b ∧ ∃ F' ow', Ext F H F' H' ∧ W X.K c F' ow' H' σ δ) v s'
      | .ok _ => False
      | .error e => X.xe e s') fun r s' z => by
        match r, z with
        | .ok (.ret v), z => exact z
        | .error e, z => exact z.elim)) (fun v s' hv => ?_) fun _ _ z => z
  obtain ⟨z, H', I', rz, ez, F', ow', ex, w'⟩ := hv
  subst ez
  cases rz
  exact ⟨b, rfl, .bl (!b), H', I', rfl, g F' ow' H' (.bl (!b)) ex w' (.bl (!b))⟩
end
end PV

namespace PV
open PySem PySem.Spec PyProof.Rows L2
/-! ## enumerate(text) -/
def sgn (n : Nat) : Str := ⟨#[n]⟩
def Ites (x : Str) : It :=
  ⟨fun i _ => i < x.cps.size, fun i H v H' => ∃ T c, v = .ref T ∧ H T = none ∧ H' = upd H T (.tup [.int (i : Nat), .str (sgn c)]) ∧ x.cps[i]? = some c, fun i _ => x.cps.size ≤ i⟩
theorem draws_str {prog : Program} {w : World} {A : Around} (hh : A.handled = none) (it : Addr) (x : Str) (t : Tok) :
    Draws prog w A it [it] x.cps.size (fun i v => ∃ c u, x.cps[i]? = some c ∧ v = .str (sgn c) u) (fun i h => h.IsStrIter it (strIterType x) x t i) := by
  cases ha : x.cps.all (· < 128)
  · have e : strIterType x = "str_iterator" := by simp [strIterType, ha]
    rw [e]; exact Draws.strWide hh it x t
  · have e : strIterType x = "str_ascii_iterator" := by simp [strIterType, ha]
    rw [e]; exact Draws.strAscii hh it x t
theorem turn_enumS {P : Program} {w : World} {K : PySem.W.Frag} {elts : List Expr} {kk : Nat} {tpos : Pos} (x : Str) (t : Tok) (e it : Addr) :
    Turn P w K (.Tuple elts kk tpos) (Ites x) [e, it] e (fun i h => (∃ old, IsEnum h e it ((i : Nat) : Int) old) ∧ h.IsStrIter it (strIterType x) x t i ∧ e ≠ it ∧ i ≤ x.cps.size) where
  mem := by simp
  obj := fun i h st b hb => by
    obtain ⟨⟨old, he⟩, ⟨o, ho, hc, hd⟩, _⟩ := st
    have e' : b = e ∨ b = it := by simpa using hb
    rcases e' with z | z
    · rw [z]; exact ⟨_, he, fun v q => nomatch q⟩
    · rw [z]; exact ⟨o, ho, fun v q => by rw [hd] at q; cases q⟩
  keep := fun i h h' st k => by
    obtain ⟨⟨old, he⟩, ⟨o, ho, r⟩, hne, hl⟩ := st
    exact ⟨⟨old, k e (by simp) _ he⟩, ⟨o, k it (by simp) o ho, r⟩, hne, hl⟩
  item := by
    intro X hP hw hK hc i pins s σ H E I hf st hg
    subst hP hw hK
    obtain ⟨⟨old, he⟩, hit, hne, hl⟩ := st
    have hel : e < s.heap.objs.size := Heap.lt_size he
    have hil : it < s.heap.objs.size := by obtain ⟨_, q, _⟩ := hit; exact Heap.lt_size q
    refine wpAny_pyNext_enum_itemD (draws_str (prog := X.prog) (w := X.w) (A := X.A.in1) (show X.A.in1.handled = none from I.ok.hd hc) it x t) he hit hg hne (by simpa using hne) fun u h' tk hPx ho hit' hT hsz hk => ?_
    obtain ⟨c, tc, hx, rfl⟩ := hPx
    refine ⟨_, rfl, wpAny_letOwnedTupleGo_enum (s := { s with heap := h', toks := tk + 1 }) ho fun h'' he' sb => ?_⟩
    have hT2 : h''.get? s.heap.objs.size = some { cls := .type "tuple", data := .seq #[.int i tk, .str (sgn c) tc] } := (sb.2 _ (Nat.ne_of_gt hel)).trans hT
    have new : ObjOk X.prog X.w (upd H s.heap.objs.size (.tup [.int (i : Nat), .str (sgn c)])) h'' s.heap.objs.size (.tup [.int (i : Nat), .str (sgn c)]) :=
      ⟨by show 2 ≤ sizeLine; decide, [.int i tk, .str (sgn c) tc], .cons ⟨_, rfl⟩ (.cons ⟨_, rfl⟩ .nil), ⟨_, hT2, rfl, _, rfl⟩⟩
    have I1 : Inv X pins σ (upd H s.heap.objs.size (.tup [.int (i : Nat), .str (sgn c)])) { s with heap := h'', toks := tk + 1 } :=
      I.turnedNew (ch := [e, it]) (fun b ob hb q => (sb.2 b (fun z => hb (by simp [z]))).trans (hk b ob (fun z => hb (by simp [z])) (fun z => hb (by simp [z])) q)) hf (Nat.le_refl _) new
    refine ⟨.ref s.heap.objs.size, _, I1, rfl, ⟨_, c, rfl, I.hok.fresh (Nat.le_refl _), rfl, hx⟩, ⟨⟨.str (sgn c) tc, ?_⟩, ?_, hne, hg⟩, fun b hb => ?_⟩
    · have e1 : ((i + 1 : Nat) : Int) = (i : Int) + 1 := by omega
      rw [e1]; exact he'
    · obtain ⟨o, q, r⟩ := hit'
      exact ⟨o, (sb.2 it (Ne.symm hne)).trans q, r⟩
    · have hb' : b < s.heap.objs.size := by
        have e' : b = e ∨ b = it := by simpa using hb
        rcases e' with z | z
        · rw [z]; exact hel
        · rw [z]; exact hil
      rw [upd_ne (Nat.ne_of_lt hb')]
      exact (hf b hb).1
  done := by
    intro X hP hw hK hc i pins s σ H E I hf st hg
    subst hP hw hK
    obtain ⟨⟨old, he⟩, hit, hne, hl⟩ := st
    obtain rfl : i = x.cps.size := Nat.le_antisymm hl hg
    obtain ⟨f0, f1, f2, f3, f4, f5⟩ := hf it (by simp)
    exact wpAny_pyNext_enum_endD (draws_str (prog := X.prog) (w := X.w) (A := X.A.in1) (show X.A.in1.handled = none from I.ok.hd hc) it x t) he hit fun h' eb => ⟨rfl, I.turned (t' := s.toks) (fun b o hb q => eb b o hb q) f0 f1 f3 f4 f5⟩
  self := fun A i s Q E st h => let ⟨⟨_, he⟩, _⟩ := st; wpAny_pyIter_enum he h
def iEnumS (ta : TA) : TI := fun σ H R => ta σ H fun vs H1 => ∃ x, vs = [.str x] ∧ R (Ites x) H1
theorem pi_enumS {X : Cx} {e : Expr} {ta : TA} {p pos tpos : Pos} {elts : List Expr} {kk : Nat} (hg : Gl X "enumerate") (hm : X.mg "enumerate" = none) (ha : PA X [e] ta) (hs : starEach [e] X.env = [(false, eval e X.env)] := by rfl) :
    PI X (.Tuple elts kk tpos) (.Call (.Name "enumerate" p) [e] [] pos) (iEnumS ta) := by
  refine ⟨fun pins s σ H R I h => ?_⟩
  refine Call_ (ld_blt I hg hm boot_enumerate (PyProof.Rows.callWith_type1 (thn (ha.run pos pins s σ H _ I h) fun us s1 ⟨vs, H1, I1, r1, q1⟩ => ?_) hs rfl))
  obtain ⟨x, ex, q⟩ := q1
  subst ex
  cases r1 with
  | cons r rr =>
    cases rr
    obtain ⟨t, rfl⟩ := r
    refine call_enumerate_str fun h' he hit hsz hk => wpAny_pyIter_enum he ?_
    have I2 : Inv X pins σ H1 { s1 with heap := h' } := I1.kept (t' := s1.toks) hk
    refine ⟨s1.heap.objs.size + 1, [s1.heap.objs.size + 1, s1.heap.objs.size], _, _, H1, rfl, I2, turn_enumS x t (s1.heap.objs.size + 1) s1.heap.objs.size, ⟨⟨.none, he⟩, hit, Nat.succ_ne_self _, Nat.zero_le _⟩, fun b hb => ?_, q⟩
    have e' : b = s1.heap.objs.size + 1 ∨ b = s1.heap.objs.size := by simpa using hb
    have hle : s1.heap.objs.size ≤ b := by
      rcases e' with z | z
      · rw [z]; exact Nat.le_add_right _ _
      · rw [z]; exact Nat.le_refl _
    exact I1.fpOk hle (I1.hok.fresh hle)
/-- the pairs of places and signs, of places and items -/
def enumS (x : Str) : List D := (List.range x.cps.size).map fun i => .tup [.int ((i : Nat) : Int), .str (sgn (x.cps.getD i 0))]
def enumL (l : List D) : List D := (List.range l.length).map fun i => .tup [.int ((i : Nat) : Int), l.getD i .non]
theorem itd_enumS {K : PySem.W.Frag} {F : Addr → Prop} {H : Hp} {x : Str} : ItD K (Ites x) F H (enumS x) where
  go := fun F' H' i _ hi => by show i < x.cps.size; simpa [enumS] using hi
  yld := fun F' H' i v H2 _ hi ⟨T, c, ev, hT, eH, hx⟩ => by
    have hi' : i < x.cps.size := by simpa [enumS] using hi
    refine ⟨.tup [.int ((i : Nat) : Int), .str (sgn (x.cps.getD i 0))], ?_, .inr ⟨T, _, ev, hT, eH, ?_⟩⟩
    · unfold enumS; rw [List.getElem?_map, List.getElem?_range hi']; rfl
    · have ec : x.cps.getD i 0 = c := by rw [Array.getD_eq_getD_getElem?, hx]; rfl
      subst ev; subst eH
      rw [ec]
      exact .tup (.inr rfl) upd_same (.cons (.int _) (.cons (.str _) .nil))
  stop := fun F' H' i _ hi => by show x.cps.size ≤ i; simpa [enumS] using hi
theorem itd_enumL {K : PySem.W.Frag} {F : Addr → Prop} {H : Hp} {a : Addr} {vs : List V} {ds : List D} (sq : ∀ F' H', Ext F H F' H' → SqL K H' a vs) (r : Reps K F H vs ds) : ItD K (Ite K a) F H (enumL ds) where
  go := fun F' H' i e hi => by
    have hi' : i < vs.length := by rw [r.length]; simpa [enumL] using hi
    exact ⟨vs, vs[i], sq F' H' e, List.getElem?_eq_getElem hi'⟩
  yld := fun F' H' i v H2 e hi ⟨T, x, ev, hT, eH, hx⟩ => by
    have hi' : i < ds.length := by simpa [enumL] using hi
    have hv := hx vs (sq F' H' e)
    obtain ⟨d, hd, rd⟩ := r.getV hv
    refine ⟨.tup [.int ((i : Nat) : Int), d], ?_, .inr ⟨T, _, ev, hT, eH, ?_⟩⟩
    · unfold enumL; rw [List.getElem?_map, List.getElem?_range hi', Option.map_some, List.getD_eq_getElem?_getD, hd]; rfl
    · subst ev; subst eH
      have e2 : Ext F' H' (fun a => F' a ∨ a = T) (upd H' T (.tup [.int (i : Nat), x])) := ⟨fun _ f => .inl f, fun b o f q => by rw [upd_ne (ne_of_none q hT)]; exact q⟩
      exact .tup (.inr rfl) upd_same (.cons (.int _) (.cons (rd.mono (e.trans e2)) .nil))
  stop := fun F' H' i e hi => ⟨vs, sq F' H' e, by rw [r.length]; simpa [enumL] using hi⟩
section
variable {X : Cx} {c : FC} {e : Expr} {fe : Env → R D} {p pos tpos : Pos} {elts : List Expr} {kk : Nat}
def iEnS (f : Env → R D) (δ : Env) : R (List D) := (f δ).bind fun x δ1 => match x with
  | .str s => .ok (enumS s) δ1
  | _ => .bad
theorem di_enumS (hg : Gl X "enumerate") (hm : X.mg "enumerate" = none) (he : DE X c e fe) (hs : starEach [e] X.env = [(false, eval e X.env)] := by rfl) (hs2 : starEach [e] X.env = (false, eval e X.env) :: starEach [] X.env := by rfl) : DI X c (.Tuple elts kk tpos) (.Call (.Name "enumerate" p) [e] [] pos) (iEnS fe) :=
  PI.imp (pi_enumS hg hm (pa_cons he pa_nil hs2) hs) fun σ H Q ⟨F, ow, δ, w, g⟩ => ⟨F, ow, δ, w, by
    unfold iEnS at g
    cases q : fe δ with
    | bad => rw [q] at g; exact g
    | ok d δ1 =>
      rw [q] at g
      intro F' ow' H' v ex w' r
      cases d with
      | str s =>
        have := r.str_inv
        subst this
        exact ⟨s, rfl, g F' ow' H' _ ex w' itd_enumS⟩
      | _ => exact g.elim⟩
/-- over a list -/
def iEnL (f : Env → R D) (δ : Env) : R (List D) := (f δ).bind fun x δ1 => match gLstOf x with
  | some l => .ok (enumL l) δ1
  | none => .bad
theorem di_enumL (hg : Gl X "enumerate") (hm : X.mg "enumerate" = none) (he : DE X c e fe) (hs : starEach [e] X.env = [(false, eval e X.env)] := by rfl) (hs2 : starEach [e] X.env = (false, eval e X.env) :: starEach [] X.env := by rfl) : DI X c (.Tuple elts kk tpos) (.Call (.Name "enumerate" p) [e] [] pos) (iEnL fe) :=
  PI.imp (pi_enum hg hm (pa_cons he pa_nil hs2) hs) fun σ H Q ⟨F, ow, δ, w, g⟩ => ⟨F, ow, δ, w, by
    unfold iEnL at g
    cases q : fe δ with
    | bad => rw [q] at g; exact g
    | ok d δ1 =>
      rw [q] at g
      intro F' ow' H' v ex w' r
      cases d with
      | lst l =>
        obtain ⟨a, vs, rfl, h, fa, rs⟩ := r.lst_inv
        exact ⟨a, vs, rfl, SqL.of h, g F' ow' H' _ ex w' (itd_enumL (fun F2 H2 e2 => SqL.of (e2.kp _ _ fa h)) rs)⟩
      | scr ns =>
        cases r with
        | scr fa h => exact ⟨_, _, rfl, .inl (.inr ⟨_, h⟩), g F' ow' H' _ ex w' (itd_enumL (fun F2 H2 e2 => .inl (.inr ⟨_, e2.kp _ _ fa h⟩)) Reps.ints)⟩
        | scrK h => exact ⟨_, _, rfl, .inr h, g F' ow' H' _ ex w' (itd_enumL (fun F2 H2 e2 => .inr h) Reps.ints)⟩
      | _ => exact g.elim⟩
end
end PV

namespace PV
open PySem PySem.Spec PyProof.Rows L2
/-! ## slices with a step -/
def slIdx (lo hi st : Option Int) (n : Nat) : List Nat := sliceRange (sliceBounds lo hi st n).1 (sliceBounds lo hi st n).2.1 (sliceBounds lo hi st n).2.2
theorem slicePick_eq (items : List Value) (lo hi st : Option Int) : slicePick items.toArray lo hi st = (pick (slIdx lo hi st items.length) items).toArray := by
  unfold slicePick slIdx pick
  simp
theorem pick_len_le {α : Type} (ix : List Nat) (l : List α) : (pick ix l).length ≤ ix.length := List.length_filterMap_le _ _
def strCut (x : Str) (lo hi : Option Int) (k : Int) : Str := Txt.sliceBy x (lo.map fun i => (i, 0)) (hi.map fun i => (i, 0)) (k, 0)
def gSlS : D → Option Int → Option Int → Option Int → Option D
  | .lst l, lo, hi, some k => if k ≠ 0 ∧ (slIdx lo hi (some k) l.length).length ≤ 16000000 then some (.lst (pick (slIdx lo hi (some k) l.length) l)) else none
  | .str x, lo, hi, some k => if k ≠ 0 ∧ x.length ≤ 16000000 then some (.str (strCut x lo hi k)) else none
  | _, _, _, _ => none
def dSlS (f : Env → R D) (lo hi st : Env → R (Option Int)) (δ : Env) : R D := (f δ).bind fun x δ1 => (lo δ1).bind fun l δ2 => (hi δ2).bind fun h δ3 => (st δ3).bind fun k δ4 => match gSlS x l h k with
  | some z => .ok z δ4
  | none => .bad
section
variable {X : Cx} {c : FC} {e : Expr} {fe : Env → R D} {pos : Pos}
theorem part_of {v : Value} {o : Option Int} (h : IsPart v o) : ∃ l : Option (Int × Tok), v = partValue l ∧ l.map (·.1) = o := by
  cases h with
  | none => exact ⟨none, rfl, rfl⟩
  | int i t => exact ⟨some (i, t), rfl, rfl⟩
theorem part_go {o : Option Expr} {f : Env → R (Option Int)} {k : Option Int → Env → R D} {pins : List (Addr × Obj)} {s : Shared} {σ : L2.St} {H : Hp} {Q : VK} {F : Addr → Prop} {ow : Addr → Option Nat} {δ : Env} (h : DO X c o f) (I : Inv X pins σ H s) (w : W X.K c F ow H σ δ) (g : Go X.K c (Rep X.K) F H σ ((f δ).bind k) Q) {R' : Value → Shared → Prop}
    (hq : ∀ u s1 H1 F1 ow1 δ1 l, Inv X pins σ H1 s1 → IsPart u l → Ext F H F1 H1 → W X.K c F1 ow1 H1 σ δ1 → Go X.K c (Rep X.K) F1 H1 σ (k l δ1) Q → R' u s1) : wpAny (model X.prog X.w) X.A (evalPart o X.env) R' X.xe s := by
  refine thn (h.run pins s σ H _ I ⟨F, ow, δ, w, Go.bind (rep := repO) g⟩) ?_
  rintro u s1 ⟨l, H1, I1, pl, F1, ow1, l', δ1, e1, w1, r1, _, g1⟩
  cases r1
  exact hq u s1 H1 F1 ow1 δ1 l I1 pl e1 w1 g1
theorem de_slS {lo hi st : Option Expr} {fl fh fs : Env → R (Option Int)} {p2 : Pos} (he : DE X c e fe) (hl : DO X c lo fl) (hh : DO X c hi fh) (hst : DO X c st fs)
    (hs : ∀ v i, subscripted (.Slice lo hi st p2) false v i = operate [v, i] (getItem v i) ∨ subscripted (.Slice lo hi st p2) false v i = operate [i, v] (getItem v i) := by intro v i; first | exact .inl (by with_unfolding_all rfl) | exact .inr (by with_unfolding_all rfl)) :
    DE X c (.Subscript e (.Slice lo hi st p2) pos) (dSlS fe fl fh fs) := by
  refine ⟨fun pins s σ H Q I ⟨F, ow, δ, w, g⟩ => ?_⟩
  refine Subscript_ (thn (he.run pins s σ H _ I ⟨F, ow, δ, w, Go.bind (rep := Rep X.K) g⟩) ?_)
  rintro v s1 ⟨x, H1, I1, rx, F1, ow1, d, δ1, e1, w1, r1, _, g1⟩
  refine wpAny_Slice (part_go hl I1 w1 g1 fun vl s2 H2 F2 ow2 δ2 l I2 pl e2 w2 g2 => part_go hh I2 w2 g2 fun vu s3 H3 F3 ow3 δ3 u I3 pu e3 w3 g3 => part_go hst I3 w3 g3 fun vk s4 H4 F4 ow4 δ4 k I4 pk e4 w4 g4 => ?_)
  have r4 := r1.mono ((e2.trans e3).trans e4)
  have I5 : Inv X pins σ H4 { s4 with heap := s4.heap.push { cls := .type "slice", data := .fields #[vl, vu, vk] } } := I4.kept (t' := s4.toks) fun b ob q => Heap.get?_push_of_some _ q
  split at g4
  · rename_i z hz
    cases k with
    | none => cases d <;> cases hz
    | some k' =>
    cases d with
    | lst ls =>
      have hz' : (if k' ≠ 0 ∧ (slIdx l u (some k') ls.length).length ≤ 16000000 then some (D.lst (pick (slIdx l u (some k') ls.length) ls)) else none) = some z := hz
      split at hz'
      · rename_i hk
        cases hz'
        obtain ⟨a, vs, rfl, ha, _, rs⟩ := r4.lst_inv
        cases rx
        obtain ⟨its, rv, ht, hzz⟩ := I5.list (SqL.of ha)
        have hn : its.length = ls.length := rv.length.symm.trans rs.length
        show wpAny (model X.prog X.w) X.A (subscriptTail e (.Slice lo hi st p2) (.ref a) (.ref s4.heap.objs.size)) (EP X pins σ Q) X.xe { s4 with heap := s4.heap.push { cls := .type "slice", data := .fields #[vl, vu, vk] } }
        have gi : wpAny (model X.prog X.w) X.A (getItem (.ref a) (.ref s4.heap.objs.size)) (EP X pins σ Q) X.xe { s4 with heap := s4.heap.push { cls := .type "slice", data := .fields #[vl, vu, vk] } } := by
          refine wpAny_getItem_list_slice ht.isList (Heap.IsSliceOf.new _ vl vu vk) pl pu pk (by simpa using hk.1) ?_ (by rw [List.size_toArray]; have := rv.length; omega)
          rw [slicePick_eq, hn]
          refine ⟨.ref _, _, I5.laid (t' := s4.toks) (o := .lst (pick (slIdx l u (some k') ls.length) vs)) (fun b ob q => Heap.get?_push_of_some _ q) (Nat.le_refl _) ?_, rfl, new_lst w4 (pick_reps rs) g4 _ (I5.hok.fresh (Nat.le_refl _))⟩
          exact ⟨Nat.le_trans (pick_len_le _ _) (Nat.le_trans hk.2 line16), _, 0, pick_vals rv, Heap.get?_push_size _ rfl⟩
        rcases hs (.ref a) (.ref s4.heap.objs.size) with h | h
        · exact tail_any ht.isList.typeIs PySem.slot_list_getitem.lookup gi h
        · exact tail_any ht.isList.typeIs PySem.slot_list_getitem.lookup gi h
      · cases hz'
    | str xs =>
      have hz' : (if k' ≠ 0 ∧ xs.length ≤ 16000000 then some (D.str (strCut xs l u k')) else none) = some z := hz
      split at hz'
      · rename_i hk
        cases hz'
        have := r4.str_inv
        subst this
        obtain ⟨t, rfl⟩ := rx
        obtain ⟨l1, rfl, el⟩ := part_of pl
        obtain ⟨u1, rfl, eu⟩ := part_of pu
        cases pk with
        | int _ tk =>
        show wpAny (model X.prog X.w) X.A (subscriptTail e (.Slice lo hi st p2) (.str xs t) (.ref s4.heap.objs.size)) (EP X pins σ Q) X.xe { s4 with heap := s4.heap.push { cls := .type "slice", data := .fields #[partValue l1, partValue u1, .int k' tk] } }
        have hk0 : (k' == 0) = false := by simpa using hk.1
        have es : strCut xs l u k' = Txt.sliceBy xs l1 u1 (k', tk) := by
          unfold strCut Txt.sliceBy slicePicked
          subst el; subst eu
          cases l1 <;> cases u1 <;> rfl
        rw [es] at g4
        have gi : wpAny (model X.prog X.w) X.A (getItem (.str xs t) (.ref s4.heap.objs.size)) (EP X pins σ Q) X.xe { s4 with heap := s4.heap.push { cls := .type "slice", data := .fields #[partValue l1, partValue u1, .int k' tk] } } := by
          refine wpAny_getItem_str_slice (l := l1) (u := u1) (st := some (k', tk)) ⟨_, Heap.get?_push_size _ rfl, rfl, rfl⟩ hk0 ?_
          exact post_val_or_str ⟨Nat.le_trans (Txt.sliceBy_le xs _ _ (k', tk) (by simpa using hk0)) (Nat.le_trans hk.2 line16), fun t' c' => ⟨.str _, H4, I5.tok _, ⟨_, rfl⟩, go_val w4 (.str _) g4⟩⟩
        rcases hs (.str xs t) (.ref s4.heap.objs.size) with h | h
        · exact tail_any (typeIs_str _ _ _) PySem.F.slot_str_getitem.lookup gi h
        · exact tail_any (typeIs_str _ _ _) PySem.F.slot_str_getitem.lookup gi h
      · cases hz'
    | _ => cases hz
  · exact g4.elim
end
end PV

namespace PV
open PySem PySem.Spec PyProof.Rows L2
/-! ## a number's binary signs -/
def bits01 (n : Nat) : List Nat := (Nat.toDigits 2 n).map Char.toNat
def binS (n : Nat) : Str := ⟨(bits01 n).toArray⟩
section
open Builtin Builtin.Str Builtin.Int Builtin.Float
variable {prog : Program} {w : World} {A : Around} {E : Value → Shared → Prop} {s : Shared}
def bF : FormatSpec := { fill := 32, align := 62, sign := none, noNeg0 := false, alt := false, width := none, grouping := none, precision := none, type := some 98 }
theorem parse_b (name : String) : parseFormatSpec ("b" : Str).cps.toList name 62 = .ok bF := rfl
theorem bits01_ne (n : Nat) : bits01 n ≠ [] := by
  intro h
  have h2 : (Nat.toDigits 2 n).length = 0 := by simpa [bits01] using congrArg List.length h
  have := Nat.length_toDigits_pos (b := 2) (n := n)
  omega
theorem field_bin (n : Nat) {t : Tok} {Q : Value → Shared → Prop} (hz : (binS n).length ≤ sizeLine) (h : ∀ t' k, Q (.str (binS n) t') { s with toks := k }) : wpAny (model prog w) A (formatField (.int (n : Int) t) "b") Q E s := by
  obtain ⟨f, hp, hf⟩ : ∃ f, parseFormatSpec ("b" : Str).cps.toList "int" 62 = .ok f ∧ f = bF := ⟨_, parse_b "int", rfl⟩
  have h1 : f.type = some 98 := by rw [hf]; rfl
  have h2 : f.precision = none := by rw [hf]; rfl
  have h3 : f.noNeg0 = false := by rw [hf]; rfl
  have h5 : f.width = none := by rw [hf]; rfl
  show wpAny _ _ (holding [.int (n : Int) t] (pyFormat (.int (n : Int) t) "b")) Q E s
  refine wpAny_holding ?_
  unfold pyFormat
  refine wpAny_bind (wpAny_mkStr ?_ (by decide))
  refine wpAny_bind (m := callSpecial? (.int (n : Int) t) (Str.ofString "__format__") [.str "b" s.toks]) (wpAny_callSpecial?_slot (name := Str.ofString "__format__") (typeIs_int _ _ t) PySem.F.slot_int_format ?_)
  refine wpAny_call (codeAny_call_builtin PySem.F.slot_int_format.plain PySem.F.entry_int_format (PySem.F.slot_int_format.check _ _ _ _ _ _ _ _ (typeIs_int _ _ t) (PySem.F.args_int_format_2 _ _) ?_))
  unfold Builtin.«int.__format__»
  simp only [selfAndOne, noKeywords, Int.intOfSelf, asInt?, asStr?, List.isEmpty_nil, if_true, pure_bind, bind_pure, bind_assoc, Bool.false_eq_true, if_false,
    show (Value.str "b" s.toks == Value.none) = false from rfl, show (("b" : Str).length == 0) = false from rfl]
  refine wpAny_bind (wpAny_typeNameOf (T := "str") (typeIs_str _ _ _) (by decide) fun _ => ?_)
  rw [if_neg (by decide)]
  refine wpAny_bind (wpAny_typeNameOfCut_int ?_)
  simp only [hp, h1]
  rw [if_pos (by decide)]
  show wpAny _ _ (if _ then _ else _) _ _ _
  rw [if_neg (by simp [h2])]
  show wpAny _ _ (if _ then _ else _) _ _ _
  rw [if_neg (by simp [h3])]
  show wpAny _ _ (if _ then _ else _) _ _ _
  rw [if_neg (by decide)]
  show wpAny _ _ (if _ then _ else _) _ _ _
  rw [if_neg (by decide)]
  show wpAny _ _ (if _ then _ else _) _ _ _
  rw [if_neg (by simp [h5])]
  subst hf
  have hd : List.map (fun c => (if ((some 98).getD (if (("b" : Str).cps.back? == some 0) = true then 0 else 100) == 88) = true then c.toUpper else c).toNat) (Nat.toDigits 2 ((n : Int)).natAbs) = bits01 n := by
    unfold bits01
    rw [Int.natAbs_natCast]
    refine List.map_congr_left fun c _ => ?_
    rw [if_neg (by decide)]
  rw [hd, show decide ((n : Int) < 0) = false from decide_eq_false (by omega)]
  have hne := bits01_ne n
  unfold binS at *
  generalize bits01 n = ds at *
  cases ds with
  | nil => exact absurd rfl hne
  | cons c r =>
  have e0 : (⟨(List.replicate (((-1 : Int) - 0 - ((List.replicate ((0 : Int).toNat - (c :: r).length) 48 ++ (c :: r)).length : Int)).toNat) 32 ++ ([] : List Nat) ++ [] ++ List.replicate 0 32 ++ (List.replicate ((0 : Int).toNat - (c :: r).length) 48 ++ (c :: r)) ++ [] ++ List.replicate 0 32).toArray⟩ : Str) = ⟨(c :: r).toArray⟩ := by
    have z : (0 : Int).toNat - (c :: r).length = 0 := by simp
    rw [z]
    have z2 : ∀ m : Nat, ((-1 : Int) - ((0 : Nat) : Int) - ((m : Nat) : Int)).toNat = 0 := by intro m; omega
    rw [z2]; simp
  refine PySem.W.KXf.ret_text (T := ⟨(c :: r).toArray⟩) ?_ ?_ ?_
  · exact e0
  · exact Nat.le_trans (Nat.le_of_eq (congrArg Str.length e0)) hz
  · intro t' k
    exact wpAny_bind (wpAny_isInstance (T := "str") (b := true) rfl isSubtype_str_str (wpAny_pure (h _ _)))
end
end PV

namespace PV
open PySem PySem.Spec PyProof.Rows L2
/-! ## int(text, 2) -/
open PySem.NumText PySem.Calls
def Is01 (c : Nat) : Prop := c = 48 ∨ c = 49
def num01 (l : List Nat) : Nat := l.foldl (fun a c => a * 2 + (c - 48)) 0
theorem step_01 {ds : Array Nat} {b : Bool} {c : Nat} (h : Is01 c) : PySem.NumText.step 2 (ds, b) c = some (ds.push (c - 48), true) := by
  rcases h with rfl | rfl <;> rfl
theorem fold_01 : ∀ (cs : List Nat) (ds : Array Nat), (∀ c ∈ cs, Is01 c) → cs.foldlM (PySem.NumText.step 2) (ds, true) = some (cs.foldl (fun acc c => acc.push (c - 48)) ds, true)
  | [], _, _ => rfl
  | c :: cs, ds, h => by
    rw [List.foldlM_cons, step_01 (h c List.mem_cons_self)]
    exact fold_01 cs (ds.push (c - 48)) fun d hd => h d (List.mem_cons_of_mem _ hd)
theorem digits_01 {cs : List Nat} (h : ∀ c ∈ cs, Is01 c) (hne : cs ≠ []) : digits? 2 cs = some (cs.foldl (fun acc c => acc.push (c - 48)) #[]) := by
  cases cs with
  | nil => exact absurd rfl hne
  | cons c cs =>
    unfold digits?
    rw [List.foldlM_cons, step_01 (h c List.mem_cons_self)]
    show (cs.foldlM (PySem.NumText.step 2) ((#[] : Array Nat).push (c - 48), true)).bind _ = _
    rw [fold_01 cs _ fun d hd => h d (List.mem_cons_of_mem _ hd)]
    rfl
theorem push_01 : ∀ (cs : List Nat) (ds : Array Nat), (cs.foldl (fun acc c => acc.push (c - 48)) ds).foldl (fun acc d => acc * 2 + d) 0 = cs.foldl (fun a c => a * 2 + (c - 48)) (ds.foldl (fun acc d => acc * 2 + d) 0)
  | [], _ => rfl
  | c :: cs, ds => by
    rw [List.foldl_cons, push_01 cs (ds.push (c - 48)), List.foldl_cons]
    congr 1
    simp
theorem drop_01 {cs : List Nat} (h : ∀ c ∈ cs, Is01 c) : cs.dropWhile blank = cs := by
  cases cs with
  | nil => rfl
  | cons c cs => exact dropWhile_of (by rcases h c List.mem_cons_self with e | e <;> omega)
theorem sign_01 {cs : List Nat} (h : ∀ c ∈ cs, Is01 c) : sign cs = (false, cs) := by
  cases cs with
  | nil => rfl
  | cons c cs => exact sign_of (by rcases h c List.mem_cons_self with e | e <;> omega) (by rcases h c List.mem_cons_self with e | e <;> omega)
theorem based_01 {cs : List Nat} (h : ∀ c ∈ cs, Is01 c) : based 2 cs = (2, false, cs) := by
  match cs, h with
  | [], _ => rfl
  | [a], h => rcases h a List.mem_cons_self with rfl | rfl <;> rfl
  | a :: c :: r, h =>
    have hc := h c (List.mem_cons_of_mem _ List.mem_cons_self)
    rcases h a List.mem_cons_self with rfl | rfl
    · rcases hc with rfl | rfl <;> rfl
    · rfl
theorem read_01 (lim : Nat) {cs : List Nat} (h : ∀ c ∈ cs, Is01 c) (hne : cs ≠ []) : (int_private% "readNumeral") lim 2 cs = (int_private% "Numeral.value") ((num01 cs : Nat) : Int) := by
  have hr : ∀ c ∈ cs.reverse, Is01 c := fun c hc => h c (List.mem_reverse.mp hc)
  refine (readNumeral_eq lim 2 cs).trans ?_
  rw [drop_01 h, sign_01 h]
  show judge lim false (based 2 cs).1 (based 2 cs).2.1 (digits? (based 2 cs).1 (((based 2 cs).2.2.reverse.dropWhile blank).reverse)) = _
  rw [based_01 h]
  show judge lim false 2 false (digits? 2 ((cs.reverse.dropWhile blank).reverse)) = _
  rw [drop_01 hr, List.reverse_reverse, digits_01 h hne]
  show (int_private% "Numeral.value") (((cs.foldl (fun acc c => acc.push (c - 48)) (#[] : Array Nat)).foldl (fun acc d => acc * 2 + d) 0 : Nat) : Int) = _
  have z : (#[] : Array Nat).foldl (fun acc d => acc * 2 + d) 0 = 0 := by simp
  rw [push_01, z] <;> rfl
theorem seen_01 {x : Str} (h : ∀ c ∈ x.cps.toList, Is01 c) : numTextOf x = x.cps.toList ∧ numSeenOf x = x.cps.toList := by
  have lt : ∀ c ∈ x.cps.toList, c < 128 ∧ c ≠ 0 := fun c hc => by rcases h c hc with e | e <;> omega
  have e1 : numTextOf x = x.cps.toList := by
    refine if_pos ?_
    rw [← Array.all_toList, List.all_eq_true]
    exact fun c hc => decide_eq_true (lt c hc).1
  refine ⟨e1, ?_⟩
  show (numTextOf x).takeWhile _ = _
  rw [e1]
  exact takeWhile_all fun c hc => bne_iff_ne.mpr (lt c hc).2
section
variable {M : Model} {A : Around} {E : Value → Shared → Prop} {s : Shared} {Q : Value → Shared → Prop} {v : Value} {text : List Nat} {n : Int}
theorem wp_text01 (hd : s.heap.NoDigits) (hr : ∀ lim, (int_private% "readNumeral") lim 2 (text.takeWhile (· != 0)) = (int_private% "Numeral.value") n) (ha : ((text.takeWhile (· != 0)).length == text.length) = true) (h : Q (.int n s.toks) { s with toks := s.toks + 1 }) :
    wpAny M A ((int_private% "intFromText") v text 2) Q E s := by
  obtain ⟨mc, hns, hnone⟩ := hd
  obtain ⟨hp, g, d, tk, os⟩ := s
  by_cases hs : (text.takeWhile (· != 0)).length ≤ 640
  · repeat (any_goals (first
      | assumption
      | (with_reducible refine wpAny_ite_true (decide_eq_true hs) ?_)
      | (with_reducible refine wpAny_ite_true (decide_eq_true ha) ?_)
      | wp_step))
    all_goals (try rw [hr])
    all_goals (try dsimp only)
    repeat (any_goals (first
      | assumption
      | (with_reducible refine wpAny_ite_true (decide_eq_true hs) ?_)
      | (with_reducible refine wpAny_ite_true (decide_eq_true ha) ?_)
      | wp_step))
  · repeat (any_goals (first
      | assumption
      | (with_reducible refine wpAny_ite_false (decide_eq_false hs) ?_)
      | ((with_reducible show wpAny _ _ Builtin.intMaxStrDigits _ _ _); unfold Builtin.intMaxStrDigits; refine wpAny_bind (wpAny_nsGet hns ?_); rw [hnone])
      | (with_reducible refine wpAny_ite_true (decide_eq_true ha) ?_)
      | wp_step))
    all_goals (try rw [hr])
    all_goals (try dsimp only)
    repeat (any_goals (first
      | assumption
      | (with_reducible refine wpAny_ite_true (decide_eq_true ha) ?_)
      | wp_step))
end
structure Hid (p : Prop) : Prop where
  out : p
theorem meets_01 {x : PySem.Str} {u t : Tok} (h : ∀ c ∈ x.cps.toList, Is01 c) (hne : x.cps.toList ≠ []) :
    Meets (Builtin.«int.__new__» ⟨[.type "int", .str x u, .int 2 t], []⟩) (fun _ R s => s.heap.NoDigits ∧ R (.ok (.ret (.int ((num01 x.cps.toList : Nat) : Int) s.toks))) { s with toks := s.toks + 1 }) :=
  .of_wp fun prog w A R s ⟨hn, hQ⟩ => by
    obtain ⟨hp, g, d, tk, os⟩ := s
    have f1 := F.conv_sub_int
    have f2 := F.madeHere_int
    have f6 : typeOf (.str x u) = pure (.type "str") := rfl
    obtain ⟨e1, e2⟩ := seen_01 h
    have hr : ∀ lim, (int_private% "readNumeral") lim 2 (numSeenOf x) = (int_private% "Numeral.value") ((num01 x.cps.toList : Nat) : Int) := fun lim => by rw [e2]; exact read_01 lim h hne
    have ha : ((numSeenOf x).length == (numTextOf x).length) = true := by rw [e1, e2]; exact beq_self_eq_true _
    have hk := Hid.mk (And.intro hn (And.intro hr ha))
    clear hr ha e1 e2 hne h hn
    repeat (any_goals (first
      | assumption
      | ((with_reducible show wpAny _ _ ((int_private% "intFromText") _ _ _) _ _ _); refine wp_text01 hk.out.1 hk.out.2.1 hk.out.2.2 ?_)
      | wp_step))
    all_goals first | exact ⟨_, rfl, hQ⟩ | skip
theorem call_01 {prog : Program} {w : World} {A : Around} {E : Value → Shared → Prop} {s : Shared} {Q : Value → Shared → Prop} {x : PySem.Str} {u t : Tok} (hd : s.heap.NoDigits) (h : ∀ c ∈ x.cps.toList, Is01 c) (hne : x.cps.toList ≠ [])
    (hQ : Q (.int ((num01 x.cps.toList : Nat) : Int) s.toks) { s with toks := s.toks + 1 }) : wpAny (model prog w) A (call (.type "int") [.str x u, .int 2 t]) Q E s :=
  callType_new F.called_int F.newNe_int (Hx.typeCall_int_2 _ _) (Hx.newCall_int_2 _ _) (fun obj => F.initArgs_range_2 obj _ _) F.entry_int_new (meets_01 h hne) ⟨hd, rfl, hQ⟩
def fDig (K : PySem.W.Frag) : Bool := decide (PySem.W.nsIn K cStatics "sys.int_max_str_digits" = some none)
theorem noDigits {X : Cx} {pins : List (Addr × Obj)} {σ : L2.St} {H : Hp} {s : Shared} (I : Inv X pins σ H s) (hf : fDig X.K = true) : s.heap.NoDigits := by
  obtain ⟨mc, h1, _⟩ := I.nolimit
  refine ⟨mc, h1, ?_⟩
  have e : PySem.W.nsIn X.K cStatics "sys.int_max_str_digits" = some none := of_decide_eq_true hf
  have X0 := I.kIn
  obtain ⟨o, es, ep, ho, hd, hk, hf2⟩ := h1
  unfold PySem.W.nsIn at e
  split at e
  · rename_i c dd es' n' sl q
    have q2 := X0 _ _ q
    rw [ho] at q2
    cases q2
    cases hd
    split at e
    · cases e
    · rename_i he
      rw [← hf2]
      unfold nsFind findBy
      rw [← Array.find?_toList, he]
      rfl
  · cases e
end PV

namespace PV
open PySem PySem.Spec PyProof.Rows L2
/-! ## bits -/
def gBit (f : Int → Int → Int) : D → D → Option D
  | .int i, .int j => some (.int (f i j))
  | _, _ => none
def gShl : D → D → Option D
  | .int i, .int j => if 0 ≤ j ∧ j ≤ 100000000 ∧ Builtin.Int.intBits i ≤ 30000000 then some (.int (i * 2 ^ j.toNat)) else none
  | _, _ => none
def gShr : D → D → Option D
  | .int i, .int j => if 0 ≤ j then some (.int (i / 2 ^ j.toNat)) else none
  | _, _ => none
def gInv : D → Option D
  | .int i => some (.int (Builtin.bitNot i))
  | _ => none
section
variable {K : PySem.W.Frag}
theorem opd_bit (f : Int → Int → Int) : OpD K (rI0 fun i j => .int (f i j)) (gBit f) := by
  intro c F ow H σ δ x y v u z Q w rx ry e g
  unfold gBit at e
  split at e
  · cases e; cases rx; cases ry; exact ⟨_, _, rfl, rfl, go_val w (.int _) g⟩
  · cases e
theorem opd_shl : OpD K (rI CShl fun i j => .int (i * 2 ^ j.toNat)) gShl := by
  intro c F ow H σ δ x y v u z Q w rx ry e g
  unfold gShl at e
  split at e
  · split at e
    · rename_i hz; cases e; cases rx; cases ry; exact ⟨_, _, rfl, rfl, ⟨hz.1, by have := hz.2.1; have := hz.2.2; omega⟩, go_val w (.int _) g⟩
    · cases e
  · cases e
theorem opd_shr : OpD K (rI (fun _ j => 0 ≤ j) fun i j => .int (i / 2 ^ j.toNat)) gShr := by
  intro c F ow H σ δ x y v u z Q w rx ry e g
  unfold gShr at e
  split at e
  · split at e
    · rename_i hz; cases e; cases rx; cases ry; exact ⟨_, _, rfl, rfl, hz, go_val w (.int _) g⟩
    · cases e
  · cases e
end
section
variable {X : Cx} {c : FC} {a b e : Expr} {fa fb fe : Env → R D} {pos : Pos}
theorem de_band (ha : DE X c a fa) (hb : DE X c b fb) : DE X c (.BinOp a .BitAnd b pos) (dOp (gBit Builtin.bitAnd) fa fb) := de_op op_and (opd_bit _) ha hb
theorem de_bor (ha : DE X c a fa) (hb : DE X c b fb) : DE X c (.BinOp a .BitOr b pos) (dOp (gBit Builtin.bitOr) fa fb) := de_op op_or (opd_bit _) ha hb
theorem de_bxor (ha : DE X c a fa) (hb : DE X c b fb) : DE X c (.BinOp a .BitXor b pos) (dOp (gBit Builtin.bitXor) fa fb) := de_op op_xor (opd_bit _) ha hb
theorem de_shl (ha : DE X c a fa) (hb : DE X c b fb) : DE X c (.BinOp a .LShift b pos) (dOp gShl fa fb) := de_op op_shlW opd_shl ha hb
theorem de_shr (ha : DE X c a fa) (hb : DE X c b fb) : DE X c (.BinOp a .RShift b pos) (dOp gShr fa fb) := de_op op_shr opd_shr ha hb
theorem de_not1 (ha : DE X c a fa) : DE X c (.UnaryOp .Invert a pos) (dUn gInv fa) :=
  PE.imp (pe_un un_inv ha) fun σ H Q ⟨F, ow, δ, w, g1⟩ => ⟨F, ow, δ, w, Go.imp (fun v H1 h1 => by
    obtain ⟨F1, ow1, d, δ1, e1, w1, r1, _, g2⟩ := h1
    cases d with
    | int i => cases r1; exact ⟨i, rfl, g2 F1 ow1 H1 _ (Ext.refl _ _) w1 (.int _)⟩
    | _ => exact g2.elim) (Go.bind (rep := Rep X.K) g1)⟩
/-! ## texts of bits -/
def dFmtB (f : Env → R D) (δ : Env) : R D := (f δ).bind fun x δ1 => match x with
  | .int i => if 0 ≤ i ∧ (binS i.toNat).length ≤ 16000000 then .ok (.str (binS i.toNat)) δ1 else .bad
  | _ => .bad
theorem de_fmtB {p1 p2 p3 p4 : Pos} {kk : Nat} (he : DE X c e fe) : DE X c (.JoinedStr [.FormattedValue e (-1) (some (.JoinedStr [.Constant (.str "b") kk p1] p2)) p3] p4) (dFmtB fe) := by
  refine pe_joined1 ⟨fun pins s σ H Q I ⟨F, ow, δ, w, g1⟩ => ?_⟩
  refine wpAny_FormattedValue_spec (thn (he.run pins s σ H _ I ⟨F, ow, δ, w, Go.bind (rep := Rep X.K) g1⟩) ?_)
  rintro v s1 ⟨x, H1, I1, r1, F1, ow1, d, δ1, e1, w1, p1, _, g2⟩
  refine thn ((pe_joined1 pe_str).run pins s1 σ H1 (fun y H2 => y = .str "b" ∧ H2 = H1) I1 ⟨rfl, rfl⟩) ?_
  rintro r s2 ⟨y, H2, I2, r2, ey, eH⟩
  subst eH
  subst ey
  obtain ⟨t, rfl⟩ := (show ∃ t, r = Value.str "b" t from r2)
  refine ⟨_, _, rfl, ?_⟩
  cases d with
  | int i =>
    have g3 : Go X.K c (Rep X.K) F1 H2 σ (if 0 ≤ i ∧ (binS i.toNat).length ≤ 16000000 then .ok (.str (binS i.toNat)) δ1 else .bad) Q := g2
    split at g3
    · rename_i hz
      cases p1
      obtain ⟨tk, rfl⟩ := (show ∃ t, v = Value.int i t from r1)
      obtain ⟨n, rfl⟩ := Int.eq_ofNat_of_zero_le hz.1
      exact field_bin n (Nat.le_trans hz.2 line16) fun t' k => ⟨.str (binS n), H2, I2.tok k, ⟨_, rfl⟩, g3 F1 ow1 H2 _ (Ext.refl _ _) w1 (.str _)⟩
    · exact g3.elim
  | _ => exact g2.elim
def gInt2 : List D → Option D
  | [.str x, .int j] => if j = 2 ∧ x.cps.toList ≠ [] ∧ x.cps.toList.all (fun c => c == 48 || c == 49) = true then some (.int ((num01 x.cps.toList : Nat) : Int)) else none
  | _ => none
def rInt2 : List V → Hp → VK → Prop := fun xs H Q => ∃ x, xs = [.str x, .int 2] ∧ x.cps.toList ≠ [] ∧ (∀ c ∈ x.cps.toList, Is01 c) ∧ Q (.int ((num01 x.cps.toList : Nat) : Int)) H
theorem call_int2 (hf : fDig X.K = true) : CallR X (.type "int") rInt2 := by
  intro pins s σ H xs us Q I r h
  obtain ⟨x, rfl, hne, h01, q⟩ := h
  obtain ⟨u, w', rfl, ⟨t, rfl⟩, ⟨t', rfl⟩⟩ := vals2 r
  exact call_01 (noDigits I hf) h01 hne ⟨.int _, H, I.tok _, ⟨_, rfl⟩, q⟩
theorem cd_int2 {K : PySem.W.Frag} : CallD K rInt2 gInt2 := by
  intro c F ow H σ δ xs vs z Q w r e g
  unfold gInt2 at e
  split at e
  · split at e
    · rename_i x j hz
      obtain ⟨h1, h2, h3⟩ := hz
      subst h1
      cases e
      cases r with | cons a b => cases b with | cons b1 b2 => cases b2; cases a; cases b1; exact ⟨_, rfl, h2, fun k hk => by
        have := List.all_eq_true.mp h3 k hk
        unfold Is01
        simpa using this, go_val w (.int _) g⟩
    · cases e
  · cases e
/-! ## bool(x) -/
def gBool : List D → Option D
  | [.int i] => some (.bl (i != 0))
  | [.bl b] => some (.bl b)
  | _ => none
theorem cd_bool {K : PySem.W.Frag} : CallD K (fun xs H Q => (∃ i, xs = [.int i] ∧ Q (.bl (i != 0)) H) ∨ ∃ k, xs = [.bl k] ∧ Q (.bl k) H) gBool := by
  intro c F ow H σ δ xs vs z Q w r e g
  unfold gBool at e
  split at e
  · cases e; cases r with | cons a b => cases a; cases b; exact .inl ⟨_, rfl, go_val w (.bl _) g⟩
  · cases e; cases r with | cons a b => cases a; cases b; exact .inr ⟨_, rfl, go_val w (.bl _) g⟩
  · cases e
/-! ## all, any -/
theorem bt_all : bootBuiltins "all" = some (.builtin "all") := by decide +kernel
theorem bt_any : bootBuiltins "any" = some (.builtin "any") := by decide +kernel

def D.bls : List D → Option (List Bool)
  | [] => some []
  | .bl i :: r => (D.bls r).map (i :: ·)
  | _ => none
theorem Reps.of_bls {K : PySem.W.Frag} {F : Addr → Prop} {H : Hp} : ∀ {l : List D} {bs : List Bool} {vs : List V}, D.bls l = some bs → Reps K F H vs l → vs = bs.map V.bl
  | [], bs, vs, e, r => by cases e; cases r; rfl
  | .bl b :: l, bs, vs, e, r => by
    cases h : D.bls l with
    | none => simp [D.bls, h] at e
    | some cs =>
      simp [D.bls, h] at e; subst e
      cases r with | cons a t => cases a; rw [Reps.of_bls h t]; rfl
  | .non :: _, _, _, e, _ => by cases e
  | .int _ :: _, _, _, e, _ => by cases e
  | .str _ :: _, _, _, e, _ => by cases e
  | .tup _ :: _, _, _, e, _ => by cases e
  | .lst _ :: _, _, _, e, _ => by cases e
  | .ref _ :: _, _, _, e, _ => by cases e
  | .scr _ :: _, _, _, e, _ => by cases e
  | .obj _ _ _ :: _, _, _, e, _ => by cases e
  | .dct _ _ :: _, _, _, e, _ => by cases e
  | .cls _ :: _, _, _, e, _ => by cases e
def gAll : List D → Option D
  | [.lst l] => (D.bls l).map fun bs => .bl (bs.all id)
  | _ => none
def gAny : List D → Option D
  | [.lst l] => (D.bls l).map fun bs => .bl (bs.any id)
  | _ => none
theorem cd_all {K : PySem.W.Frag} : CallD K (rAll K) gAll := by
  intro c F ow H σ δ xs vs z Q w r e g
  unfold gAll at e
  split at e
  · rename_i l
    cases q : D.bls l with
    | none => rw [q] at e; cases e
    | some bs =>
      rw [q] at e; cases e
      cases r with | cons a b => cases b; obtain ⟨p, us, rfl, hp, _, r1⟩ := a.lst_inv; exact ⟨p, bs, rfl, Reps.of_bls q r1 ▸ SqL.of hp, go_val w (.bl _) g⟩
  · cases e
theorem cd_any {K : PySem.W.Frag} : CallD K (rAny K) gAny := by
  intro c F ow H σ δ xs vs z Q w r e g
  unfold gAny at e
  split at e
  · rename_i l
    cases q : D.bls l with
    | none => rw [q] at e; cases e
    | some bs =>
      rw [q] at e; cases e
      cases r with | cons a b => cases b; obtain ⟨p, us, rfl, hp, _, r1⟩ := a.lst_inv; exact ⟨p, bs, rfl, Reps.of_bls q r1 ▸ SqL.of hp, go_val w (.bl _) g⟩
  · cases e
end
end PV

namespace PV
open PySem PySem.Spec PyProof.Rows L2
/-! ## isinstance(x, (A, B)) -/
def dIsi2 (T U : String) (f : Env → R D) (δ : Env) : R D := (f δ).bind fun x δ1 => match x.ty with
  | some t => (match kitB t T, kitB t U with
    | some a, some b => .ok (.bl (a || b)) δ1
    | _, _ => .bad)
  | none => .bad
section
variable {X : Cx} {c : FC} {e : Expr} {fe : Env → R D} {pos p1 p2 p3 p4 : Pos}
theorem de_isi2 {T U : String} {x y : Str} {kk : Nat} (hg : Gl X "isinstance") (hm : X.mg "isinstance" = none) (hg2 : Gl X x) (hm2 : X.mg x = none) (hv : bootBuiltins x = some (.type T)) (hg3 : Gl X y) (hm3 : X.mg y = none) (hv3 : bootBuiltins y = some (.type U)) (he : DE X c e fe)
    (hn : x ≠ "__name__" := by decide) (hdb : (x == ("__debug__" : Str)) = false := by decide) (hn3 : y ≠ "__name__" := by decide) (hdb3 : (y == ("__debug__" : Str)) = false := by decide)
    (hs : starEach [e, .Tuple [.Name x p2, .Name y p3] kk p4] X.env = (false, eval e X.env) :: starEach [.Tuple [.Name x p2, .Name y p3] kk p4] X.env := by rfl) (hs2 : starEach [.Tuple [.Name x p2, .Name y p3] kk p4] X.env = (false, eval (.Tuple [.Name x p2, .Name y p3] kk p4) X.env) :: starEach [] X.env := by rfl)
    (hs4 : starEach [.Name x p2, .Name y p3] X.env = (false, eval (.Name x p2) X.env) :: starEach [.Name y p3] X.env := by rfl) (hs5 : starEach [.Name y p3] X.env = (false, eval (.Name y p3) X.env) :: starEach [] X.env := by rfl)
    (hpl : (backTo pos (starEach [.Tuple [.Name x p2, .Name y p3] kk p4] X.env)).any (·.1) = false := by rfl) :
    DE X c (.Call (.Name "isinstance" p1) [e, .Tuple [.Name x p2, .Name y p3] kk p4] [] pos) (dIsi2 T U fe) :=
  PE.imp (pe_callB call_isiT hg hm boot_isinstance (pa_cons he (pa_cons (pe_tup (pa_cons (pe_bltn (v := .ty T) hg2 hm2 hv rfl hn hdb) (pa_cons (pe_bltn (v := .ty U) hg3 hm3 hv3 rfl hn3 hdb3) pa_nil hs5) hs4)) pa_nil hs2) hs) (hpl := hpl) (he := hs)) fun σ H Q ⟨F, ow, δ, w, g1⟩ => ⟨F, ow, δ, w, by
    unfold dIsi2 at g1
    refine Go.imp (fun v H1 h1 => ?_) (Go.bind (rep := Rep X.K) g1)
    obtain ⟨F1, ow1, d, δ1, e1, w1, r1, _, g2⟩ := h1
    cases q : d.ty with
    | none => rw [q] at g2; exact g2.elim
    | some t =>
      rw [q] at g2
      dsimp only at g2
      cases q2 : kitB t T with
      | none => rw [q2] at g2; exact g2.elim
      | some b =>
        cases q3 : kitB t U with
        | none => rw [q2, q3] at g2; exact g2.elim
        | some b2 =>
          rw [q2, q3] at g2
          refine ⟨by show 2 ≤ sizeLine; rw [sizeLine_eq]; omega, fun p hp => ?_⟩
          have ex := Ext.new (o := HO.tup [.ty T, .ty U]) w1 hp
          refine ⟨v, p, [.ty T, .ty U], .type t, [.type T, .type U], b || b2, rfl, upd_same, .cons (.ty T) (.cons (.ty U) .nil), (r1.mono ex).tyx q, ?_, g2 _ ow1 _ (.bl (b || b2)) ex (w1.new hp) (.bl _)⟩
          show (match PySem.W.kitOne X.K (.type t) (.type T) with
            | some true => some true
            | some false => PySem.W.kitAny X.K (.type t) [.type U]
            | none => none) = _
          rw [kit_ty q2]
          cases b with
          | true => rfl
          | false =>
            show (match PySem.W.kitOne X.K (.type t) (.type U) with
              | some true => some true
              | some false => PySem.W.kitAny X.K (.type t) []
              | none => none) = _
            rw [kit_ty q3]
            cases b2 <;> rfl⟩
end
/-! ## max(xs, default=d) -/
def maxI (d : D) : List Int → D
  | [] => d
  | n :: r => .int (r.foldl max n)
def gMaxD : List D → List D → Option D
  | [.lst l], [d] => (D.ints l).map (maxI d)
  | [.tup l], [d] => (D.ints l).map (maxI d)
  | _, _ => none
def rMaxDf (K : PySem.W.Frag) : List V → List V → Hp → VK → Prop := fun xs zs H Q => ∃ a ns d, xs = [V.ref a] ∧ zs = [d] ∧ (SqL K H a (ns.map V.int) ∨ SqT K H a (ns.map V.int)) ∧ (ns = [] → Q d H) ∧ (∀ n r, ns = n :: r → Q (.int (r.foldl max n)) H)
theorem ints_reps {K : PySem.W.Frag} {F : Addr → Prop} {H : Hp} {l : List D} {ns : List Int} {vs : List V} (e : D.ints l = some ns) (r : Reps K F H vs l) : vs = ns.map V.int := by
  rw [D.ints_eq e] at r; exact r.of_ints
theorem reads_ints {h : Heap} : ∀ {ns : List Int} {its : List Value}, Vals (ns.map V.int) its → ∃ as, ReadsAll h its (ns.map PyData.int) as
  | [], _, r => by cases r; exact ⟨_, .nil⟩
  | n :: ns, _, r => by
    cases r with
    | cons r1 r2 =>
      obtain ⟨t, rfl⟩ := r1
      obtain ⟨as, h2⟩ := reads_ints (h := h) r2
      exact ⟨_, .cons (.int n t) h2⟩
theorem alike_ints (ns : List Int) : PySem.W.AlikeAll (ns.map PyData.int) := by
  refine ⟨fun x hx y hy => ?_, fun x hx => ?_⟩
  · obtain ⟨i, _, rfl⟩ := List.mem_map.mp hx
    obtain ⟨j, _, rfl⟩ := List.mem_map.mp hy
    rfl
  · obtain ⟨i, _, rfl⟩ := List.mem_map.mp hx
    intro e; cases e
theorem depth_ints : ∀ ns : List Int, PyData.depthAll (ns.map PyData.int) ≤ 1
  | [] => by decide
  | n :: ns => by
    have := depth_ints ns
    show max (PyData.depth (.int n)) (PyData.depthAll (ns.map PyData.int)) ≤ 1
    exact Nat.max_le.mpr ⟨by show (PyData.int n).depth ≤ 1; simp [PyData.depth], this⟩
theorem reads_int {h : Heap} {v : Value} {n : Int} {as : List Addr} (r : Reads h v (.int n) as) : RelV (.int n) v := by
  cases r; exact ⟨_, rfl⟩
section
variable {X : Cx}
theorem cr_maxDf (hc : X.calm = true) (hu : X.A.units + 64 < cLine) : CallRK X (.builtin "max") ["default"] (rMaxDf X.K) := by
  intro pins s σ H xs zs us ws Q I r r2 h
  obtain ⟨a, ns, d, rfl, rfl, hs, h0, h1⟩ := h
  obtain ⟨dv, rfl, rd⟩ := vals1 r2
  rw [Vals.ref1 r]
  have hd := depth_ints ns
  have fin : ∀ {its : List Value} {as : List Addr}, ∀ (y : PyData) (ys : List PyData) (i : Nat) v h' tk bs, ns.map PyData.int = y :: ys → its.toArray[i]? = some v → Reads h' v (PySem.W.maxD y ys) bs → (∀ b o, s.heap.get? b = some o → h'.get? b = some o) → EP X pins σ Q v { s with heap := h', toks := tk } := by
    intro its as y ys i v h' tk bs e _ rv k
    cases ns with
    | nil => cases e
    | cons n r =>
      cases e
      rw [PySem.W.maxD_ints] at rv
      exact ⟨.int _, H, I.kept k, reads_int rv, h1 n r rfl⟩
  rcases hs with hs | hs
  · obtain ⟨its, rv, hl, _⟩ := I.list hs
    obtain ⟨as, ra⟩ := reads_ints (h := s.heap) rv
    exact PySem.W.max_list_default (I.ok.hd hc) hl.isList (by simpa using ra) (alike_ints ns) (by omega) (fun e h' tk k => ⟨d, H, I.kept k, rd, h0 (List.map_eq_nil_iff.mp e)⟩) (fin (its := its) (as := as))
  · obtain ⟨its, rv, hl, _⟩ := I.tuple hs
    obtain ⟨as, ra⟩ := reads_ints (h := s.heap) rv
    exact PySem.W.max_tuple_default (I.ok.hd hc) (by obtain ⟨o, h1, h2, n, h3⟩ := hl; exact ⟨o, h1, h2, n, h3⟩) (by simpa using ra) (alike_ints ns) (by omega) (fun e h' tk k => ⟨d, H, I.kept k, rd, h0 (List.map_eq_nil_iff.mp e)⟩) (fin (its := its) (as := as))
def dBK (g : List D → List D → Option D) (f k : Env → R (List D)) (δ : Env) : R D := (f δ).bind fun xs δ1 => (k δ1).bind fun zs δ2 => match g xs zs with
  | some z => .ok z δ2
  | none => .bad
theorem de_maxDf {c : FC} {p pos : Pos} {e : Expr} {kws : List Keyword} {fe : Env → R D} {fk : Env → R (List D)} (hc : X.calm = true) (hu : X.A.units + 64 < cLine) (hg : Gl X "max") (hm : X.mg "max" = none) (hv : bootBuiltins "max" = some (.builtin "max")) (he : DE X c e fe) (hk : DK X c kws fk)
    (hs : starEach [e] X.env = (false, eval e X.env) :: starEach [] X.env := by rfl) (h0 : backTo pos (starEach [e] X.env) = (false, eval e X.env) :: backTo pos (starEach [] X.env) := by rfl) (hpl : (backTo pos (starEach [e] X.env)).any (·.1) = false := by rfl)
    (hall : (backToKw pos (keywordEach kws X.env)).all (·.1.isSome) = true := by rfl) (hnone : (backToKw pos (keywordEach kws X.env)).any (·.1.isNone) = false := by rfl) (hks : (backToKw pos (keywordEach kws X.env)).filterMap (·.1) = [("default" : Str)] := by rfl) :
    DE X c (.Call (.Name "max" p) [e] kws pos) (dBK gMaxD (dCons fe dNil) fk) :=
  PE.imp (pe_callBK (cr_maxDf hc hu) hg hm hv (da_cons he da_nil hs) hk (he := h0) (hpl := hpl) (hall := hall) (hnone := hnone) (hks := hks)) fun σ H Q ⟨F, ow, δ, w, g⟩ => ⟨F, ow, δ, w, by
    unfold dBK at g
    refine Go.imp (fun vs H1 h1 => ?_) (Go.bind (rep := Reps X.K) g)
    obtain ⟨F1, ow1, xs, δ1, e1, w1, r1, _, g2⟩ := h1
    refine ⟨F1, ow1, δ1, w1, ?_⟩
    refine Go.imp (fun zs H2 h2 => ?_) (Go.bind (rep := Reps X.K) g2)
    obtain ⟨F2, ow2, ds, δ2, e2, w2, r2, _, g3⟩ := h2
    have r1 := r1.mono e2
    cases q : gMaxD xs ds with
    | none => rw [q] at g3; exact g3.elim
    | some z =>
      rw [q] at g3
      unfold gMaxD at q
      split at q
      · rename_i l d _ _ _
        cases q2 : D.ints l with
        | none => rw [q2] at q; cases q
        | some ns =>
          rw [q2] at q; cases q
          cases r1 with | cons a b => cases b; cases r2 with | cons a2 b2 => cases b2; obtain ⟨p, us, rfl, hp, _, r3⟩ := a.lst_inv; exact ⟨p, ns, _, rfl, rfl, .inl ((ints_reps q2 r3) ▸ SqL.of hp), fun e => by
              subst e; exact go_val w2 a2 g3, fun n r e => by subst e; exact go_val w2 (.int _) g3⟩
      · rename_i l d _ _ _
        cases q2 : D.ints l with
        | none => rw [q2] at q; cases q
        | some ns =>
          rw [q2] at q; cases q
          cases r1 with | cons a b => cases b; cases r2 with | cons a2 b2 => cases b2; obtain ⟨p, us, rfl, hp, r3⟩ := a.tup_inv; exact ⟨p, ns, _, rfl, rfl, .inr ((ints_reps q2 r3) ▸ hp), fun e => by
              subst e; exact go_val w2 a2 g3, fun n r e => by subst e; exact go_val w2 (.int _) g3⟩
      · cases q⟩
end
/-! ## join, count -/
def D.strs : List D → Option (List Str)
  | [] => some []
  | .str i :: r => (D.strs r).map (i :: ·)
  | _ => none
theorem Reps.of_strs {K : PySem.W.Frag} {F : Addr → Prop} {H : Hp} {l : List D} : ∀ {bs : List Str} {vs : List V}, D.strs l = some bs → Reps K F H vs l → vs = bs.map V.str := by
  induction l with
  | nil => intro bs vs e r; cases e; cases r; rfl
  | cons d l ih =>
    intro bs vs e r
    cases d with
    | str b =>
      cases h : D.strs l with
      | none => simp [D.strs, h] at e
      | some cs =>
        simp [D.strs, h] at e; subst e
        cases r with | cons a t => cases a; rw [ih h t]; rfl
    | _ => cases e
def dJoin (f g : Env → R D) (δ : Env) : R D := (f δ).bind fun x δ1 => (g δ1).bind fun y δ2 => match x, y with
  | .str a, .lst l => (match D.strs l with
    | some ys => if (ys.map (·.length)).sum + ys.length * a.length ≤ 16000000 then .ok (.str (Txt.join a ys)) δ2 else .bad
    | none => .bad)
  | _, _ => .bad
def dCount (f g : Env → R D) (δ : Env) : R D := (f δ).bind fun x δ1 => (g δ1).bind fun y δ2 => match x, y with
  | .str a, .str b => .ok (.int (Txt.count a b)) δ2
  | _, _ => .bad
section
variable {X : Cx} {c : FC} {o e : Expr} {fo fe : Env → R D} {apos pos : Pos}
theorem de_join (ho : DE X c o fo) (he : DE X c e fe) (hs : starEach [e] X.env = [(false, eval e X.env)] := by rfl) (hbase : attributeBase o "join" X.env (eval o X.env) = eval o X.env := by rfl) (hline : (apos.endLine == pos.line) = true := by rfl) :
    DE X c (.Call (.Attribute o "join" apos) [e] [] pos) (dJoin fo fe) :=
  PE.imp (pe_m1 PySem.F.slot_str_join PySem.F.type_str_join mt_join ho he hs hbase hline) fun σ H Q ⟨F, ow, δ, w, g⟩ => ⟨F, ow, δ, w, by
    unfold dJoin at g
    refine Go.imp (fun v H1 h1 => ?_) (Go.bind (rep := Rep X.K) g)
    obtain ⟨F1, ow1, x, δ1, e1, w1, r1, _, g2⟩ := h1
    cases q : fe δ1 with
    | bad => rw [q] at g2; exact g2.elim
    | ok y δ2 =>
      have g2' := g2
      rw [q, R.bind_ok] at g2'
      split at g2'
      · skip
        obtain rfl := r1.str_inv
        refine ⟨⟨_, rfl⟩, F1, ow1, δ1, w1, Go.imp (fun u H2 h2 => ?_) (Go.bind (rep := Rep X.K) g2)⟩
        obtain ⟨F2, ow2, y2, δ3, e2, w2, r2, q3, g3⟩ := h2
        rw [q] at q3
        cases q3
        dsimp only at g3
        cases q5 : D.strs _ with
        | none => rw [q5] at g3; exact g3.elim
        | some ys =>
          rw [q5] at g3
          dsimp only at g3
          split at g3
          · rename_i hz
            obtain ⟨p, us, rfl, hp, _, r3⟩ := r2.lst_inv
            exact ⟨_, p, ys, rfl, rfl, .inl (Reps.of_strs q5 r3 ▸ SqL.of hp), by omega, go_val w2 (.str _) g3⟩
          · exact g3.elim
      · exact g2'.elim⟩
theorem de_count (ho : DE X c o fo) (he : DE X c e fe) (hs : starEach [e] X.env = [(false, eval e X.env)] := by rfl) (hbase : attributeBase o "count" X.env (eval o X.env) = eval o X.env := by rfl) (hline : (apos.endLine == pos.line) = true := by rfl) :
    DE X c (.Call (.Attribute o "count" apos) [e] [] pos) (dCount fo fe) :=
  PE.imp (pe_m1 PySem.F.slot_str_count PySem.F.type_str_count mt_count ho he hs hbase hline) fun σ H Q ⟨F, ow, δ, w, g⟩ => ⟨F, ow, δ, w, by
    unfold dCount at g
    refine Go.imp (fun v H1 h1 => ?_) (Go.bind (rep := Rep X.K) g)
    obtain ⟨F1, ow1, x, δ1, e1, w1, r1, _, g2⟩ := h1
    cases q : fe δ1 with
    | bad => rw [q] at g2; exact g2.elim
    | ok y δ2 =>
      have g2' := g2
      rw [q, R.bind_ok] at g2'
      split at g2'
      · skip
        obtain rfl := r1.str_inv
        refine ⟨⟨_, rfl⟩, F1, ow1, δ1, w1, Go.imp (fun u H2 h2 => ?_) (Go.bind (rep := Rep X.K) g2)⟩
        obtain ⟨F2, ow2, y2, δ3, e2, w2, r2, q3, g3⟩ := h2
        rw [q] at q3
        cases q3
        cases r2
        exact ⟨_, _, rfl, rfl, go_val w2 (.int _) g3⟩
      · exact g2'.elim⟩
end
/-! ## (.., *e, ..) -/
def dStar (f : Env → R D) (g : Env → R (List D)) (δ : Env) : R (List D) := (f δ).bind fun x δ1 => match x with
  | .tup l => (g δ1).bind fun m δ2 => .ok (l ++ m) δ2
  | .lst l => (g δ1).bind fun m δ2 => .ok (l ++ m) δ2
  | _ => .bad
theorem da_star {X : Cx} {c : FC} {e : Expr} {es : List Expr} {fe : Env → R D} {g : Env → R (List D)} {p : Pos} (he : DE X c e fe) (hr : DA X c es g) (hs : starEach (.Starred e p :: es) X.env = (true, eval e X.env) :: starEach es X.env := by rfl) : DA X c (.Starred e p :: es) (dStar fe g) :=
  PA.imp (StX.pa_star he hr hs) fun σ H Q ⟨F, ow, δ, w, gg⟩ => ⟨F, ow, δ, w, by
    unfold dStar at gg
    refine Go.imp (fun v H1 h1 => ?_) (Go.bind (rep := Rep X.K) gg)
    obtain ⟨F1, ow1, x, δ1, e1, w1, r1, _, g2⟩ := h1
    have tl : ∀ {l : List D} {us : List V} (r3 : Reps X.K F1 H1 us l) (g3 : Go X.K c (Reps X.K) F1 H1 σ ((g δ1).bind fun m δ2 => .ok (l ++ m) δ2) Q), tAr X.K c g σ H1 fun ys H2 => Q (us ++ ys) H2 := fun {l us} r3 g3 =>
      ⟨F1, ow1, δ1, w1, Go.imp (fun ys H2 h2 => by
        obtain ⟨F2, ow2, m, δ2, e2, w2, r4, _, g4⟩ := h2
        exact g4 F2 ow2 H2 _ (Ext.refl _ _) w2 ((r3.mono e2).append r4)) (Go.bind (rep := Reps X.K) g3)⟩
    split at g2
    · obtain ⟨p, us, rfl, hp, r3⟩ := r1.tup_inv
      exact ⟨p, us, rfl, .inl hp, tl r3 g2⟩
    · obtain ⟨p, us, rfl, hp, _, r3⟩ := r1.lst_inv
      exact ⟨p, us, rfl, .inr (SqL.of hp), tl r3 g2⟩
    · exact g2.elim⟩
end PV

namespace PV
open PySem PySem.Spec PyProof.Rows L2
/-! ## {k: v for ..} -/
def kD : Key → D
  | .inl i => .int i
  | .inr x => .str x
def keyD : D → Option Key
  | .int i => some (.inl i)
  | .str x => some (.inr x)
  | _ => none
def putD (kvs : List (Key × D)) (k : Key) (v : D) : List (Key × D) :=
  if (kvs.any fun kv => decide (kv.1 = k)) = true then kvs.map (fun kv => if kv.1 = k then (kv.1, v) else kv) else kvs ++ [(k, v)]
theorem keyD_rep {K : PySem.W.Frag} {F : Addr → Prop} {H : Hp} {v : V} {d : D} {k : Key} (r : Rep K F H v d) (e : keyD d = some k) : v = kV k := by
  cases d with
  | int i => cases e; exact r.int_inv
  | str x => cases e; exact r.str_inv
  | _ => cases e
theorem reps_keys {K : PySem.W.Frag} {F : Addr → Prop} {H : Hp} : ∀ ks : List Key, Reps K F H (ks.map kV) (ks.map kD)
  | [] => .nil
  | .inl i :: r => .cons (.int i) (reps_keys r)
  | .inr x :: r => .cons (.str x) (reps_keys r)
structure DRel (K : PySem.W.Frag) (F : Addr → Prop) (H : Hp) (av : List (Key × V)) (a : List (Key × D)) : Prop where
  ks : av.map (·.1) = a.map (·.1)
  vs : Reps K F H (av.map (·.2)) (a.map (·.2))
theorem DRel.mono {K : PySem.W.Frag} {F F' : Addr → Prop} {H H' : Hp} {av : List (Key × V)} {a : List (Key × D)} (r : DRel K F H av a) (e : Ext F H F' H') : DRel K F' H' av a := ⟨r.ks, r.vs.mono e⟩
theorem any_keys {α β : Type} (k : Key) : ∀ (a : List (Key × α)) (b : List (Key × β)), a.map (·.1) = b.map (·.1) → (a.any fun p => decide (p.1 = k)) = b.any fun p => decide (p.1 = k)
  | [], [], _ => rfl
  | [], _ :: _, e => by cases e
  | _ :: _, [], e => by cases e
  | p :: a, q :: b, e => by
    rw [List.map_cons, List.map_cons] at e
    injection e with e1 e2
    rw [List.any_cons, List.any_cons, e1, any_keys k a b e2]
theorem put_keys {α : Type} (k : Key) (v : α) (a : List (Key × α)) : (a.map fun kv => if kv.1 = k then (kv.1, v) else kv).map (·.1) = a.map (·.1) := by
  rw [List.map_map]
  refine List.map_congr_left fun p _ => ?_
  show (if p.1 = k then (p.1, v) else p).1 = p.1
  split <;> rfl
theorem put_vals {K : PySem.W.Frag} {F : Addr → Prop} {H : Hp} {k : Key} {v : V} {d : D} (rv : Rep K F H v d) : ∀ {av : List (Key × V)} {a : List (Key × D)}, av.map (·.1) = a.map (·.1) → Reps K F H (av.map (·.2)) (a.map (·.2)) →
    Reps K F H ((av.map fun kv => if kv.1 = k then (kv.1, v) else kv).map (·.2)) ((a.map fun kv => if kv.1 = k then (kv.1, d) else kv).map (·.2))
  | [], [], _, _ => .nil
  | [], _ :: _, e, _ => by cases e
  | _ :: _, [], e, _ => by cases e
  | p :: av, q :: a, e, r => by
    rw [List.map_cons, List.map_cons] at e
    injection e with e1 e2
    cases r with
    | cons r1 r2 =>
      have ih := put_vals (k := k) rv e2 r2
      refine .cons ?_ ih
      show Rep K F H (if p.1 = k then (p.1, v) else p).2 (if q.1 = k then (q.1, d) else q).2
      rw [e1]
      split
      · exact rv
      · exact r1
theorem DRel.put {K : PySem.W.Frag} {F : Addr → Prop} {H : Hp} {av : List (Key × V)} {a : List (Key × D)} {k : Key} {v : V} {d : D} (r : DRel K F H av a) (rv : Rep K F H v d) : DRel K F H (putK av k v) (putD a k d) := by
  unfold putK putD
  rw [any_keys k av a r.ks]
  split
  · exact ⟨by rw [put_keys, put_keys, r.ks], put_vals rv r.ks r.vs⟩
  · exact ⟨by rw [List.map_append, List.map_append, r.ks]; rfl, by rw [List.map_append, List.map_append]; exact r.vs.append (.cons rv .nil)⟩
theorem DRel.len {K : PySem.W.Frag} {F : Addr → Prop} {H : Hp} {av : List (Key × V)} {a : List (Key × D)} (r : DRel K F H av a) : av.length = a.length := by
  have := congrArg List.length r.ks
  simpa using this
theorem putD_len (a : List (Key × D)) (k : Key) (d : D) : (putD a k d).length ≤ a.length + 1 := by
  unfold putD
  split
  · rw [List.length_map]; omega
  · rw [List.length_append]; simp
def dcLoop (g : D → Env → Option Env) (t : Env → R Bool) (ek ev : Env → R D) (vs : List Nat) : List D → Env → List (Key × D) → R (List (Key × D))
  | [], δ, acc => .ok acc δ
  | d :: ds, δ, acc => match g d (wipeE δ vs) with
    | none => .bad
    | some δ1 => (t δ1).bind fun b δ2 => if b = true then (ek δ2).bind fun kd δ3 => (match keyD kd with
      | none => .bad
      | some k => (ev δ3).bind fun y δ4 => dcLoop g t ek ev vs ds (wipeE δ4 vs) (putD acc k y)) else dcLoop g t ek ev vs ds (wipeE δ2 vs) acc
def dDc (f : Env → R (List D)) (g : D → Env → Option Env) (t : Env → R Bool) (ek ev : Env → R D) (vs : List Nat) (δ : Env) : R D := (f δ).bind fun items δ1 => (dcLoop g t ek ev vs items (wipeE δ1 vs) []).bind fun kvs δ2 =>
  if items.length ≤ 16000000 ∧ δ2.length = δ1.length then .ok (.dct (kvs.map fun p => kD p.1) (kvs.map (·.2))) (restE δ1 δ2 vs) else .bad
theorem dc_imp {X : Cx} {c : FC} {fi : Env → R (List D)} {gT : TG} {gd : D → Env → Option Env} {ft : Env → R Bool} {fk fe : Env → R D} {vs : List Nat} (hvs : ∀ i ∈ vs, c.at ≠ some i) (ok : TgOk X.K gT gd vs) (σ : L2.St) (H : Hp) (Q : VK) (h : tD X.K c (dDc fi gd ft fk fe vs) σ H Q) :
    tDc (tIt X.K c fi) gT (fun σ H Q => ∃ c', c'.at = none ∧ tBn X.K c' ft σ H Q) (fun σ H Q => ∃ c', c'.at = none ∧ tD X.K c' fk σ H Q) (fun σ H Q => ∃ c', c'.at = none ∧ tD X.K c' fe σ H Q) vs σ H Q := by
  obtain ⟨F, ow, δ, w, g1⟩ := h
  refine ⟨F, ow, δ, w, ?_⟩
  unfold dDc at g1
  cases q : fi δ with
  | bad => rw [q] at g1; exact g1
  | ok items δ1 =>
    rw [q, R.bind_ok] at g1
    cases q2 : dcLoop gd ft fk fe vs items (wipeE δ1 vs) [] with
    | bad => rw [q2] at g1; exact g1.elim
    | ok kvs δ2 =>
      rw [q2, R.bind_ok] at g1
      split at g1
      · rename_i hz
        intro F1 ow1 H1 J e1 w1 it Dn hD
        obtain ⟨f1, f2, f3⟩ := w1.fresh hD
        refine ⟨fun i m H' => m + i = items.length ∧ ∃ F' ow' δ' accv acc, Ext F1 H1 F' H' ∧ W X.K c F' ow' H' (L2.wipe σ vs) δ' ∧ ¬ F' Dn ∧ ow' Dn = none ∧ H' Dn = some (.dK accv) ∧ DRel X.K F' H' accv acc ∧ acc.length ≤ i ∧
          dcLoop gd ft fk fe vs (items.drop i) δ' acc = .ok kvs δ2, ⟨items.length, rfl, F1, ow1, wipeE δ1 vs, [], [], Ext.updOut f2, (w1.updOut f2 f1 f3).wipe vs hvs, f2, f1, upd_same, ⟨rfl, .nil⟩, Nat.le_refl _, q2⟩, ?_⟩
        rintro i m H2 ⟨hm, F2, ow2, δ3, accv, acc, e2, w2, nf, no, hDn, rac, hla, hl⟩
        have nD : c.fp0 Dn ∨ c.H0 Dn = none := f3
        rcases Nat.lt_or_ge i items.length with hlt | hge
        · refine .inr ⟨it.go F2 H2 i e2 hlt, fun H' => ∃ F' ow' δ' accv acc, Ext F1 H1 F' H' ∧ W X.K c F' ow' H' (L2.wipe σ vs) δ' ∧ ¬ F' Dn ∧ ow' Dn = none ∧ H' Dn = some (.dK accv) ∧ DRel X.K F' H' accv acc ∧ acc.length ≤ i + 1 ∧
            dcLoop gd ft fk fe vs (items.drop (i + 1)) δ' acc = .ok kvs δ2, fun H' hN => ⟨m - 1, by omega, by omega, hN⟩, fun x H3 hy => ?_⟩
          obtain ⟨d, hd, hx⟩ := it.yld F2 H2 i x H3 e2 hlt hy
          have hdrop : items.drop i = d :: items.drop (i + 1) := by
            have h1 := (List.getElem?_eq_some_iff.mp hd)
            rw [← h1.2]; exact List.drop_eq_getElem_cons h1.1
          rw [hdrop] at hl
          unfold dcLoop at hl
          have wi := w2.inner (p := Dn) no
          obtain ⟨F3, e3, w3, r3⟩ : ∃ F3, Ext F2 H2 F3 H3 ∧ W X.K ⟨F2, H2, fun a => ow2 a ≠ none ∧ a ≠ Dn, none⟩ F3 ow2 H3 (L2.wipe σ vs) δ3 ∧ Rep X.K F3 H3 x d := by
            rcases hx with ⟨rfl, r⟩ | ⟨T, o, rfl, hT, rfl, r⟩
            · exact ⟨F2, Ext.refl _ _, wi, r⟩
            · exact ⟨_, Ext.new wi hT, wi.new hT, r⟩
          have w3' := w3.wipe vs fun v _ => by show (none : Option Nat) ≠ some v; simp
          rw [wipe_wipe] at w3'
          cases q3 : gd d (wipeE δ3 vs) with
          | none => rw [q3] at hl; cases hl
          | some δ4 =>
            rw [q3] at hl
            dsimp only at hl
            refine ok _ F3 ow2 H3 (L2.wipe σ vs) (wipeE δ3 vs) δ4 x d _ (fun v _ => by show (none : Option Nat) ≠ some v; simp) w3' r3 q3 fun σ4 w4 l4 n4 => ?_
            have hw4 : L2.wipe σ4 vs = L2.wipe σ vs := (wipe_ext l4 n4).trans wipe_wipe
            refine ⟨hw4, _, rfl, F3, ow2, δ4, w4, ?_⟩
            cases q4 : ft δ4 with
            | bad => rw [q4] at hl; cases hl
            | ok b δ5 =>
              rw [q4, R.bind_ok] at hl
              intro F5 ow5 H5 b' e5 w5 rb
              subst rb
              have kD : ∀ {F' ow' H' σ' δ'}, W X.K ⟨F2, H2, fun a => ow2 a ≠ none ∧ a ≠ Dn, none⟩ F' ow' H' σ' δ' → H' Dn = some (.dK accv) ∧ ¬ F' Dn ∧ ow' Dn = none := fun {F' ow' H' σ' δ'} w' => by
                refine ⟨w'.kp Dn _ hDn fun z => z.2 rfl, fun f => ?_, ?_⟩
                · rcases (w'.ft Dn f).2 with z | z | z
                  · exact nf z
                  · exact z.2 rfl
                  · rw [show H2 Dn = none from z] at hDn; cases hDn
                · cases q : ow' Dn with
                  | none => rfl
                  | some k =>
                    rcases (w'.df Dn k q).2.2 with z | z
                    · exact absurd rfl z.2
                    · rw [show H2 Dn = none from z] at hDn; cases hDn
              have back : ∀ {F' ow' H' δ'}, W X.K ⟨F2, H2, fun a => ow2 a ≠ none ∧ a ≠ Dn, none⟩ F' ow' H' σ4 δ' → W X.K c F' ow' H' (L2.wipe σ vs) (wipeE δ' vs) := fun {F' ow' H' δ'} w' => by
                have w6 := w'.wipe vs fun v _ => by show (none : Option Nat) ≠ some v; simp
                rw [hw4] at w6
                exact w6.toC (w2.sub Dn) w2.io
              cases b' with
              | false =>
                rw [if_neg Bool.false_ne_true] at hl ⊢
                obtain ⟨k1, k2, k3⟩ := kD w5
                exact ⟨F5, ow5, wipeE δ5 vs, accv, acc, e2.trans (e3.trans e5), back w5, k2, k3, k1, rac.mono (e3.trans e5), by omega, hl⟩
              | true =>
                rw [if_pos rfl] at hl ⊢
                refine ⟨_, rfl, F5, ow5, δ5, w5, ?_⟩
                cases q6 : fk δ5 with
                | bad => rw [q6] at hl; cases hl
                | ok kd δ6 =>
                  rw [q6, R.bind_ok] at hl
                  intro F6 ow6 H6 yv e6 w6 ry
                  cases q7 : keyD kd with
                  | none => rw [q7] at hl; cases hl
                  | some k =>
                    rw [q7] at hl
                    dsimp only at hl
                    refine ⟨_, rfl, F6, ow6, δ6, w6, ?_⟩
                    cases q8 : fe δ6 with
                    | bad => rw [q8] at hl; cases hl
                    | ok y δ7 =>
                      rw [q8, R.bind_ok] at hl
                      intro F7 ow7 H7 zv e7 w7 rz
                      obtain ⟨k1, k2, k3⟩ := kD w7
                      have ln := rac.len
                      have := line16
                      have eu := (Ext.updOut (F := F7) (H := H7) (o := HO.dK (putK accv k zv)) k2)
                      have pl := putD_len acc k y
                      exact ⟨accv, k, keyD_rep ry q7, k1, by omega, F7, ow7, wipeE δ7 vs, putK accv k zv, putD acc k y, e2.trans (e3.trans (e5.trans (e6.trans (e7.trans eu)))), (back w7).updOut k2 k3 nD, k2, k3, upd_same,
                        (rac.mono (e3.trans (e5.trans (e6.trans (e7.trans eu))))).put (rz.mono eu), by omega, hl⟩
        · refine .inl ⟨it.stop F2 H2 i e2 hge, ?_⟩
          rw [List.drop_eq_nil_of_le hge] at hl
          obtain ⟨h1, h2⟩ : acc = kvs ∧ δ3 = δ2 := by unfold dcLoop at hl; injection hl with a b; exact ⟨a, b⟩
          subst h1; subst h2
          have w9 := (w1.rest e2 w2 hz.2).freeze no (by rw [hDn]; simp) nD
          have ef : Ext F2 H2 (fun a => F2 a ∨ a = Dn) H2 := ⟨fun _ z => .inl z, fun _ _ _ z => z⟩
          refine g1 _ ow2 H2 (.ref Dn) (e1.trans (e2.trans ef)) w9 (.dct (.inr rfl) hDn rfl rfl ?_ ((rac.mono ef).vs))
          have e8 : (accv.map fun p => kV p.1) = (acc.map (·.1)).map kV := by rw [← rac.ks, List.map_map]; rfl
          have e9 : (acc.map fun p => PV.kD p.1) = (acc.map (·.1)).map PV.kD := by rw [List.map_map]; rfl
          rw [e8, e9]
          exact reps_keys _
      · exact g1.elim
theorem de_dc {X : Cx} {c : FC} {kx vx tg iter : Expr} {ifs : List Expr} {scope : Scope} {own : List (Str × Nat)} {pos : Pos} {fi : Env → R (List D)} {gT : TG} {gd : D → Env → Option Env} {ft : Env → R Bool} {fk fe : Env → R D} (hc : X.calm = true) (hN : X.N.Nodup)
    (hvs : ∀ i ∈ own.map (·.2), c.at ≠ some i) (hi : DI X c tg iter fi) (ok : BlkOk X.N X.env.scope scope own)
    (hg : ∀ (s : Shared) (H : Hp) (C : Addr) (cl : List (Str × Addr)) (fp : List Addr), PG (X.blk s H scope (compEnvC scope cl C X.env) fp) tg gT) (tok : TgOk X.K gT gd (own.map (·.2)))
    (ht : ∀ (c' : FC) (s : Shared) (H : Hp) (C : Addr) (cl : List (Str × Addr)) (fp : List Addr), c'.at = none → DTs (X.blk s H scope (compEnvC scope cl C X.env) fp) c' ifs ft)
    (hk : ∀ (c' : FC) (s : Shared) (H : Hp) (C : Addr) (cl : List (Str × Addr)) (fp : List Addr), c'.at = none → DE (X.blk s H scope (compEnvC scope cl C X.env) fp) c' kx fk)
    (he : ∀ (c' : FC) (s : Shared) (H : Hp) (C : Addr) (cl : List (Str × Addr)) (fp : List Addr), c'.at = none → DE (X.blk s H scope (compEnvC scope cl C X.env) fp) c' vx fe) (hs : ∀ x, foldedSetIterable iter X.env x = pure x := by intro _; rfl) :
    DE X c (.DictComp kx vx [⟨tg, iter, ifs, 0⟩] scope pos) (dDc fi gd ft fk fe (own.map (·.2))) :=
  PE.imp (pe_dc hc hN hi ok hg (fun s H C cl fp => ⟨fun pins s' σ H' Q I ⟨c', h1, h2⟩ => (ht c' s H C cl fp h1).run pins s' σ H' Q I h2⟩)
    (fun s H C cl fp => ⟨fun pins s' σ H' Q I ⟨c', h1, h2⟩ => (hk c' s H C cl fp h1).run pins s' σ H' Q I h2⟩)
    (fun s H C cl fp => ⟨fun pins s' σ H' Q I ⟨c', h1, h2⟩ => (he c' s H C cl fp h1).run pins s' σ H' Q I h2⟩) hs) (dc_imp hvs tok)
/-! ## k in d -/
def rInDk : R2 := fun x y H Q => ∃ a o, y = .ref a ∧ DGet H a x o ∧ Q (.bl o.isSome) H
theorem op_inDk {X : Cx} (hu : X.A.units + 64 < cLine) : OpR X (compareOp .In) rInDk := by
  intro pins s σ H x y v u Q I rx ry h
  obtain ⟨a, o, rfl, g, q⟩ := h
  obtain rfl : u = Value.ref a := ry
  exact d_in (by omega) I g rx fun s' I' => ⟨.bl o.isSome, H, I', rfl, q⟩
def hasKey (k : Key) : List D → Bool
  | [] => false
  | d :: r => decide (keyD d = some k) || hasKey k r
def keysOk (l : List D) : Bool := l.all fun d => (keyD d).isSome
def gInDk : D → D → Option D
  | x, .dct ks _ => match keyD x with
    | some k => some (.bl (hasKey k ks))
    | none => none
  | _, _ => none
theorem hasKey_ok {K : PySem.W.Frag} {F : Addr → Prop} {H : Hp} {k : Key} : ∀ {kvs : List (Key × V)} {kd : List D}, Reps K F H (kvs.map fun p => kV p.1) kd → hasKey k kd = (valV kvs k).isSome
  | [], _, r => by cases r; rfl
  | p :: kvs, _, r => by
    cases r with
    | cons r1 r2 =>
      rename_i d ds
      have ih := hasKey_ok (k := k) r2
      have e1 : keyD d = some p.1 := by
        obtain ⟨pk, pv⟩ := p
        cases pk with
        | inl i => have r1 : Rep K F H (.int i) d := r1; cases r1; rfl
        | inr x => have r1 : Rep K F H (.str x) d := r1; cases r1; rfl
      unfold hasKey
      rw [ih, e1]
      by_cases h : p.1 = k
      · rw [valV_pos h, h]; simp
      · rw [valV_neg h]; simp [h]
theorem opd_inDk {K : PySem.W.Frag} : OpD K rInDk gInDk := by
  intro c F ow H σ δ x y v u z Q w rx ry e g
  unfold gInDk at e
  split at e
  · split at e
    · rename_i k q
      cases e
      obtain ⟨a, kvs, rfl, _, h, r2, _⟩ := ry.dct_inv
      have := keyD_rep rx q
      subst this
      exact ⟨a, _, rfl, DGet.k h, by rw [← hasKey_ok r2]; exact go_val w (.bl _) g⟩
    · cases e
  · cases e
end PV

namespace PV
open PySem PySem.Spec PyProof.Rows L2
/-! ## binding with defaults -/
section
variable {K : PySem.W.Frag} {x qual : Str} {params : Arguments} {body : List Stmt} {scope : Scope} {dvs : List V} {kws : List (Str × V)} {f : Addr} {fd : FuncData} {ps ks : List Str} {n : Nat} {ix : List Nat} {dd : List D}
theorem FunD.kbd0 (F : FunD K x qual params body scope [] kws f fd)
    (h : ∀ (kV doc pm : Value) (an : Option Addr) (cdv ct : Value) (us ws : List Value), us.length = n → ws.length = ks.length → bindArgs (PySem.W.fnOf x qual params body scope .none kV doc pm an cdv ct) ⟨us, ks.zip ws⟩ = pure (ps.zip (pick ix (us ++ ws ++ [])))) : KBd K fd ps n ks ix [] := by
  obtain ⟨oc, od, dV, kV, doc, pm, an, cdv, ct, osl, rfl, lk, hcd, hD, hK⟩ := F.ex
  refine ⟨[], [], .nil, fun _ _ => .nil, fun s us ws _ e1 e2 => ?_⟩
  rcases hD with ⟨_, rfl⟩ | ⟨e, _⟩
  · exact .of_eq (h kV doc pm an cdv ct us ws e1 e2)
  · exact absurd rfl e
theorem FunD.kbd1 (F : FunD K x qual params body scope dvs kws f fd) (hd : dvs ≠ []) (hdd : ∀ F H, Reps K F H dvs dd)
    (h : ∀ (T : Addr) (kV doc pm : Value) (an : Option Addr) (cdv ct : Value) (us its ws : List Value), us.length = n → its.length = dvs.length → ws.length = ks.length →
      ∃ k, bindArgs (PySem.W.fnOf x qual params body scope (.ref T) kV doc pm an cdv ct) ⟨us, ks.zip ws⟩ = seqItems? (.ref T) >>= k ∧ k (some its.toArray) = pure (ps.zip (pick ix (us ++ ws ++ its)))) : KBd K fd ps n ks ix dd := by
  obtain ⟨oc, od, dV, kV, doc, pm, an, cdv, ct, osl, rfl, lk, hcd, hD, hK⟩ := F.ex
  rcases hD with ⟨e, _⟩ | ⟨_, T, o, its, m, rfl, lT, oT, rT⟩
  · exact absurd e hd
  · refine ⟨dvs, its, rT, hdd, fun s us ws X l1 l2 => ?_⟩
    obtain ⟨k, e1, e2⟩ := h T kV doc pm an cdv ct us its ws l1 rT.length.symm l2
    refine BindsTo.of_looks fun M => ?_
    rw [e1]
    exact looks_items X lT oT (.of_pure e2)
end
section
variable {X : Cx} {c : FC} {k k2 n : Nat} {f : Addr} {fd : FuncData} {ps ks : List Str} {ix : List Nat} {dd : List D} {M : Mir}
theorem run_of (Fn : FnA X.prog X.w X.K X.mg X.base CX0 k f fd ps (spF X.K ps.length none M)) (hg : X.A.guards = some []) (hr : Room k2 X.A) (hk : k ≤ k2) (hb : KBd X.K fd ps n ks ix dd) (hl : ix.length = ps.length := by rfl) (hbd : ∀ i ∈ ix, i < n + ks.length + dd.length := by decide) :
    RunsD X (.ref f) n ks ix dd (mirD M) := runs_fn Fn hg (hr.mono hk) hb hl hbd
theorem make_of {x : Str} (Mk : L2.Mk X.K (He.ga X.K x) f) (Fn : FnA X.prog X.w X.K X.mg X.base CX0 k f fd ps (spF X.K ps.length (some 0) M)) (hg : X.A.guards = some []) (hr : Room k2 X.A) (hk : k + 1 ≤ k2) (hb : KBd X.K fd ps (n + 1) ks (0 :: ix.map (· + 1)) dd)
    (hl : ix.length + 1 = ps.length := by rfl) (hbd : ∀ i ∈ ix, i < n + ks.length + dd.length := by decide) : RunsD X (.ref (He.ga X.K x)) n ks ix dd (makeD x M) := runs_make Mk Fn hg (hr.mono hk) hb hl hbd
theorem runI_of (Fn : FnA X.prog X.w X.K X.mg X.base CX0 k f fd ps (spF X.K ps.length none M)) (hg : X.A.guards = some []) (hr : Room k2 X.A) (hk : k + 1 ≤ k2) (hb : Binds X.K fd ps []) (hl : ps.length = n := by rfl) : RunsI X (.ref f) n (mirD M) := runs_in Fn hg (hr.mono hk) hb hl
/-! ## the instance in the making -/
def dOb (i : Nat) (y : Str) (fe : Env → R D) (δ : Env) : R D := (fe δ).bind fun d δ1 => match δ1[i]? with
  | some (.ob x ks l) => if x = y then .ok d δ1 else .bad
  | _ => .bad
theorem de_ob {e : Expr} {fe : Env → R D} {i : Nat} {y : Str} (he : DE X c e fe) : DE X c e (dOb i y fe) :=
  PE.imp he fun σ H Q ⟨F, ow, δ, w, g⟩ => ⟨F, ow, δ, w, by
    unfold dOb at g
    cases q : fe δ with
    | bad => rw [q] at g; exact g.elim
    | ok d δ1 =>
      rw [q, R.bind_ok] at g
      split at g
      · split at g
        · exact g
        · exact g.elim
      · exact g.elim⟩
theorem ds_fldOb {i : Nat} {y f : Str} {o e : Expr} {fe : Env → R D} {pos pos' : Pos} (hv : PE X o (tVar i)) (he : DE X c e fe) (cl : Cls X.K (He.ga X.K y)) (na : NoAttr X.K (He.ga X.K y) f) (hs : swapsWith e (some (.Attribute o f pos')) pos.line X.env = pure false := by rfl) :
    DS X c (.Assign [.Attribute o f pos'] e pos) (sFldO i f (dOb i y fe)) :=
  ds_fldO hv (de_ob he) (fun δ δ1 d h x ks l h2 => by
    unfold dOb at h
    cases q : fe δ with
    | bad => rw [q] at h; cases h
    | ok d' δ' =>
      rw [q, R.bind_ok] at h
      split at h
      · rename_i x' ks' l' q2
        split at h
        · rename_i hx
          have e2 : δ' = δ1 := by injection h
          subst e2
          rw [q2] at h2
          cases h2
          exact hx
        · cases h
      · cases h) cl na hs
/-! ## not x of an instance; bool(x) -/
def dNotO (y : Str) (MD : List D → Option D) (fa : Env → R D) (δ : Env) : R D := (dTruO y MD fa δ).bind fun b δ1 => .ok (.bl (!b)) δ1
theorem de_notO {y : Str} {f : Addr} {a : Expr} {fa : Env → R D} {pos : Pos} {MD : List D → Option D} (hs : PySem.W.findIn X.K (.ref (He.ga X.K y)) "__bool__" = some (some (.ref f))) (hf : PySem.W.isFn X.K (.ref f) = true) (R : RunsD X (.ref f) 1 [] [0] [] MD) (ha : DE X c a fa) : DE X c (.UnaryOp .Not a pos) (dNotO y MD fa) := by
  constructor
  intro pins s σ H Q I ⟨F, ow, δ, w, g1⟩
  unfold dNotO dTruO at g1
  cases q : fa δ with
  | bad => rw [q] at g1; exact g1.elim
  | ok x δ1 =>
    rw [q, PV.R.bind_ok] at g1
    refine UnaryOp_ (thn (ha.run pins s σ H _ I ⟨F, ow, δ, w, by rw [q]; exact fun F1 ow1 H1 v e1 w1 r1 => (⟨F1, ow1, e1, w1, r1⟩ : ∃ F1 ow1, Ext F H F1 H1 ∧ W X.K c F1 ow1 H1 σ δ1 ∧ Rep X.K F1 H1 v x)⟩) ?_)
    rintro u1 s1 ⟨v1, H1, I1, r1, F1, ow1, e1, w1, p1⟩
    cases hM : gObj1 y MD x with
    | none => rw [hM] at g1; exact g1.elim
    | some d =>
      rw [hM] at g1
      cases d with
      | bl b =>
        refine not_of (thn (tru_run hs hf R (Q := fun c H2 => Q (.bl (!c)) H2) I1 r1 w1 p1 hM ?_) fun c s2 ⟨H2, I2, q2⟩ => ⟨.bl (!c), H2, I2, rfl, q2⟩)
        intro F2 ow2 H2 v2 e2 w2 r2
        subst r2
        exact g1 F2 ow2 H2 (.bl (!v2)) (e1.trans e2) w2 (.bl (!v2))
      | _ => exact g1.elim
/-- runs two levels further in -/
def RunsI2 (X : Cx) (f : Value) (n : Nat) (MD : List D → Option D) : Prop :=
  ∀ (pins : List (Addr × Obj)) (σ : L2.St) (H : Hp) (s : Shared) (Q : VK) (us : List Value) (vs : List V) (c : FC) (F : Addr → Prop) (ow : Addr → Option Nat) (δ : Env) (ds : List D) (d : D),
    Inv X pins σ H s → Vals vs us → vs.length = n → W X.K c F ow H σ δ → Reps X.K F H vs ds → MD ds = some d →
    Go X.K c (Rep X.K) F H σ (.ok d δ) Q → codeAny (model X.prog X.w) X.A.in1.in1 (.call f ⟨us, []⟩) (fun r s' => match r with | .ok (.ret v) => EP X pins σ Q v s' | .ok _ => False | .error e => False) s
theorem runI2_of (Fn : FnA X.prog X.w X.K X.mg X.base CX0 k f fd ps (spF X.K ps.length none M)) (hg : X.A.guards = some []) (hr : Room k2 X.A) (hk : k + 2 ≤ k2) (hb : Binds X.K fd ps []) (hl : ps.length = n := by rfl) : RunsI2 X (.ref f) n (mirD M) := by
  intro pins σ H s Q us vs c F ow δ ds d I rv l1 w r1 hM g
  obtain ⟨s', hM⟩ := mirD_inv hM
  have hr := hr.mono hk
  have e1 : us.length = n := rv.length.symm.trans l1
  have sp := call_pure (n := ps.length) (E := E0) (M := M) w r1 (by rw [← r1.length, l1, hl]) hM g
  have hb' := hb s us I.kIn (by rw [List.append_nil, e1, hl])
  rw [List.append_nil] at hb'
  refine (codeAny_mono (Fn.run X.A.in1.in1 X.stack s H ⟨us, []⟩ us _ Q E0 hg (Room.in1 (Room.in1 hr)) I.env0.in1.in1 hb' rv sp) ?_)
  intro out s' hq
  match out, hq with
  | .error e, hq => exact hq.elim
  | .ok (.ret u), hq => exact I.after hq
theorem meets_bool_any {prog : Program} {w : World} (x : Value) :
    MeetsIn prog w (Builtin.«bool.__new__» ⟨[.type "bool", x], []⟩) (fun A R s => wpAny (model prog w) A.in1 (truthy x) (fun b s' => R (.ok (.ret (.bool b))) s') (fun e s' => R (.error e) s') s) :=
  fun A R s hs => by
    have f1 := F.conv_sub_bool
    obtain ⟨hp, g, d, tk, os⟩ := s
    repeat (any_goals (first | assumption | ((with_reducible show wpAny _ _ (truthy _) _ _ _); refine wpAny_mono hs ?_ ?_) | wp_step))
    all_goals first | (intro b s' hb; exact wpAny_pure hb) | (intro e s' he; exact he) | skip
def dBoolO (y : Str) (MD : List D → Option D) (fa : Env → R D) (δ : Env) : R D := (dTruO y MD fa δ).bind fun b δ1 => .ok (.bl b) δ1
theorem de_boolO {y : Str} {f : Addr} {a : Expr} {fa : Env → R D} {p pos : Pos} {MD : List D → Option D} (hs : PySem.W.findIn X.K (.ref (He.ga X.K y)) "__bool__" = some (some (.ref f))) (hf : PySem.W.isFn X.K (.ref f) = true) (R : RunsI2 X (.ref f) 1 MD) (hg : Gl X "bool") (hm : X.mg "bool" = none) (hv : bootBuiltins "bool" = some (.type "bool")) (ha : DE X c a fa)
    (he : starEach [a] X.env = (false, eval a X.env) :: starEach [] X.env := by rfl) (hpl : (backTo pos (starEach [] X.env)).any (·.1) = false := by rfl) : DE X c (.Call (.Name "bool" p) [a] [] pos) (dBoolO y MD fa) := by
  constructor
  intro pins s σ H Q I ⟨F, ow, δ, w, g1⟩
  unfold dBoolO dTruO at g1
  cases q : fa δ with
  | bad => rw [q] at g1; exact g1.elim
  | ok x δ1 =>
    rw [q, PV.R.bind_ok] at g1
    refine wpAny_Call_Name_kw (ld_blt I hg hm hv ?_ (by decide) (by decide))
    refine PyProof.Rows.callWith_type1 (thn ((pa_cons ha pa_nil he).run pos pins s σ H (fun vs H1 => ∃ v, vs = [v] ∧ ∃ F1 ow1, Ext F H F1 H1 ∧ W X.K c F1 ow1 H1 σ δ1 ∧ Rep X.K F1 H1 v x) I ⟨F, ow, δ, w, by rw [q]; exact fun F1 ow1 H1 v e1 w1 r1 => ⟨v, rfl, F1, ow1, e1, w1, r1⟩⟩) ?_) he hpl
    rintro us s1 ⟨vs, H1, I1, r1, v1, ev, F1, ow1, e1, w1, p1⟩
    subst ev
    obtain ⟨u1, rfl, r5⟩ := vals1 r1
    cases hM : gObj1 y MD x with
    | none => rw [hM] at g1; exact g1.elim
    | some d =>
      rw [hM] at g1
      cases d with
      | bl b =>
        refine callType_newIn PySem.F.called_bool PySem.F.newNe_bool (PySem.F.typeCall_bool_1 u1) (PySem.F.newCall_bool_1 u1) (fun obj => PySem.F.args_object_init_2 obj u1) PySem.F.entry_bool_new (meets_bool_any u1) ?_
        cases x with
        | obj y1 k1 l1 =>
          have hM' : (if y1 = y then MD [.obj y1 k1 l1] else none) = some (.bl b) := hM
          split at hM'
          · rename_i hy
            subst hy
            obtain ⟨a1, dx1, vf1, rfl, _, h1, _, _⟩ := id p1.obj_inv
            obtain rfl : u1 = Value.ref a1 := r5
            obtain ⟨ox1, od1, J1⟩ := ins_at I1 h1
            obtain ⟨m, hF⟩ := I1.fr
            show wpAny _ X.A.in1.in1 (truthy _) _ _ _
            refine PySem.W.truthy_K hF I1.ok.mod.kin J1 hs hf ?_
            refine wpAny_mono (wpAny_call (codeAny_mono (R pins σ H1 s1 (fun v H' => v = .bl b ∧ Q (.bl b) H') [.ref a1] [.ref a1] c F1 ow1 δ1 [_] (.bl b) I1 (.cons (show RelV (V.ref _) (Value.ref _) from rfl) .nil) rfl w1 (.cons p1 .nil) hM'
              (fun F' ow' H' v ex w' r => ⟨r.bl_inv, g1 F' ow' H' (.bl b) (e1.trans ex) w' (.bl b)⟩)) fun out s' hq => (by
                match out, hq with
                | .error e, hq => exact hq.elim
                | .ok (.ret u), hq => exact hq))) (fun v s' hv => ?_) fun _ _ z => z
            obtain ⟨z, H', I', rz, ez, q⟩ := hv
            subst ez
            cases rz
            exact ⟨rfl, .bl b, H', I', rfl, q⟩
          · cases hM'
        | _ => cases hM
      | _ => exact g1.elim
end
end PV

namespace PD
/-! ## periods -/
def Per (g : Nat → Bool) (q : Nat) : Prop := 0 < q ∧ ∀ i, g (i + q) = g i
theorem Per.mul {g : Nat → Bool} {q : Nat} (h : Per g q) {k : Nat} (hk : 0 < k) : Per g (q * k) := by
  refine ⟨Nat.mul_pos h.1 hk, ?_⟩
  clear hk
  induction k with
  | zero => intro i; rfl
  | succ k ih => intro i; rw [Nat.mul_succ, ← Nat.add_assoc, h.2, ih]
theorem Per.mod {g : Nat → Bool} {q : Nat} (h : Per g q) (i : Nat) : g (i % q) = g i := by
  have e : ∀ k i, g (i + q * k) = g i := by
    intro k
    induction k with
    | zero => intro i; rfl
    | succ k ih => intro i; rw [Nat.mul_succ, ← Nat.add_assoc, h.2, ih]
  have := e (i / q) (i % q)
  rw [Nat.mod_add_div] at this
  exact this.symm
theorem Per.sub {g : Nat → Bool} {a m : Nat} (ha : Per g a) (hm : Per g m) (h : a % m ≠ 0) : Per g (a % m) := by
  refine ⟨by omega, fun i => ?_⟩
  by_cases hz : a / m = 0
  · have e := Nat.mod_add_div a m
    rw [hz] at e
    have e2 : a % m = a := by simpa using e
    rw [e2]; exact ha.2 i
  · have p := hm.mul (k := a / m) (Nat.pos_of_ne_zero hz)
    rw [← p.2, Nat.add_assoc, Nat.mod_add_div, ha.2]
theorem exists_least {p : Nat → Prop} (h : ∃ n, p n) : ∃ n, p n ∧ ∀ k, p k → n ≤ k := by
  obtain ⟨n, hn⟩ := h
  induction n using Nat.strongRecOn with
  | ind n ih =>
    by_cases hl : ∃ k, k < n ∧ p k
    · obtain ⟨k, h1, h2⟩ := hl
      exact ih k h1 h2
    · exact ⟨n, hn, fun k hk => Nat.le_of_not_lt fun hlt => hl ⟨k, hlt, hk⟩⟩
theorem least_per {g : Nat → Bool} {p : Nat} (h : Per g p) : ∃ m, Per g m ∧ ∀ q, Per g q → m ∣ q := by
  obtain ⟨m, h1, h2⟩ := exists_least ⟨p, h⟩
  refine ⟨m, h1, fun q hq => ?_⟩
  by_cases hz : q % m = 0
  · exact Nat.dvd_of_mod_eq_zero hz
  · have := h2 _ (hq.sub h1 hz)
    have := Nat.mod_lt q h1.1
    omega
/-! ## primes -/
def Pr (r : Nat) : Prop := 2 ≤ r ∧ ∀ d, d ∣ r → d = 1 ∨ d = r
theorem pr_factor (k : Nat) (hk : 2 ≤ k) : ∃ r, Pr r ∧ r ∣ k := by
  obtain ⟨r, h1, h2⟩ := exists_least (p := fun r => 2 ≤ r ∧ r ∣ k) ⟨k, hk, Nat.dvd_refl k⟩
  refine ⟨r, ⟨h1.1, fun d hd => ?_⟩, h1.2⟩
  by_cases hd2 : 2 ≤ d
  · have := h2 d ⟨hd2, Nat.dvd_trans hd h1.2⟩
    have := Nat.le_of_dvd (by omega) hd
    exact .inr (by omega)
  · have : 0 < d := Nat.pos_of_dvd_of_pos hd (by omega)
    exact .inl (by omega)
theorem pr_euclid {r a b : Nat} (hr : Pr r) (h : r ∣ a * b) : r ∣ a ∨ r ∣ b := by
  rcases hr.2 (Nat.gcd r a) (Nat.gcd_dvd_left r a) with e | e
  · exact .inr (Nat.Coprime.dvd_of_dvd_mul_left e h)
  · exact .inl (e ▸ Nat.gcd_dvd_right r a)
/-- all primes of n are in L -/
def Full (n : Nat) (L : List Nat) : Prop := ∀ r, Pr r → r ∣ n → r ∈ L
/-- a period of g, and no shorter one by a prime of L -/
theorem least_of {g : Nat → Bool} {n p : Nat} {L : List Nat} (hp : Per g p) (hpn : p ∣ n) (hn : 0 < n) (hL : Full n L) (h : ∀ r ∈ L, r ∣ p → ¬ Per g (p / r)) : ∀ q, Per g q → p ∣ q := by
  obtain ⟨m, hm, hd⟩ := least_per hp
  obtain ⟨k, hk⟩ := hd p hp
  have hp0 := hp.1
  by_cases hk2 : 2 ≤ k
  · obtain ⟨r, hr, hrk⟩ := pr_factor k hk2
    have hrp : r ∣ p := by rw [hk]; exact Nat.dvd_trans hrk (Nat.dvd_mul_left k m)
    refine absurd ?_ (h r (hL r hr (Nat.dvd_trans hrp hpn)) hrp)
    obtain ⟨j, hj⟩ := hrk
    have hr0 : 0 < r := by have := hr.1; omega
    have e : p / r = m * j := by
      rw [hk, hj, ← Nat.mul_assoc, Nat.mul_comm m r, Nat.mul_assoc, Nat.mul_div_cancel_left _ hr0]
    rw [e]
    refine hm.mul ?_
    rcases Nat.eq_zero_or_pos j with hj0 | hj0
    · rw [hj0] at hj; omega
    · exact hj0
  · have : k = 1 := by
      rcases Nat.eq_zero_or_pos k with h0 | h0
      · rw [h0] at hk; omega
      · omega
    rw [this, Nat.mul_one] at hk
    rw [hk]; exact hd
/-- what a prime has been tried for stays tried -/
theorem tried_mono {g : Nat → Bool} {p p' r : Nat} (hp' : 0 < p') (hd : p' ∣ p) (hp : 0 < p) (hr : 0 < r) (h : r ∣ p → ¬ Per g (p / r)) : r ∣ p' → ¬ Per g (p' / r) := by
  intro hr' hP
  obtain ⟨k, rfl⟩ := hd
  obtain ⟨j, rfl⟩ := hr'
  refine h (Nat.dvd_trans (Nat.dvd_mul_right r j) (Nat.dvd_mul_right _ k)) ?_
  rw [Nat.mul_div_cancel_left _ hr] at hP
  rw [Nat.mul_assoc, Nat.mul_div_cancel_left _ hr]
  refine hP.mul ?_
  rcases Nat.eq_zero_or_pos k with h0 | h0
  · rw [h0] at hp; omega
  · exact h0
/-! ## bits -/
theorem bit_mask (n i : Nat) : (2 ^ n - 1).testBit i = decide (i < n) := by
  rw [Nat.testBit_two_pow_sub_one]
theorem bit_high {x n i : Nat} (h : x < 2 ^ n) (hi : n ≤ i) : x.testBit i = false :=
  Nat.testBit_lt_two_pow (Nat.lt_of_lt_of_le h (Nat.pow_le_pow_right (by omega) hi))
theorem lt_of_bits {x n : Nat} (h : ∀ i, n ≤ i → x.testBit i = false) : x < 2 ^ n := by
  rcases Nat.lt_or_ge x (2 ^ n) with h1 | h1
  · exact h1
  · obtain ⟨i, h2, h3⟩ := Nat.exists_ge_and_testBit_of_ge_two_pow h1
    rw [h i h2] at h3; cases h3
theorem and_lt {x n : Nat} : x &&& (2 ^ n - 1) < 2 ^ n := lt_of_bits fun i hi => by
  rw [Nat.testBit_and, bit_mask, decide_eq_false (by omega), Bool.and_false]
/-- number of binary digits -/
def blen (x : Nat) : Nat := if x = 0 then 0 else x.log2 + 1
theorem blen_high {x i : Nat} (h : blen x ≤ i) : x.testBit i = false := by
  by_cases hx : x = 0
  · rw [hx]; simp
  · have e : blen x = x.log2 + 1 := if_neg hx
    exact bit_high (n := x.log2 + 1) Nat.lt_log2_self (by omega)
theorem blen_top {x : Nat} (hx : x ≠ 0) : 0 < blen x ∧ x.testBit (blen x - 1) = true := by
  have e : blen x = x.log2 + 1 := if_neg hx
  rw [e]
  exact ⟨by omega, by rw [Nat.add_sub_cancel]; exact Nat.testBit_log2 hx⟩
theorem blen_le {x n : Nat} (h : x < 2 ^ n) : blen x ≤ n := by
  by_cases hx : x = 0
  · rw [show blen x = 0 from if_pos hx]; omega
  · have e : blen x = x.log2 + 1 := if_neg hx
    have := (Nat.log2_lt hx).mpr h
    omega
/-! ## day sets -/
structure Fm where
  s : Nat
  p : Nat
  h : Nat
  c : Nat
deriving DecidableEq
def Fm.mem (F : Fm) (d : Nat) : Bool := if d < F.s then F.h.testBit d else F.c.testBit ((d - F.s) % F.p)
structure Fm.Wf (F : Fm) : Prop where
  p : 0 < F.p
  h : F.h < 2 ^ F.s
  c : F.c < 2 ^ F.p
/-- from S on, f goes round by P -/
def EP (f : Nat → Bool) (S P : Nat) : Prop := 0 < P ∧ ∀ d, S ≤ d → f (d + P) = f d
theorem EP.mul {f : Nat → Bool} {S P : Nat} (h : EP f S P) (k : Nat) : ∀ d, S ≤ d → f (d + P * k) = f d := by
  induction k with
  | zero => intro d _; rfl
  | succ k ih => intro d hd; rw [Nat.mul_succ, ← Nat.add_assoc, h.2 _ (by omega), ih d hd]
theorem EP.mod {f : Nat → Bool} {S P : Nat} (h : EP f S P) {d : Nat} (hd : S ≤ d) : f (S + (d - S) % P) = f d := by
  have := h.mul ((d - S) / P) (S + (d - S) % P) (by omega)
  rw [Nat.add_assoc, Nat.mod_add_div] at this
  rw [← this]; congr 1; omega
theorem Fm.Wf.ep {F : Fm} (w : F.Wf) : EP F.mem F.s F.p := ⟨w.p, fun d hd => by
  unfold Fm.mem
  rw [if_neg (by omega), if_neg (by omega)]
  congr 1
  rw [show d + F.p - F.s = d - F.s + F.p by omega, Nat.add_mod_right]⟩
structure Can (f : Nat → Bool) (F : Fm) : Prop where
  wf : F.Wf
  eq : F.mem = f
  least : ∀ S P, EP f S P → F.p ∣ P ∧ F.s ≤ S
theorem Can.ep {f : Nat → Bool} {F : Fm} (c : Can f F) : EP f F.s F.p := c.eq ▸ c.wf.ep
theorem Can.uniq {f : Nat → Bool} {F G : Fm} (a : Can f F) (b : Can f G) : F = G := by
  obtain ⟨h1, h2⟩ := a.least _ _ b.ep
  obtain ⟨h3, h4⟩ := b.least _ _ a.ep
  have ep : F.p = G.p := Nat.dvd_antisymm h1 h3
  have es : F.s = G.s := by omega
  obtain ⟨s, p, h, c⟩ := F
  obtain ⟨s', p', h', c'⟩ := G
  simp only at ep es
  subst ep es
  have e := a.eq.trans b.eq.symm
  have eh : h = h' := Nat.eq_of_testBit_eq fun i => by
    by_cases hi : i < s
    · have := congrFun e i
      unfold Fm.mem at this
      simpa [hi] using this
    · rw [bit_high a.wf.h (by show s ≤ i; omega), bit_high b.wf.h (by show s ≤ i; omega)]
  have ec : c = c' := Nat.eq_of_testBit_eq fun i => by
    by_cases hi : i < p
    · have := congrFun e (s + i)
      unfold Fm.mem at this
      have h1 : ¬ s + i < s := by omega
      simpa [Nat.mod_eq_of_lt hi, h1] using this
    · rw [bit_high a.wf.c (by show p ≤ i; omega), bit_high b.wf.c (by show p ≤ i; omega)]
  rw [eh, ec]
/-- the cyclic part -/
def cyc (p c : Nat) (i : Nat) : Bool := c.testBit (i % p)
theorem cyc_per {p c : Nat} (hp : 0 < p) : Per (cyc p c) p := ⟨hp, fun i => by unfold cyc; rw [Nat.add_mod_right]⟩
theorem cyc_cut {p c q : Nat} (hq : Per (cyc p c) q) (hqp : q ∣ p) (hp : 0 < p) : ∀ i, cyc q (c &&& (2 ^ q - 1)) i = cyc p c i := by
  intro i
  have hm := hq.mod i
  unfold cyc at hm ⊢
  rw [← hm, Nat.testBit_and, bit_mask, decide_eq_true (Nat.mod_lt _ hq.1), Bool.and_true]
  rw [Nat.mod_eq_of_lt (Nat.lt_of_lt_of_le (Nat.mod_lt _ hq.1) (Nat.le_of_dvd hp hqp))]
/-- what canonical does behind shortest -/
def kn (F : Fm) : Nat := F.h ||| F.c <<< F.s
def unl (F : Fm) : Nat := (kn F ^^^ kn F >>> F.p) &&& (2 ^ F.s - 1)
def fin (F : Fm) : Fm := ⟨blen (unl F), F.p, kn F &&& (2 ^ blen (unl F) - 1), kn F >>> blen (unl F) &&& (2 ^ F.p - 1)⟩
theorem kn_bit {F : Fm} (w : F.Wf) {i : Nat} (hi : i < F.s + F.p) : (kn F).testBit i = F.mem i := by
  unfold kn Fm.mem
  rw [Nat.testBit_or, Nat.testBit_shiftLeft]
  by_cases h : i < F.s
  · rw [if_pos h, decide_eq_false (by omega), Bool.false_and, Bool.or_false]
  · rw [if_neg h, bit_high w.h (by omega), Bool.false_or, decide_eq_true (by omega), Bool.true_and, Nat.mod_eq_of_lt (by omega)]
theorem unl_bit {F : Fm} (w : F.Wf) (i : Nat) : (unl F).testBit i = (decide (i < F.s) && (F.mem i != F.mem (i + F.p))) := by
  unfold unl
  rw [Nat.testBit_and, bit_mask, Nat.testBit_xor, Nat.testBit_shiftRight]
  by_cases h : i < F.s
  · rw [kn_bit w (by omega), Nat.add_comm F.p i, kn_bit w (by omega)]
    simp [h]
  · simp [h]
theorem fin_ep {F : Fm} (w : F.Wf) : EP F.mem (blen (unl F)) F.p := ⟨w.p, fun d hd => by
  by_cases h : d < F.s
  · have := blen_high hd
    rw [unl_bit w, decide_eq_true h, Bool.true_and] at this
    have h2 : F.mem d = F.mem (d + F.p) := by simpa using this
    exact h2.symm
  · exact w.ep.2 d (by omega)⟩
theorem fin_le {F : Fm} : blen (unl F) ≤ F.s := blen_le and_lt
theorem fin_can {F : Fm} (w : F.Wf) (hl : ∀ q, Per (cyc F.p F.c) q → F.p ∣ q) : Can F.mem (fin F) := by
  have ep := fin_ep w
  have le := fin_le (F := F)
  refine ⟨⟨w.p, and_lt, and_lt⟩, ?_, fun S P hP => ?_⟩
  · funext d
    show (if d < blen (unl F) then (kn F &&& (2 ^ blen (unl F) - 1)).testBit d else (kn F >>> blen (unl F) &&& (2 ^ F.p - 1)).testBit ((d - blen (unl F)) % F.p)) = F.mem d
    by_cases h : d < blen (unl F)
    · rw [if_pos h, Nat.testBit_and, bit_mask, decide_eq_true h, Bool.and_true, kn_bit w (by have := w.p; omega)]
    · rw [if_neg h, Nat.testBit_and, bit_mask, decide_eq_true (Nat.mod_lt _ w.p), Bool.and_true, Nat.testBit_shiftRight, kn_bit w (by have := Nat.mod_lt (d - blen (unl F)) w.p; omega)]
      exact ep.mod (by omega)
  · have hper : Per (cyc F.p F.c) P := ⟨hP.1, fun i => by
      have e : ∀ j, cyc F.p F.c j = F.mem (F.s + F.p * S + j) := fun j => by
        unfold cyc Fm.mem
        rw [if_neg (by omega), show F.s + F.p * S + j - F.s = j + F.p * S by omega, Nat.add_mul_mod_self_left]
      rw [e, e, ← Nat.add_assoc]
      refine hP.2 _ ?_
      have := Nat.le_mul_of_pos_left S w.p
      omega⟩
    have hd := hl P hper
    refine ⟨hd, ?_⟩
    show blen (unl F) ≤ S
    by_cases hz : unl F = 0
    · rw [show blen (unl F) = 0 from if_pos hz]; omega
    · refine Nat.le_of_not_lt fun hlt => ?_
      obtain ⟨b1, b2⟩ := blen_top hz
      rw [unl_bit w] at b2
      have b3 : F.mem (blen (unl F) - 1) ≠ F.mem (blen (unl F) - 1 + F.p) := by
        have := (Bool.and_eq_true_iff.mp b2).2
        simpa using this
      refine b3 ?_
      have e1 := hP.mul F.s (blen (unl F) - 1) (by omega)
      have e2 := hP.mul F.s (blen (unl F) - 1 + F.p) (by omega)
      rw [← e1, ← e2]
      rw [show blen (unl F) - 1 + F.p + P * F.s = blen (unl F) - 1 + P * F.s + F.p by omega]
      refine (w.ep.2 _ ?_).symm
      have := Nat.le_mul_of_pos_left F.s hP.1
      omega
theorem can_false {f : Nat → Bool} {F : Fm} (c : Can f F) : (F.h = 0 ∧ F.c = 0) ↔ ∀ d, f d = false := by
  obtain rfl := c.eq
  constructor
  · rintro ⟨h1, h2⟩ d
    unfold Fm.mem
    rw [h1, h2]
    split <;> simp
  · intro h
    refine ⟨Nat.eq_of_testBit_eq fun i => ?_, Nat.eq_of_testBit_eq fun i => ?_⟩
    · rw [Nat.zero_testBit]
      by_cases hi : i < F.s
      · have := h i
        unfold Fm.mem at this
        rwa [if_pos hi] at this
      · exact bit_high c.wf.h (by omega)
    · rw [Nat.zero_testBit]
      by_cases hi : i < F.p
      · have := h (F.s + i)
        unfold Fm.mem at this
        rw [if_neg (by omega), Nat.add_sub_cancel_left, Nat.mod_eq_of_lt hi] at this
        exact this
      · exact bit_high c.wf.c (by omega)
end PD

namespace PD
open PySem PV
def ofB : Nat → (Nat → Bool) → Nat
  | 0, _ => 0
  | n + 1, f => ofB n f ||| (if f n = true then 2 ^ n else 0)
theorem ofB_bit (f : Nat → Bool) : ∀ n i, (ofB n f).testBit i = (decide (i < n) && f i)
  | 0, i => by simp [ofB]
  | n + 1, i => by
    have ih := ofB_bit f n i
    unfold ofB
    rw [Nat.testBit_or, ih]
    by_cases h : f n = true
    · rw [if_pos h, Nat.testBit_two_pow]
      by_cases e : n = i
      · subst e; simp [h]
      · have : (i < n + 1) = (i < n) := by apply propext; omega
        simp [e, this]
    · rw [if_neg h, Nat.zero_testBit, Bool.or_false]
      by_cases e : i = n
      · subst e; have : f i = false := by simpa using h
        simp [this]
      · have : (i < n + 1) = (i < n) := by apply propext; omega
        simp [this]
theorem ofB_lt (f : Nat → Bool) (n : Nat) : ofB n f < 2 ^ n := lt_of_bits fun i hi => by rw [ofB_bit, decide_eq_false (by omega), Bool.false_and]
theorem eq_ofB {x n : Nat} {f : Nat → Bool} (h : ∀ i, x.testBit i = (decide (i < n) && f i)) : x = ofB n f := Nat.eq_of_testBit_eq fun i => by rw [h, ofB_bit]
theorem ofB_congr {n : Nat} {f g : Nat → Bool} (h : ∀ i, i < n → f i = g i) : ofB n f = ofB n g := eq_ofB fun i => by
  rw [ofB_bit]
  by_cases hi : i < n
  · rw [h i hi]
  · simp [hi]
theorem ofB_self {x n : Nat} (h : x < 2 ^ n) : ofB n x.testBit = x := (eq_ofB fun i => by
  by_cases hi : i < n
  · simp [hi]
  · rw [bit_high h (by omega)]; simp [hi]).symm
/-- f, told from S on by P -/
def mk (S P : Nat) (f : Nat → Bool) : Fm := ⟨S, P, ofB S f, ofB P fun i => f (S + i)⟩
theorem mk_wf {S P : Nat} {f : Nat → Bool} (hP : 0 < P) : (mk S P f).Wf := ⟨hP, ofB_lt _ _, ofB_lt _ _⟩
theorem mk_mem {S P : Nat} {f : Nat → Bool} (h : EP f S P) : (mk S P f).mem = f := by
  funext d
  show (if d < S then (ofB S f).testBit d else (ofB P fun i => f (S + i)).testBit ((d - S) % P)) = f d
  by_cases hd : d < S
  · rw [if_pos hd, ofB_bit, decide_eq_true hd, Bool.true_and]
  · rw [if_neg hd, ofB_bit, decide_eq_true (Nat.mod_lt _ h.1), Bool.true_and]
    exact h.mod (by omega)
theorem EP.up {f : Nat → Bool} {S P S' k : Nat} (h : EP f S P) (hS : S ≤ S') (hk : 0 < k) : EP f S' (P * k) := ⟨Nat.mul_pos h.1 hk, fun d hd => h.mul k d (by omega)⟩
theorem EP.op {f g : Nat → Bool} {S P : Nat} (o : Bool → Bool → Bool) (hf : EP f S P) (hg : EP g S P) : EP (fun d => o (f d) (g d)) S P := ⟨hf.1, fun d hd => by
  show o (f (d + P)) (g (d + P)) = _
  rw [hf.2 d hd, hg.2 d hd]⟩
theorem EP.not {f : Nat → Bool} {S P : Nat} (hf : EP f S P) : EP (fun d => !f d) S P := ⟨hf.1, fun d hd => by
  show (!f (d + P)) = _
  rw [hf.2 d hd]⟩
/-! ## the operators of ints -/
theorem i_and (a b : Nat) : Builtin.bitAnd (a : Int) (b : Int) = ((a &&& b : Nat) : Int) := by
  unfold Builtin.bitAnd
  rw [decide_eq_true (by omega : (0 : Int) ≤ a), decide_eq_true (by omega : (0 : Int) ≤ b)]
  simp
theorem i_or (a b : Nat) : Builtin.bitOr (a : Int) (b : Int) = ((a ||| b : Nat) : Int) := by
  rw [L2.bitOr_nn (by omega) (by omega)]; simp
theorem add_xor_and : ∀ a b : Nat, (a ||| b) - (a &&& b) = a ^^^ b := by
  intro a b
  have h : (a ^^^ b) + (a &&& b) = a ||| b := by
    have e : (a ^^^ b) &&& (a &&& b) = 0 := Nat.eq_of_testBit_eq fun i => by
      simp only [Nat.testBit_and, Nat.testBit_xor, Nat.zero_testBit]
      cases a.testBit i <;> cases b.testBit i <;> rfl
    have e2 : (a ^^^ b) ||| (a &&& b) = a ||| b := Nat.eq_of_testBit_eq fun i => by
      simp only [Nat.testBit_and, Nat.testBit_or, Nat.testBit_xor]
      cases a.testBit i <;> cases b.testBit i <;> rfl
    rw [← e2]
    exact and_zero_add _ _ e
  omega
where
  and_zero_add : ∀ x y : Nat, x &&& y = 0 → x + y = x ||| y := by
    intro x
    induction x using Nat.strongRecOn with
    | ind x ih =>
      intro y h
      by_cases hx : x = 0
      · subst hx; simp
      · have h2 : x / 2 &&& y / 2 = 0 := by
          have := congrArg (· / 2) h
          simpa [Nat.and_div_two] using this
        have i1 := ih (x / 2) (by omega) (y / 2) h2
        have b0 : ¬ (x % 2 = 1 ∧ y % 2 = 1) := fun ⟨p, q⟩ => by
          have := congrArg (fun z => z.testBit 0) h
          simp [Nat.testBit_zero, p, q] at this
        have o1 : (x ||| y) / 2 = x / 2 ||| y / 2 := Nat.or_div_two
        have o2 : (x ||| y) % 2 = if x % 2 = 1 ∨ y % 2 = 1 then 1 else 0 := by
          have := Nat.testBit_or x y 0
          simp only [Nat.testBit_zero] at this
          rcases Nat.mod_two_eq_zero_or_one x with p | p <;> rcases Nat.mod_two_eq_zero_or_one y with q | q <;> rcases Nat.mod_two_eq_zero_or_one (x ||| y) with r | r <;> simp [p, q, r] at this ⊢
        rw [← o1] at i1
        rcases Nat.mod_two_eq_zero_or_one x with p | p <;> rcases Nat.mod_two_eq_zero_or_one y with q | q
        · rw [if_neg (by omega)] at o2; omega
        · rw [if_pos (by omega)] at o2; omega
        · rw [if_pos (by omega)] at o2; omega
        · exact absurd ⟨p, q⟩ b0
theorem i_xor (a b : Nat) : Builtin.bitXor (a : Int) (b : Int) = ((a ^^^ b : Nat) : Int) := by
  unfold Builtin.bitXor
  rw [i_and, i_or]
  have := add_xor_and a b
  have h2 : a &&& b ≤ a ||| b := Nat.le_of_testBit_le a b
  omega
where
  Nat.le_of_testBit_le : ∀ a b : Nat, a &&& b ≤ a ||| b := fun a b => Nat.le_trans (Nat.and_le_left) Nat.left_le_or
theorem i_less (a b : Nat) : Builtin.bitAnd (a : Int) (Builtin.bitNot (b : Int)) = ((a ^^^ (a &&& b) : Nat) : Int) := by
  unfold Builtin.bitAnd
  have e : Builtin.bitNot (b : Int) = -(b : Int) - 1 := rfl
  have e2 : Builtin.bitNot (Builtin.bitNot (b : Int)) = (b : Int) := by unfold Builtin.bitNot; omega
  rw [decide_eq_true (by omega : (0 : Int) ≤ a), decide_eq_false (by rw [e]; omega : ¬ (0 : Int) ≤ Builtin.bitNot (b : Int))]
  dsimp only
  rw [e2]
  have h1 := add_xor_and a (a &&& b)
  have h2 : a ||| (a &&& b) = a := Nat.eq_of_testBit_eq fun i => by
    simp only [Nat.testBit_and, Nat.testBit_or]
    cases a.testBit i <;> cases b.testBit i <;> rfl
  have h3 : a &&& (a &&& b) = a &&& b := Nat.eq_of_testBit_eq fun i => by
    simp only [Nat.testBit_and]
    cases a.testBit i <;> cases b.testBit i <;> rfl
  rw [h2, h3] at h1
  have h4 : a &&& b ≤ a := Nat.and_le_left
  simp
  omega
theorem bits_le {a n : Nat} (h : a < 2 ^ n) : Builtin.Int.intBits (a : Int) ≤ n := PySem.intBits_le_iff.mpr (by simpa using h)
theorem g_and (a b : Nat) : gBit Builtin.bitAnd (.int a) (.int b) = some (.int ((a &&& b : Nat) : Int)) := by show some (D.int (Builtin.bitAnd _ _)) = _; rw [i_and]
theorem g_or (a b : Nat) : gBit Builtin.bitOr (.int a) (.int b) = some (.int ((a ||| b : Nat) : Int)) := by show some (D.int (Builtin.bitOr _ _)) = _; rw [i_or]
theorem g_xor (a b : Nat) : gBit Builtin.bitXor (.int a) (.int b) = some (.int ((a ^^^ b : Nat) : Int)) := by show some (D.int (Builtin.bitXor _ _)) = _; rw [i_xor]
theorem g_less (a b : Nat) : gBit Builtin.bitAnd (.int a) (.int (Builtin.bitNot (b : Int))) = some (.int ((a ^^^ (a &&& b) : Nat) : Int)) := by show some (D.int (Builtin.bitAnd _ _)) = _; rw [i_less]
theorem g_shl {a n : Nat} (j : Nat) (h : a < 2 ^ n) (hn : n ≤ 30000000) (hj : j ≤ 100000000) : gShl (.int a) (.int j) = some (.int ((a <<< j : Nat) : Int)) := by
  have := bits_le h
  show (if _ then _ else _) = _
  rw [if_pos ⟨by omega, by omega, by omega⟩]
  congr 2
  rw [Nat.shiftLeft_eq]
  simp
theorem g_shr (a j : Nat) : gShr (.int a) (.int j) = some (.int ((a >>> j : Nat) : Int)) := by
  refine (if_pos (c := (0 : Int) ≤ (j : Int)) (t := some (D.int ((a : Int) / 2 ^ (j : Int).toNat))) (e := none) (by omega)).trans ?_
  congr 2
  rw [Nat.shiftRight_eq_div_pow]
  simp
end PD

namespace PV
open PySem PySem.Spec PyProof.Rows L2
/-! ### evaluation, as terms -/
theorem a1 {f : Env → R D} {δ δ1 : Env} {x : D} (h : f δ = .ok x δ1) : dCons f dNil δ = .ok [x] δ1 := by simp [dCons, dNil, h]
theorem aC {f : Env → R D} {g : Env → R (List D)} {δ δ1 δ2 : Env} {x : D} {xs : List D} (h : f δ = .ok x δ1) (h2 : g δ1 = .ok xs δ2) : dCons f g δ = .ok (x :: xs) δ2 := by simp [dCons, h, h2]
theorem aK {f : Env → R D} {g : Env → R (List D)} {δ : Env} {x : D} {xs : List D} (h : f δ = .ok x δ) (h2 : g δ = .ok xs δ) : dCons f g δ = .ok (x :: xs) δ := aC h h2
theorem oK {g : D → D → Option D} {fa fb : Env → R D} {δ : Env} (x y : D) {z : D} (h1 : fa δ = .ok x δ) (h2 : fb δ = .ok y δ) (h3 : g x y = some z) : dOp g fa fb δ = .ok z δ := dOp_ok h1 h2 h3
theorem cF {n : Nat} {M : Mir} {f : Env → R (List D)} {δ δ1 : Env} {xs : List D} {d : D} {s : Sl} (h : f δ = .ok xs δ1) (hn : xs.length = n) (hm : M xs .emp = some (.p d, s)) : dCallF n M [] f δ = .ok d δ1 := by
  unfold dCallF
  rw [h, R.bind_ok, List.append_nil, if_pos hn, hm]
theorem cB {g : List D → Option D} {f : Env → R (List D)} {δ δ1 : Env} {xs : List D} {d : D} (h : f δ = .ok xs δ1) (hm : g xs = some d) : dCall g f δ = .ok d δ1 := by
  unfold dCall
  rw [h, R.bind_ok, hm]
theorem tB {f : Env → R D} {δ δ1 : Env} {b : Bool} (h : f δ = .ok (.bl b) δ1) : dTst f δ = .ok b δ1 := by
  unfold dTst; rw [h]; rfl
theorem iY {t : Env → R Bool} {f g : Env → SRes} {δ δ1 : Env} (h : t δ = .ok true δ1) : sIf t f g δ = f δ1 := by unfold sIf; rw [h]; rfl
theorem iN {t : Env → R Bool} {f g : Env → SRes} {δ δ1 : Env} (h : t δ = .ok false δ1) : sIf t f g δ = g δ1 := by unfold sIf; rw [h]; rfl
theorem dY {t : Env → R Bool} {f g : Env → R D} {δ δ1 : Env} (h : t δ = .ok true δ1) : dIf t f g δ = f δ1 := by unfold dIf; rw [h]; rfl
theorem dN {t : Env → R Bool} {f g : Env → R D} {δ δ1 : Env} (h : t δ = .ok false δ1) : dIf t f g δ = g δ1 := by unfold dIf; rw [h]; rfl
theorem sN {i : Nat} {f : Env → R D} {δ δ1 : Env} {d : D} (h : f δ = .ok d δ1) : sSet i f δ = .nx (δ1.set i (.p d)) := sSet_ok h
theorem sE {i : Nat} {f : Env → R D} {δ δ1 δ2 : Env} {d : D} (h : f δ = .ok d δ1) (e : δ1.set i (.p d) = δ2) : sSet i f δ = .nx δ2 := (sSet_ok h).trans (congrArg SRes.nx e)
theorem sq {f g : Env → SRes} {δ : Env} (δ1 : Env) {r : SRes} (h : f δ = .nx δ1) (h2 : g δ1 = r) : sSeq f g δ = r := (seq_nx h).trans h2
theorem sP {vs : List Nat} {f : Env → R (List D)} {δ δ1 δ2 : Env} {ds : List D} (h : f δ = .ok ds δ1) (e : tgsN vs ds δ1 = some δ2) : sPar vs f δ = .nx δ2 := by unfold sPar; rw [h]; dsimp only; rw [e]
theorem sA {g : D → Env → Option Env} {f : Env → R D} {δ δ1 δ2 : Env} {d : D} (h : f δ = .ok d δ1) (e : g d δ1 = some δ2) : sAsg g f δ = .nx δ2 := by unfold sAsg; rw [h]; dsimp only; rw [e]
theorem iL {f : Env → R D} {δ δ1 : Env} {l : List D} (h : f δ = .ok (.lst l) δ1) : iLst f δ = .ok l δ1 := by unfold iLst; rw [h]; rfl
theorem sT {f : Env → R (List D)} {δ δ1 : Env} {l : List D} {k : List D → D} (h : f δ = .ok l δ1) (hl : l.length ≤ 16000000) : dSeq k f δ = .ok (k l) δ1 := by unfold dSeq; rw [h, R.bind_ok, if_pos hl]
theorem andY {f g : Env → R D} {δ δ1 : Env} (h : f δ = .ok (.bl true) δ1) : dAndV f g δ = g δ1 := by unfold dAndV; rw [h]; rfl
theorem andN {f g : Env → R D} {δ δ1 : Env} (h : f δ = .ok (.bl false) δ1) : dAndV f g δ = .ok (.bl false) δ1 := by unfold dAndV; rw [h]; rfl
theorem orN {f g : Env → R D} {δ δ1 : Env} (h : f δ = .ok (.bl false) δ1) : dOrV f g δ = g δ1 := by unfold dOrV; rw [h]; rfl
theorem orY {f g : Env → R D} {δ δ1 : Env} (h : f δ = .ok (.bl true) δ1) : dOrV f g δ = .ok (.bl true) δ1 := by unfold dOrV; rw [h]; rfl
theorem andV {f g : Env → R D} {δ : Env} {a b : Bool} (h : f δ = .ok (.bl a) δ) (h2 : g δ = .ok (.bl b) δ) : dAndV f g δ = .ok (.bl (a && b)) δ := by
  cases a
  · exact andN h
  · exact (andY h).trans h2
theorem orV {f g : Env → R D} {δ : Env} {a b : Bool} (h : f δ = .ok (.bl a) δ) (h2 : g δ = .ok (.bl b) δ) : dOrV f g δ = .ok (.bl (a || b)) δ := by
  cases a
  · exact (orN h).trans h2
  · exact orY h
theorem notV {f : Env → R D} {δ δ1 : Env} {b : Bool} (h : f δ = .ok (.bl b) δ1) : dNotV f δ = .ok (.bl (!b)) δ1 := by unfold dNotV; rw [h]; rfl
theorem truV {f : Env → R D} {δ δ1 : Env} {b : Bool} {x : D} (h : f δ = .ok x δ1) (hx : x.tru = some b) : dTru f δ = .ok b δ1 := by unfold dTru; rw [h, R.bind_ok, hx]
theorem notT {f : Env → R Bool} {δ δ1 : Env} {b : Bool} (h : f δ = .ok b δ1) : dNot f δ = .ok (!b) δ1 := by unfold dNot; rw [h]; rfl
theorem orT {f g : Env → R Bool} {δ : Env} {a b : Bool} (h : f δ = .ok a δ) (h2 : g δ = .ok b δ) : dOr f g δ = .ok (a || b) δ := by
  unfold dOr; rw [h, R.bind_ok]
  cases a
  · exact h2
  · rfl
theorem andT {f g : Env → R Bool} {δ : Env} {a b : Bool} (h : f δ = .ok a δ) (h2 : g δ = .ok b δ) : dAnd f g δ = .ok (a && b) δ := by
  unfold dAnd; rw [h, R.bind_ok]
  cases a
  · rfl
  · exact h2
theorem truO {y : Str} {MD : List D → Option D} {f : Env → R D} {δ δ1 : Env} {x : D} {b : Bool} (h : f δ = .ok x δ1) (hb : gObj1 y MD x = some (.bl b)) : dTruO y MD f δ = .ok b δ1 := by unfold dTruO; rw [h, R.bind_ok, hb]
theorem notO {y : Str} {MD : List D → Option D} {f : Env → R D} {δ δ1 : Env} {x : D} {b : Bool} (h : f δ = .ok x δ1) (hb : gObj1 y MD x = some (.bl b)) : dNotO y MD f δ = .ok (.bl (!b)) δ1 := by unfold dNotO; rw [truO h hb]; rfl
theorem booO {y : Str} {MD : List D → Option D} {f : Env → R D} {δ δ1 : Env} {x : D} {b : Bool} (h : f δ = .ok x δ1) (hb : gObj1 y MD x = some (.bl b)) : dBoolO y MD f δ = .ok (.bl b) δ1 := by unfold dBoolO; rw [truO h hb]; rfl
theorem unF {g : D → Option D} {f : Env → R D} {δ δ1 : Env} {x z : D} (h : f δ = .ok x δ1) (hg : g x = some z) : dUnF g f δ = .ok z δ1 := by unfold dUnF; rw [h, R.bind_ok, hg]
theorem ifS {c : Prop} [Decidable c] {a r : Option D} (hc : c) (h : a = r) : (if c then a else none) = r := (if_pos hc).trans h
theorem vE {i : Nat} {δ : Env} {d : D} (h : δ[i]? = some (.p d)) : dV i δ = .ok d δ := by unfold dV; rw [h]
theorem wh_turn {t : Env → R Bool} {b : Env → SRes} {δ δ1 δ2 : Env} {r : SRes} (h1 : t δ = .ok true δ1) (h2 : b δ1 = .nx δ2) (h3 : ∃ n, whileN t b n δ2 = r) : ∃ n, whileN t b n δ = r := by
  obtain ⟨n, h3⟩ := h3
  exact ⟨n + 1, by unfold whileN; rw [h1]; dsimp only; rw [h2]; exact h3⟩
theorem wh_break {t : Env → R Bool} {b : Env → SRes} {δ δ1 δ2 : Env} (h1 : t δ = .ok true δ1) (h2 : b δ1 = .bk δ2) : ∃ n, whileN t b n δ = .nx δ2 :=
  ⟨1, by unfold whileN; rw [h1]; dsimp only; rw [h2]⟩
theorem wh_end {t : Env → R Bool} {b : Env → SRes} {δ δ1 : Env} (h1 : t δ = .ok false δ1) : ∃ n, whileN t b n δ = .nx δ1 :=
  ⟨1, by unfold whileN; rw [h1]⟩
theorem wh_of {t : Env → R Bool} {b : Env → SRes} {δ δ1 : Env} (h : ∃ n, whileN t b n δ = .nx δ1) : sWhile t b δ = .nx δ1 := by
  obtain ⟨n, h⟩ := h
  exact sWhile_eq n h (by intro e; cases e)
theorem lcLoop_gen {g : D → Env → Option Env} {t : Env → R Bool} {e : Env → R D} {vs : List Nat} {δw : Env} (hw : wipeE δw vs = δw) (p : D → Bool) (f : D → D) : ∀ items : List D,
    (∀ d ∈ items, ∃ δ1, g d δw = some δ1 ∧ t δ1 = .ok (p d) δ1 ∧ (p d = true → e δ1 = .ok (f d) δ1) ∧ wipeE δ1 vs = δw) → lcLoop g t e vs items δw = .ok ((items.filter p).map f) δw
  | [], _ => rfl
  | d :: ds, h => by
    obtain ⟨δ1, h1, h2, h3, h4⟩ := h d List.mem_cons_self
    have ih := lcLoop_gen (t := t) (e := e) hw p f ds fun x hx => h x (List.mem_cons_of_mem _ hx)
    unfold lcLoop
    rw [hw, h1]
    dsimp only
    rw [h2, R.bind_ok]
    cases q : p d with
    | true =>
      rw [if_pos rfl, h3 q, R.bind_ok, h4, ih, R.bind_ok, List.filter_cons_of_pos q, List.map_cons]
    | false =>
      rw [if_neg (by decide), h4, ih, List.filter_cons_of_neg (by rw [q]; decide)]
theorem lcE {f : Env → R (List D)} {g : D → Env → Option Env} {t : Env → R Bool} {e : Env → R D} {vs : List Nat} {δ δ1 δw δ' : Env} {items : List D} (p : D → Bool) (F : D → D) (hf : f δ = .ok items δ1) (hw : wipeE δ1 vs = δw) (hr : restE δ1 δw vs = δ') (hww : wipeE δw vs = δw) (hl : δw.length = δ1.length) (hz : items.length ≤ 16000000)
    (h : ∀ d ∈ items, ∃ δ1, g d δw = some δ1 ∧ t δ1 = .ok (p d) δ1 ∧ (p d = true → e δ1 = .ok (F d) δ1) ∧ wipeE δ1 vs = δw) : dLc f g t e vs δ = .ok (.lst ((items.filter p).map F)) δ' := by
  unfold dLc
  rw [hf, R.bind_ok, hw, lcLoop_gen hww p F items h, R.bind_ok, if_pos ⟨by rw [List.length_map]; exact Nat.le_trans (List.length_filter_le _ _) hz, hl⟩, hr]
abbrev dI (n : Nat) : D := .int (n : Int)
abbrev pI (n : Nat) : Sl := .p (.int (n : Int))
theorem n_add (a b : Nat) : gAdd (dI a) (dI b) = some (dI (a + b)) := by rw [ev_add]; congr
theorem n_mul {a b : Nat} (h : a < 1000000000000) : gMul (dI a) (dI b) = some (dI (a * b)) := by rw [ev_mul (.inl (by omega))]; congr
theorem n_sub {a b : Nat} (h : b ≤ a) : PV.gSub (dI a) (dI b) = some (dI (a - b)) := by rw [ev_sub]; congr 2; omega
theorem n_div {a b : Nat} (h : 0 < b) (h2 : b < 1000000000000) : gDiv (dI a) (dI b) = some (dI (a / b)) := by rw [ev_divL (by omega) (by omega)]; congr
theorem n_mod {a b : Nat} (h : 0 < b) : gMod (dI a) (dI b) = some (dI (a % b)) := by rw [ev_mod (by omega)]; congr
theorem n_lt (a b : Nat) : gLt (dI a) (dI b) = some (.bl (decide (a < b))) := by refine (ev_cmp _ _ _).trans ?_; congr 2; exact decide_eq_decide.mpr (by omega)
theorem n_le (a b : Nat) : gLe (dI a) (dI b) = some (.bl (decide (a ≤ b))) := by refine (ev_cmp _ _ _).trans ?_; congr 2; exact decide_eq_decide.mpr (by omega)
theorem n_gt (a b : Nat) : gGt (dI a) (dI b) = some (.bl (decide (b < a))) := by refine (ev_cmp _ _ _).trans ?_; congr 2; exact decide_eq_decide.mpr (by omega)
theorem n_eq (a b : Nat) : gEq false (dI a) (dI b) = some (.bl (decide (a = b))) := by rw [ev_eq]; congr 2; exact decide_eq_decide.mpr (by omega)
theorem n_ne (a b : Nat) : gEq true (dI a) (dI b) = some (.bl (!decide (a = b))) := by rw [ev_ne]; congr 3; exact decide_eq_decide.mpr (by omega)
theorem n_min (a b : Nat) : gMin [dI a, dI b] = some (dI (min a b)) := by
  show some (D.int (if (b : Int) < a then (b : Int) else a)) = _
  congr 2
  split <;> omega
theorem n_max (a b : Nat) : gMax [dI a, dI b] = some (dI (max a b)) := by
  show some (D.int (if (b : Int) > a then (b : Int) else a)) = _
  congr 2
  split <;> omega
end PV

namespace PD
open PySem PV
/-! ## the signs of a number -/
def sg (b : Bool) : Nat := if b then 49 else 48
theorem blen_half {n : Nat} (h : 2 ≤ n) : blen n = blen (n / 2) + 1 := by
  have h1 : n ≠ 0 := by omega
  have h2 : n / 2 ≠ 0 := by omega
  unfold blen
  rw [if_neg h1, if_neg h2, Nat.log2_def, if_pos h]
theorem bits01_step {n : Nat} (h : 2 ≤ n) : bits01 n = bits01 (n / 2) ++ [sg (n.testBit 0)] := by
  unfold bits01
  rw [Nat.toDigits_of_base_le (by omega) h, List.map_append]
  congr 1
  rw [Nat.testBit_zero]
  rcases Nat.mod_two_eq_zero_or_one n with e | e <;> rw [e] <;> rfl
theorem bits01_rev : ∀ n : Nat, 0 < n → (bits01 n).reverse = (List.range (blen n)).map fun i => sg (n.testBit i) := by
  intro n
  induction n using Nat.strongRecOn with
  | ind n ih =>
    intro h
    by_cases h2 : 2 ≤ n
    · rw [bits01_step h2, List.reverse_append, blen_half h2, List.range_succ_eq_map, List.map_cons, List.map_map, ih (n / 2) (by omega) (by omega)]
      show sg (n.testBit 0) :: _ = _
      congr 1
      refine List.map_congr_left fun i _ => ?_
      show sg ((n / 2).testBit i) = sg (n.testBit (i + 1))
      rw [Nat.testBit_succ]
    · have : n = 1 := by omega
      subst this
      decide
theorem binS_len {n : Nat} (h : 0 < n) : (binS n).length = blen n := by
  have := congrArg List.length (bits01_rev n h)
  rw [List.length_reverse, List.length_map, List.length_range] at this
  show ((bits01 n).toArray).size = _
  rw [List.size_toArray, this]
theorem binS_zero : binS 0 = ⟨#[48]⟩ := by decide
/-- the signs, from the lowest on -/
def lowS (n : Nat) : List Nat := if n = 0 then [48] else (List.range (blen n)).map fun i => sg (n.testBit i)
theorem cut_rev (x : Str) : strCut x none none (-1) = ⟨x.cps.toList.reverse.toArray⟩ := by
  have h := PyProof.Rows.step_rev_list x 0
  have e : (strCut x none none (-1)).cps.toList = x.cps.toList.reverse := by
    show (Txt.sliceBy x none none (-1, 0)).cps.toList = _
    rw [h]
    refine List.ext_getElem (by rw [List.length_map, List.length_range, List.length_reverse, Array.length_toList]; rfl) fun i h1 h2 => ?_
    rw [List.getElem_map, List.getElem_range, List.getElem_reverse]
    rw [List.length_reverse, Array.length_toList] at h2
    have e2 : x.length = x.cps.size := rfl
    rw [e2, Array.getD_eq_getD_getElem?, Array.getElem?_eq_getElem (by omega)]
    simp
  have : (strCut x none none (-1)).cps = x.cps.toList.reverse.toArray := by
    rw [← e]
  cases hx : strCut x none none (-1)
  rw [hx] at this
  simp only at this
  rw [this]
theorem cut_bin (n : Nat) : strCut (binS n) none none (-1) = ⟨(lowS n).toArray⟩ := by
  rw [cut_rev]
  unfold lowS
  by_cases h : n = 0
  · subst h; rw [if_pos rfl, binS_zero]; rfl
  · rw [if_neg h, ← bits01_rev n (by omega)]; rfl
/-- a list turned about -/
theorem pick_rev {α : Type} (l : List α) : pick (slIdx none none (some (-1)) l.length) l = l.reverse := by
  unfold slIdx
  rw [PySem.W.krv_bounds]
  show pick (sliceRange ((l.length : Int) - 1) (-1) (-1)) l = _
  rw [PySem.W.krv_sliceRange]
  unfold pick
  rw [List.filterMap_map]
  refine List.ext_getElem? fun i => ?_
  have key : ∀ m, m ≤ l.length → ((List.range m).filterMap ((fun i => l[i]?) ∘ fun k => l.length - 1 - k)) = (l.reverse).take m := by
    intro m
    induction m with
    | zero => intro _; simp
    | succ m ih =>
      intro hm
      rw [List.range_succ, List.filterMap_append, ih (by omega), List.take_add_one]
      congr 1
      have h1 : l.reverse[m]? = some (l[l.length - 1 - m]'(by omega)) := by
        rw [List.getElem?_reverse (by omega), List.getElem?_eq_getElem (by omega)]
      rw [h1]
      simp [List.filterMap_cons, List.getElem?_eq_getElem (show l.length - 1 - m < l.length by omega)]
  rw [key l.length (Nat.le_refl _), List.take_of_length_le (by simp)]
/-! ## back to a number -/
theorem num01_app (a b : List Nat) : ∀ z, (a ++ b).foldl (fun a c => a * 2 + (c - 48)) z = b.foldl (fun a c => a * 2 + (c - 48)) (a.foldl (fun a c => a * 2 + (c - 48)) z) := fun z => List.foldl_append ..
theorem fold_acc (l : List Nat) : ∀ z, l.foldl (fun a c => a * 2 + (c - 48)) z = z * 2 ^ l.length + num01 l := by
  induction l with
  | nil => intro z; simp [num01]
  | cons c l ih =>
    intro z
    unfold num01
    rw [List.foldl_cons, List.foldl_cons, ih, ih (0 * 2 + (c - 48)), List.length_cons, Nat.pow_succ]
    rw [Nat.zero_mul, Nat.zero_add, Nat.add_mul, Nat.mul_assoc, Nat.mul_comm 2, Nat.add_assoc]
theorem num01_ofB (f : Nat → Bool) : ∀ n, num01 (((List.range n).map fun i => sg (f i)).reverse) = ofB n f
  | 0 => rfl
  | n + 1 => by
    rw [List.range_succ, List.map_append, List.reverse_append]
    show num01 (sg (f n) :: ((List.range n).map fun i => sg (f i)).reverse) = _
    unfold num01
    rw [List.foldl_cons, fold_acc, num01_ofB f n, List.length_reverse, List.length_map, List.length_range]
    rw [show ofB (n + 1) f = ofB n f ||| (if f n = true then 2 ^ n else 0) from rfl]
    have hl := ofB_lt f n
    by_cases h : f n = true
    · rw [if_pos h, h]
      show (0 * 2 + (49 - 48)) * 2 ^ n + _ = _
      rw [Nat.or_comm, show (0 * 2 + (49 - 48)) * 2 ^ n = 2 ^ n by simp]
      have := Nat.two_pow_add_eq_or_of_lt hl 1
      simpa using this
    · rw [if_neg h, show f n = false by simpa using h, Nat.or_zero]
      show (0 * 2 + (48 - 48)) * 2 ^ n + _ = _
      simp
theorem join_sg (l : List Nat) : Txt.join "" (l.map fun c => (⟨#[c]⟩ : Str)) = ⟨l.toArray⟩ := by
  have key : ∀ l : List Nat, (Str.join "" (l.map fun c => (⟨#[c]⟩ : Str))).cps.toList = l := by
    intro l
    match l with
    | [] => rfl
    | [c] => rfl
    | c :: d :: r =>
      have ih := (by
        exact Nat.rec (motive := fun n => ∀ l : List Nat, l.length = n → (Str.join "" (l.map fun c => (⟨#[c]⟩ : Str))).cps.toList = l) (fun l hl => by
          cases l with
          | nil => rfl
          | cons => cases hl) (fun n ih l hl => by
          match l, hl with
          | [c], _ => rfl
          | c :: d :: r, hl =>
            have z := ih (d :: r) (by simpa using hl)
            show ((⟨#[c]⟩ : Str) ++ ("" : Str) ++ Str.join "" ((d :: r).map fun c => (⟨#[c]⟩ : Str))).cps.toList = _
            show ((#[c] ++ #[]) ++ (Str.join "" ((d :: r).map fun c => (⟨#[c]⟩ : Str))).cps).toList = _
            rw [Array.toList_append, z]
            rfl) (c :: d :: r).length (c :: d :: r) rfl : _)
      exact ih
  have h := key l
  have e : Txt.join "" (l.map fun c => (⟨#[c]⟩ : Str)) = Str.join "" (l.map fun c => (⟨#[c]⟩ : Str)) := by
    first | exact TL.join_eq _ _ | exact L2.join_eq _ _
  rw [e]
  cases hx : Str.join "" (l.map fun c => (⟨#[c]⟩ : Str))
  rw [hx] at h
  simp only at h
  congr 1
  rw [← h]
end PD

namespace PV
open PySem PySem.Spec PyProof.Rows L2
/-! ## list(x) -/
def gListC : List D → Option D
  | [.lst l] => some (.lst l)
  | [.tup l] => some (.lst l)
  | _ => none
theorem cd_listC {K : PySem.W.Frag} : CallD K (fun xs H Q => ∃ p ys, xs = [.ref p] ∧ (SqL K H p ys ∨ SqT K H p ys) ∧ ∀ l, H l = none → Q (.ref l) (upd H l (.lst ys))) gListC := by
  intro c F ow H σ δ xs vs z Q w r e g
  unfold gListC at e
  split at e
  · cases e
    cases r with | cons a b => cases b; obtain ⟨p, us, rfl, hp, _, r1⟩ := a.lst_inv; exact ⟨p, us, rfl, .inl (SqL.of hp), new_lst w r1 g⟩
  · cases e
    cases r with | cons a b => cases b; obtain ⟨p, us, rfl, hp, r1⟩ := a.tup_inv; exact ⟨p, us, rfl, .inr hp, new_lst w r1 g⟩
  · cases e
end PV

namespace PV
open PySem PySem.Spec PyProof.Rows L2
/-! ## what follows: evaluation forward -/
structure wp {α : Type} (e : Env → R α) (δ : Env) (Q : α → Env → Prop) : Prop where
  out : ∃ d δ', e δ = .ok d δ' ∧ Q d δ'
inductive wS (s : Env → SRes) (δ : Env) (N : Env → Prop) (T : D → Env → Prop) (B C : Env → Prop) : Prop
  | nx {δ' : Env} (h : s δ = .nx δ') (q : N δ')
  | rt {d : D} {δ' : Env} (h : s δ = .rt d δ') (q : T d δ')
  | bk {δ' : Env} (h : s δ = .bk δ') (q : B δ')
  | ct {δ' : Env} (h : s δ = .ct δ') (q : C δ')
abbrev noE : Env → Prop := fun _ => False
abbrev noD : D → Env → Prop := fun _ _ => False
section
variable {α β : Type} {δ δ1 : Env} {Q : D → Env → Prop} {QL : List D → Env → Prop} {QB : Bool → Env → Prop} {QO : Option Int → Env → Prop} {fa fb fo fe fl : Env → R D} {f g : Env → R (List D)} {i n m : Nat} {y : Str}
theorem wp.imp {e : Env → R α} {Q Q' : α → Env → Prop} (h : wp e δ Q) (i : ∀ a δ', Q a δ' → Q' a δ') : wp e δ Q' := by
  obtain ⟨d, δ', e1, q⟩ := h
  exact ⟨d, δ', e1, i _ _ q⟩
theorem wp.ok {e : Env → R α} {Q : α → Env → Prop} {a : α} (h : e δ = .ok a δ1) (q : Q a δ1) : wp e δ Q := ⟨a, δ1, h, q⟩
theorem wp.eq {e : Env → R α} {a : α} (h : wp e δ fun b δ' => b = a ∧ δ' = δ1) : e δ = .ok a δ1 := by
  obtain ⟨d, δ', e1, rfl, rfl⟩ := h
  exact e1
theorem wp_bind {e : Env → R α} {k : α → Env → R β} {Q : β → Env → Prop} (h : wp e δ fun a δ1 => wp (k a) δ1 Q) : wp (fun δ => (e δ).bind k) δ Q := by
  obtain ⟨d, δ', e1, d2, δ2, e2, q⟩ := h
  exact ⟨d2, δ2, by show (e δ).bind k = _; rw [e1]; exact e2, q⟩
theorem w_var {d : D} (h : δ[i]? = some (.p d)) (q : Q d δ) : wp (dV i) δ Q := ⟨d, δ, vE h, q⟩
theorem w_con {d : D} (q : Q d δ) : wp (dC d) δ Q := ⟨d, δ, rfl, q⟩
theorem w_nat {k : Nat} (q : Q (.int ((@OfNat.ofNat Nat k (instOfNatNat k) : Nat) : Int)) δ) : wp (dC (.int (@OfNat.ofNat Int k (@instOfNat k)))) δ Q := ⟨_, δ, rfl, q⟩
theorem w_op {g : D → D → Option D} (h : wp fa δ fun x δ1 => wp fb δ1 fun y δ2 => ∃ z, g x y = some z ∧ Q z δ2) : wp (dOp g fa fb) δ Q := by
  obtain ⟨x, δ1, e1, y, δ2, e2, z, e3, q⟩ := h
  exact ⟨z, δ2, dOp_ok e1 e2 e3, q⟩
theorem w_un {g : D → Option D} (h : wp fa δ fun x δ1 => ∃ z, g x = some z ∧ Q z δ1) : wp (dUn g fa) δ Q := by
  obtain ⟨x, δ1, e1, z, e3, q⟩ := h
  exact ⟨z, δ1, by unfold dUn; rw [e1, R.bind_ok, e3], q⟩
theorem w_unF {g : D → Option D} (h : wp fa δ fun x δ1 => ∃ z, g x = some z ∧ Q z δ1) : wp (dUnF g fa) δ Q := by
  obtain ⟨x, δ1, e1, z, e3, q⟩ := h
  exact ⟨z, δ1, unF e1 e3, q⟩
theorem w_nil (q : QL [] δ) : wp dNil δ QL := ⟨_, _, rfl, q⟩
theorem w_cons (h : wp fa δ fun x δ1 => wp f δ1 fun xs δ2 => QL (x :: xs) δ2) : wp (dCons fa f) δ QL := by
  obtain ⟨x, δ1, e1, xs, δ2, e2, q⟩ := h
  exact ⟨_, _, aC e1 e2, q⟩
theorem w_star (h : wp fa δ fun x δ1 => ∃ l, (x = .tup l ∨ x = .lst l) ∧ wp f δ1 fun xs δ2 => QL (l ++ xs) δ2) : wp (dStar fa f) δ QL := by
  obtain ⟨x, δ1, e1, l, hx, xs, δ2, e2, q⟩ := h
  refine ⟨_, _, ?_, q⟩
  unfold dStar
  rw [e1, R.bind_ok]
  rcases hx with rfl | rfl <;> (dsimp only; rw [e2, R.bind_ok])
theorem w_seq {k : List D → D} (h : wp f δ fun xs δ1 => xs.length ≤ 16000000 ∧ Q (k xs) δ1) : wp (dSeq k f) δ Q := by
  obtain ⟨xs, δ1, e1, hl, q⟩ := h
  exact ⟨_, _, sT e1 hl, q⟩
theorem w_call {g : List D → Option D} (h : wp f δ fun xs δ1 => ∃ z, g xs = some z ∧ Q z δ1) : wp (dCall g f) δ Q := by
  obtain ⟨xs, δ1, e1, z, e2, q⟩ := h
  exact ⟨z, _, cB e1 e2, q⟩
theorem w_callF {M : Mir} {dd : List D} (h : wp f δ fun xs δ1 => (xs ++ dd).length = n ∧ ∃ z, mirD M (xs ++ dd) = some z ∧ Q z δ1) : wp (dCallF n M dd f) δ Q := by
  obtain ⟨xs, δ1, e1, hl, z, e2, q⟩ := h
  obtain ⟨s', e3⟩ := mirD_inv e2
  refine ⟨z, δ1, ?_, q⟩
  unfold dCallF
  rw [e1, R.bind_ok, if_pos hl, e3]
theorem w_callF0 {M : Mir} (h : wp f δ fun xs δ1 => xs.length = n ∧ ∃ z, mirD M xs = some z ∧ Q z δ1) : wp (dCallF n M [] f) δ Q := w_callF (h.imp fun a δ' q => by rw [List.append_nil]; exact q)
theorem w_callK {l : Nat} {ix : List Nat} {M : Mir} (h : wp f δ fun ds δ1 => wp g δ1 fun zs δ2 => ∃ as, pick ix (ds ++ zs) = as ∧ (ds.length = m ∧ zs.length = l ∧ as.length = n) ∧ ∃ z, mirD M as = some z ∧ Q z δ2) : wp (dCallK n m l ix M f g) δ Q := by
  obtain ⟨ds, δ1, e1, zs, δ2, e2, _, rfl, hl, z, e3, q⟩ := h
  obtain ⟨s', e4⟩ := mirD_inv e3
  refine ⟨z, δ2, ?_, q⟩
  unfold dCallK
  rw [e1, R.bind_ok, e2, R.bind_ok, if_pos hl, e4]
/-- a call with the state at slot i -/
theorem w_callS {j : Nat} {M : Mir} {S0 : LSt} (h0 : δ[i]? = some (.st S0)) (h : wp f δ fun ds δ1 => ds.length + 1 = n ∧ ∃ S, δ1[i]? = some (.st S) ∧ ∃ z s', M ds (.st S) = some (.p z, s') ∧ ∃ δ2, δ1.set i s' = δ2 ∧ Q z δ2) : wp (dCallS n i j M (dHere i f)) δ Q := by
  obtain ⟨ds, δ1, e1, hl, S, e2, z, s', e3, _, rfl, q⟩ := h
  refine ⟨z, _, ?_, q⟩
  unfold dCallS
  have : dHere i f δ = .ok ds δ1 := by unfold dHere; rw [h0]; exact e1
  rw [this, R.bind_ok, if_pos hl, e2]
  dsimp only
  rw [e3]
theorem w_app {k : Nat} {ix : List Nat} {dd : List D} {MD : List D → Option D} (h : wp f δ fun ds δ1 => wp g δ1 fun es δ2 => (ds.length = n ∧ es.length = k) ∧ ∃ as, pick ix (ds ++ es ++ dd) = as ∧ ∃ z, MD as = some z ∧ Q z δ2) : wp (dApp n k ix dd MD f g) δ Q := by
  obtain ⟨ds, δ1, e1, es, δ2, e2, hl, _, rfl, z, e3, q⟩ := h
  refine ⟨z, δ2, ?_, q⟩
  unfold dApp
  rw [e1, R.bind_ok, e2, R.bind_ok, if_pos hl, e3]
theorem w_cmeth {k : Nat} {ix : List Nat} {dd : List D} {MD : List D → Option D} (h : wp (dApp n k ix dd (fun a => MD (.cls y :: a)) f g) δ Q) : wp (dCMeth y n k ix dd MD (dC (.cls y)) f g) δ Q := by
  obtain ⟨z, δ1, e1, q⟩ := h
  refine ⟨z, δ1, ?_, q⟩
  unfold dCMeth dC
  rw [R.bind_ok]
  dsimp only
  rw [if_pos rfl, e1]
theorem w_appL {k : Nat} {ix : List Nat} {dd : List D} {MD : List D → Option D} (h0 : δ[i]? = some (.p (.cls y))) (h : wp (dApp n k ix dd MD f g) δ Q) : wp (dAppL i y n k ix dd MD f g) δ Q := by
  obtain ⟨z, δ1, e1, q⟩ := h
  refine ⟨z, δ1, ?_, q⟩
  unfold dAppL
  rw [h0]
  dsimp only
  rw [if_pos rfl, e1]
theorem w_meth {mm : Str} {k : Nat} {ix : List Nat} {dd : List D} {MD : List D → Option D} (h : wp fo δ fun o δ1 => ∃ ks l, o = .obj y ks l ∧ mm ∉ ks ∧ wp (dApp n k ix dd (fun a => MD (.obj y ks l :: a)) f g) δ1 Q) : wp (dMeth y mm n k ix dd MD fo f g) δ Q := by
  obtain ⟨o, δ1, e1, ks, l, rfl, hn, z, δ2, e2, q⟩ := h
  refine ⟨z, δ2, ?_, q⟩
  unfold dMeth
  rw [e1, R.bind_ok]
  dsimp only
  rw [if_pos ⟨rfl, hn⟩, e2]
theorem w_prop {MD : List D → Option D} (h : wp fo δ fun o δ1 => ∃ ks l, o = .obj y ks l ∧ ∃ z, MD [.obj y ks l] = some z ∧ Q z δ1) : wp (dProp y MD fo) δ Q := by
  obtain ⟨o, δ1, e1, ks, l, rfl, z, e2, q⟩ := h
  refine ⟨z, δ1, ?_, q⟩
  unfold dProp
  rw [e1, R.bind_ok]
  dsimp only
  rw [if_pos rfl, e2]
theorem w_fld {ff : Str} (h : wp fo δ fun o δ1 => ∃ ks l, o = .obj y ks l ∧ ∃ z, fldOf ff ks l = some z ∧ Q z δ1) : wp (dFld y ff fo) δ Q := by
  obtain ⟨o, δ1, e1, ks, l, rfl, z, e2, q⟩ := h
  refine ⟨z, δ1, ?_, q⟩
  unfold dFld
  rw [e1, R.bind_ok]
  dsimp only
  rw [if_pos rfl, e2]
theorem w_if {t : Env → R Bool} (h : wp t δ fun b δ1 => (b = true → wp fa δ1 Q) ∧ (b = false → wp fb δ1 Q)) : wp (dIf t fa fb) δ Q := by
  obtain ⟨b, δ1, e1, h1, h2⟩ := h
  cases b with
  | true => obtain ⟨z, δ2, e2, q⟩ := h1 rfl; exact ⟨z, δ2, (dY e1).trans e2, q⟩
  | false => obtain ⟨z, δ2, e2, q⟩ := h2 rfl; exact ⟨z, δ2, (dN e1).trans e2, q⟩
theorem w_andV (h : wp fa δ fun x δ1 => ∃ b, x = .bl b ∧ (b = true → wp fb δ1 Q) ∧ (b = false → Q (.bl false) δ1)) : wp (dAndV fa fb) δ Q := by
  obtain ⟨x, δ1, e1, b, rfl, h1, h2⟩ := h
  cases b with
  | true => obtain ⟨z, δ2, e2, q⟩ := h1 rfl; exact ⟨z, δ2, (andY e1).trans e2, q⟩
  | false => exact ⟨_, δ1, andN e1, h2 rfl⟩
theorem w_orV (h : wp fa δ fun x δ1 => ∃ b, x = .bl b ∧ (b = true → Q (.bl true) δ1) ∧ (b = false → wp fb δ1 Q)) : wp (dOrV fa fb) δ Q := by
  obtain ⟨x, δ1, e1, b, rfl, h1, h2⟩ := h
  cases b with
  | false => obtain ⟨z, δ2, e2, q⟩ := h2 rfl; exact ⟨z, δ2, (orN e1).trans e2, q⟩
  | true => exact ⟨_, δ1, orY e1, h1 rfl⟩
theorem w_notV (h : wp fa δ fun x δ1 => ∃ b, x = .bl b ∧ Q (.bl (!b)) δ1) : wp (dNotV fa) δ Q := by
  obtain ⟨x, δ1, e1, b, rfl, q⟩ := h
  exact ⟨_, _, notV e1, q⟩
/-! tests -/
theorem w_tst (h : wp fa δ fun x δ1 => ∃ b, x = .bl b ∧ QB b δ1) : wp (dTst fa) δ QB := by
  obtain ⟨x, δ1, e1, b, rfl, q⟩ := h
  exact ⟨_, _, tB e1, q⟩
theorem w_tru (h : wp fa δ fun x δ1 => ∃ b, x.tru = some b ∧ QB b δ1) : wp (dTru fa) δ QB := by
  obtain ⟨x, δ1, e1, b, e2, q⟩ := h
  exact ⟨_, _, truV e1 e2, q⟩
theorem w_truO {MD : List D → Option D} (h : wp fa δ fun x δ1 => ∃ b, gObj1 y MD x = some (.bl b) ∧ QB b δ1) : wp (dTruO y MD fa) δ QB := by
  obtain ⟨x, δ1, e1, b, e2, q⟩ := h
  exact ⟨_, _, truO e1 e2, q⟩
theorem w_notO {MD : List D → Option D} (h : wp fa δ fun x δ1 => ∃ b, gObj1 y MD x = some (.bl b) ∧ Q (.bl (!b)) δ1) : wp (dNotO y MD fa) δ Q := by
  obtain ⟨x, δ1, e1, b, e2, q⟩ := h
  exact ⟨_, _, notO e1 e2, q⟩
theorem w_boolO {MD : List D → Option D} (h : wp fa δ fun x δ1 => ∃ b, gObj1 y MD x = some (.bl b) ∧ Q (.bl b) δ1) : wp (dBoolO y MD fa) δ Q := by
  obtain ⟨x, δ1, e1, b, e2, q⟩ := h
  exact ⟨_, _, booO e1 e2, q⟩
theorem w_and {s t : Env → R Bool} (h : wp s δ fun b δ1 => (b = true → wp t δ1 QB) ∧ (b = false → QB false δ1)) : wp (dAnd s t) δ QB := by
  obtain ⟨b, δ1, e1, h1, h2⟩ := h
  cases b with
  | true => obtain ⟨z, δ2, e2, q⟩ := h1 rfl; exact ⟨z, δ2, by unfold dAnd; rw [e1, R.bind_ok, if_pos rfl, e2], q⟩
  | false => exact ⟨_, δ1, by unfold dAnd; rw [e1, R.bind_ok, if_neg (by decide)], h2 rfl⟩
theorem w_or {s t : Env → R Bool} (h : wp s δ fun b δ1 => (b = true → QB true δ1) ∧ (b = false → wp t δ1 QB)) : wp (dOr s t) δ QB := by
  obtain ⟨b, δ1, e1, h1, h2⟩ := h
  cases b with
  | false => obtain ⟨z, δ2, e2, q⟩ := h2 rfl; exact ⟨z, δ2, by unfold dOr; rw [e1, R.bind_ok, if_neg (by decide), e2], q⟩
  | true => exact ⟨_, δ1, by unfold dOr; rw [e1, R.bind_ok, if_pos rfl], h1 rfl⟩
theorem w_not {s : Env → R Bool} (h : wp s δ fun b δ1 => QB (!b) δ1) : wp (dNot s) δ QB := by
  obtain ⟨b, δ1, e1, q⟩ := h
  exact ⟨_, _, notT e1, q⟩
theorem w_yes (q : QB true δ) : wp bYes δ QB := ⟨_, _, rfl, q⟩
theorem w_chain {g g' : D → D → Option D} {fc : Env → R D} (h : wp fa δ fun x δ1 => wp fb δ1 fun y δ2 => ∃ b, g x y = some (.bl b) ∧ (b = true → wp fc δ2 fun z δ3 => ∃ d, g' y z = some d ∧ Q d δ3) ∧ (b = false → Q (.bl false) δ2)) : wp (dChain g g' fa fb fc) δ Q := by
  obtain ⟨x, δ1, e1, y, δ2, e2, b, e3, h1, h2⟩ := h
  cases b with
  | true =>
    obtain ⟨z, δ3, e4, d, e5, q⟩ := h1 rfl
    exact ⟨d, δ3, by unfold dChain; rw [e1, R.bind_ok, e2, R.bind_ok, e3]; dsimp only; rw [e4, R.bind_ok, e5], q⟩
  | false => exact ⟨_, δ2, by unfold dChain; rw [e1, R.bind_ok, e2, R.bind_ok, e3], h2 rfl⟩
/-! slices -/
theorem w_no (q : QO none δ) : wp dNo δ QO := ⟨_, _, rfl, q⟩
theorem w_part (h : wp fa δ fun x δ1 => ∃ k, x = .int k ∧ QO (some k) δ1) : wp (dPart fa) δ QO := by
  obtain ⟨x, δ1, e1, k, rfl, q⟩ := h
  refine ⟨_, _, ?_, q⟩
  unfold dPart
  rw [e1, R.bind_ok]
theorem w_sl {lo hi : Env → R (Option Int)} (h : wp fa δ fun x δ1 => wp lo δ1 fun l δ2 => wp hi δ2 fun u δ3 => ∃ z, gSl x l u = some z ∧ Q z δ3) : wp (dSl fa lo hi) δ Q := by
  obtain ⟨x, δ1, e1, l, δ2, e2, u, δ3, e3, z, e4, q⟩ := h
  refine ⟨_, _, ?_, q⟩
  unfold dSl
  rw [e1, R.bind_ok, e2, R.bind_ok, e3, R.bind_ok, e4]
theorem w_slS {lo hi st : Env → R (Option Int)} (h : wp fa δ fun x δ1 => wp lo δ1 fun l δ2 => wp hi δ2 fun u δ3 => wp st δ3 fun k δ4 => ∃ z, gSlS x l u k = some z ∧ Q z δ4) : wp (dSlS fa lo hi st) δ Q := by
  obtain ⟨x, δ1, e1, l, δ2, e2, u, δ3, e3, k, δ4, e4, z, e5, q⟩ := h
  refine ⟨_, _, ?_, q⟩
  unfold dSlS
  rw [e1, R.bind_ok, e2, R.bind_ok, e3, R.bind_ok, e4, R.bind_ok, e5]
/-! ### what is walked -/
theorem w_iLst (h : wp fa δ fun x δ1 => ∃ l, gLstOf x = some l ∧ QL l δ1) : wp (iLst fa) δ QL := by
  obtain ⟨x, δ1, e1, l, e2, q⟩ := h
  refine ⟨_, _, ?_, q⟩
  unfold iLst
  rw [e1, R.bind_ok, e2]
theorem w_iTup (h : wp fa δ fun x δ1 => ∃ l, x = .tup l ∧ QL l δ1) : wp (iTupD fa) δ QL := by
  obtain ⟨x, δ1, e1, l, rfl, q⟩ := h
  refine ⟨_, _, ?_, q⟩
  unfold iTupD
  rw [e1, R.bind_ok]
theorem w_iEnL (h : wp fa δ fun x δ1 => ∃ l, gLstOf x = some l ∧ QL (enumL l) δ1) : wp (iEnL fa) δ QL := by
  obtain ⟨x, δ1, e1, l, e2, q⟩ := h
  refine ⟨_, _, ?_, q⟩
  unfold iEnL
  rw [e1, R.bind_ok, e2]
theorem w_iCall {g : List D → Option (List D)} (h : wp f δ fun xs δ1 => ∃ l, g xs = some l ∧ QL l δ1) : wp (iCall g f) δ QL := by
  obtain ⟨xs, δ1, e1, l, e2, q⟩ := h
  refine ⟨_, _, ?_, q⟩
  unfold iCall
  rw [e1, R.bind_ok, e2]
end
/-! ### statements -/
section
variable {δ δ1 : Env} {N : Env → Prop} {T : D → Env → Prop} {B C : Env → Prop} {fa fe : Env → R D} {fl : Env → R (List D)} {i n : Nat} {s f g : Env → SRes} {t : Env → R Bool}
theorem wS.imp {N' : Env → Prop} {T' : D → Env → Prop} {B' C' : Env → Prop} (h : wS s δ N T B C) (n : ∀ δ, N δ → N' δ) (t : ∀ d δ, T d δ → T' d δ) (b : ∀ δ, B δ → B' δ) (c : ∀ δ, C δ → C' δ) : wS s δ N' T' B' C' := by
  cases h with
  | nx h q => exact .nx h (n _ q)
  | rt h q => exact .rt h (t _ _ q)
  | bk h q => exact .bk h (b _ q)
  | ct h q => exact .ct h (c _ q)
theorem w_mid (I : Env → Prop) (h : wS s δ I T B C) (k : ∀ δ', I δ' → N δ') : wS s δ N T B C := h.imp k (fun _ _ z => z) (fun _ z => z) (fun _ z => z)
theorem w_next (q : N δ) : wS sNext δ N T B C := .nx rfl q
theorem w_bk (q : B δ) : wS sBk δ N T B C := .bk rfl q
theorem w_ct (q : C δ) : wS sCt δ N T B C := .ct rfl q
theorem w_sSeq (h : wS f δ (fun δ1 => wS g δ1 N T B C) T B C) : wS (sSeq f g) δ N T B C := by
  have e : sSeq f g δ = (f δ).seq g := rfl
  cases h with
  | nx h q =>
    rw [h] at e
    cases q with
    | nx h q => exact .nx (e.trans h) q
    | rt h q => exact .rt (e.trans h) q
    | bk h q => exact .bk (e.trans h) q
    | ct h q => exact .ct (e.trans h) q
  | rt h q => rw [h] at e; exact .rt e q
  | bk h q => rw [h] at e; exact .bk e q
  | ct h q => rw [h] at e; exact .ct e q
theorem w_ret (h : wp fe δ fun d δ1 => T d δ1) : wS (sRet fe) δ N T B C := by
  obtain ⟨d, δ1, e, q⟩ := h
  exact .rt (sRet_ok e) q
theorem w_retN (h : T .non δ) : wS sRetN δ N T B C := .rt rfl h
theorem w_set (h : wp fe δ fun d δ1 => ∃ δ2, δ1.set i (.p d) = δ2 ∧ N δ2) : wS (sSet i fe) δ N T B C := by
  obtain ⟨d, δ1, e, _, rfl, q⟩ := h
  exact .nx (sN e) q
theorem w_drop (h : wp fe δ fun _ δ1 => N δ1) : wS (sDrop fe) δ N T B C := by
  obtain ⟨d, δ1, e, q⟩ := h
  exact .nx (by unfold sDrop; rw [e]) q
theorem w_sIf (h : wp t δ fun b δ1 => (b = true → wS f δ1 N T B C) ∧ (b = false → wS g δ1 N T B C)) : wS (sIf t f g) δ N T B C := by
  obtain ⟨b, δ1, e, h1, h2⟩ := h
  cases b with
  | true =>
    have e2 : sIf t f g δ = f δ1 := iY e
    cases h1 rfl with
    | nx h q => exact .nx (e2.trans h) q
    | rt h q => exact .rt (e2.trans h) q
    | bk h q => exact .bk (e2.trans h) q
    | ct h q => exact .ct (e2.trans h) q
  | false =>
    have e2 : sIf t f g δ = g δ1 := iN e
    cases h2 rfl with
    | nx h q => exact .nx (e2.trans h) q
    | rt h q => exact .rt (e2.trans h) q
    | bk h q => exact .bk (e2.trans h) q
    | ct h q => exact .ct (e2.trans h) q
theorem wS.at {δ2 : Env} {g : Env → SRes} (e : s δ = g δ2) (h : wS g δ2 N T B C) : wS s δ N T B C := by
  cases h with
  | nx h q => exact .nx (e.trans h) q
  | rt h q => exact .rt (e.trans h) q
  | bk h q => exact .bk (e.trans h) q
  | ct h q => exact .ct (e.trans h) q
theorem w_asg {gt : D → Env → Option Env} (h : wp fe δ fun d δ1 => ∃ δ2, gt d δ1 = some δ2 ∧ N δ2) : wS (sAsg gt fe) δ N T B C := by
  obtain ⟨d, δ1, e, δ2, e2, q⟩ := h
  exact .nx (sA e e2) q
theorem w_par {vs : List Nat} (h : wp fl δ fun ds δ1 => ∃ δ2, tgsN vs ds δ1 = some δ2 ∧ N δ2) : wS (sPar vs fl) δ N T B C := by
  obtain ⟨d, δ1, e, δ2, e2, q⟩ := h
  exact .nx (sP e e2) q
theorem w_aug {op : Int → Int → Int} {x : Int} (hi : δ[i]? = some (.p (.int x))) (h : wp fe δ fun d δ1 => ∃ k, d = .int k ∧ ∃ δ2, δ1.set i (.p (.int (op x k))) = δ2 ∧ N δ2) : wS (sAug i op fe) δ N T B C := by
  obtain ⟨d, δ1, e, k, rfl, _, rfl, q⟩ := h
  refine .nx (δ' := δ1.set i (.p (.int (op x k)))) ?_ q
  unfold sAug
  rw [hi]
  dsimp only
  rw [e]
theorem w_setM (h : wp fl δ fun ds δ1 => ds.length ≤ 16000000 ∧ ∃ δ2, δ1.set i (.ml ds) = δ2 ∧ N δ2) : wS (sSetM i fl) δ N T B C := by
  obtain ⟨d, δ1, e, hl, _, rfl, q⟩ := h
  exact .nx (δ' := δ1.set i (.ml d)) (by unfold sSetM; rw [e]; exact if_pos hl) q
theorem w_appM {l : List D} (hi : δ[i]? = some (.ml l)) (h : wp fe δ fun d δ1 => ∃ l, δ1[i]? = some (.ml l) ∧ l.length < 16000000 ∧ ∃ δ2, δ1.set i (.ml (l ++ [d])) = δ2 ∧ N δ2) : wS (sApp i fe) δ N T B C := by
  obtain ⟨d, δ1, e, l2, e2, hl, _, rfl, q⟩ := h
  refine .nx (δ' := δ1.set i (.ml (l2 ++ [d]))) ?_ q
  unfold sApp
  rw [hi]
  dsimp only
  rw [e]
  dsimp only
  rw [e2]
  exact if_pos hl
theorem w_frz {l : List D} {Q : D → Env → Prop} (hi : δ[i]? = some (.ml l)) (q : ∃ δ2, δ.set i (.p (.lst l)) = δ2 ∧ Q (.lst l) δ2) : wp (dFrz i) δ Q := by
  obtain ⟨_, rfl, q⟩ := q
  exact ⟨_, _, by unfold dFrz; rw [hi], q⟩
theorem w_frzP {d : D} {Q : D → Env → Prop} (hi : δ[i]? = some (.p d)) (q : Q d δ) : wp (dFrz i) δ Q := ⟨_, _, by unfold dFrz; rw [hi], q⟩
theorem w_setF {M : Mir} (h : wp fl δ fun ds δ1 => ds.length = n ∧ ∃ r s', M ds .emp = some (r, s') ∧ ∃ δ2, δ1.set i r = δ2 ∧ N δ2) : wS (dSetF i n M fl) δ N T B C := by
  obtain ⟨ds, δ1, e, hl, r, s', e2, _, rfl, q⟩ := h
  exact .nx (δ' := δ1.set i r) (by unfold dSetF; rw [e]; dsimp only; rw [if_pos hl, e2]) q
/-! ### loops -/
/-- items and turns: I k holds ahead of item k -/
theorem w_forD {gt : D → Env → Option Env} {b : Env → SRes} (I : Nat → Env → Prop) : ∀ (items : List D) (k : Nat) (δ : Env), I k δ →
    (∀ j d δ, items[j]? = some d → I (k + j) δ → ∃ δ1, gt d δ = some δ1 ∧ wS b δ1 (I (k + j + 1)) T N (I (k + j + 1))) → (∀ δ, I (k + items.length) δ → N δ) → wS (fun δ => forD gt b items δ) δ N T B C
  | [], k, δ, h, _, fin => .nx rfl (fin δ h)
  | d :: ds, k, δ, h, step, fin => by
    obtain ⟨δ1, e1, h1⟩ := step 0 d δ rfl h
    have rec_ : ∀ δ2, I (k + 1) δ2 → wS (fun δ => forD gt b ds δ) δ2 N T B C := fun δ2 h2 => w_forD I ds (k + 1) δ2 h2 (fun j d δ hj hI => by
      have := step (j + 1) d δ hj (by rw [show k + (j + 1) = k + 1 + j by omega]; exact hI)
      rw [show k + (j + 1) + 1 = k + 1 + j + 1 by omega] at this
      exact this) (fun δ hI => fin δ (by rw [List.length_cons, show k + (ds.length + 1) = k + 1 + ds.length by omega]; exact hI))
    have e0 : forD gt b (d :: ds) δ = match b δ1 with
      | .nx δ2 => forD gt b ds δ2
      | .ct δ2 => forD gt b ds δ2
      | .bk δ2 => .nx δ2
      | .rt x δ2 => .rt x δ2
      | .bad => .bad := by rw [forD, e1] <;> rfl
    cases h1 with
    | nx h q => rw [h] at e0; exact wS.at (s := fun δ => forD gt b (d :: ds) δ) (g := fun δ => forD gt b ds δ) e0 (rec_ _ q)
    | ct h q => rw [h] at e0; exact wS.at (s := fun δ => forD gt b (d :: ds) δ) (g := fun δ => forD gt b ds δ) e0 (rec_ _ q)
    | rt h q => rw [h] at e0; exact .rt e0 q
    | bk h q => rw [h] at e0; exact .nx e0 q
theorem w_for {gt : D → Env → Option Env} {b : Env → SRes} (h : wp fl δ fun items δ1 => ∃ I : Nat → Env → Prop, I 0 δ1 ∧
    (∀ j d δ, items[j]? = some d → I j δ → ∃ δ1, gt d δ = some δ1 ∧ wS b δ1 (I (j + 1)) T N (I (j + 1))) ∧ (∀ δ, I items.length δ → N δ)) : wS (sFor fl gt b) δ N T B C := by
  obtain ⟨items, δ1, e, I, h0, h1, h2⟩ := h
  have := w_forD (T := T) (B := B) (C := C) (N := N) (gt := gt) (b := b) I items 0 δ1 h0 (fun j d δ hj hI => by
    rw [Nat.zero_add] at hI ⊢
    exact h1 j d δ hj hI) (fun δ hI => h2 δ (by rw [Nat.zero_add] at hI; exact hI))
  exact wS.at (g := fun δ => forD gt b items δ) (by unfold sFor; rw [e]) this
/-- a while by a measure -/
theorem w_while {b : Env → SRes} (I : Nat → Env → Prop) (m : Nat) (h0 : I m δ) (step : ∀ m δ, I m δ → wp t δ fun c δ1 => (c = true → wS b δ1 (fun δ2 => ∃ k, k < m ∧ I k δ2) T N (fun δ2 => ∃ k, k < m ∧ I k δ2)) ∧ (c = false → N δ1)) : wS (sWhile t b) δ N T B C := by
  have key : ∀ m δ, I m δ → ∃ n, whileN t b n δ ≠ .bad ∧ wS (whileN t b n) δ N T B C := by
    intro m
    induction m using Nat.strongRecOn with
    | _ m ih =>
      intro δ hI
      obtain ⟨c, δ1, e, h1, h2⟩ := step m δ hI
      cases c with
      | false =>
        have : whileN t b 1 δ = .nx δ1 := by unfold whileN; rw [e]
        exact ⟨1, by rw [this]; exact (fun z => nomatch z), .nx this (h2 rfl)⟩
      | true =>
        cases h1 rfl with
        | @nx δ2 eb hb =>
          obtain ⟨k, hk, hI2⟩ := hb
          obtain ⟨n, hn, hw⟩ := ih k hk _ hI2
          have this : whileN t b (n + 1) δ = whileN t b n δ2 := by rw [whileN, e]; dsimp only; rw [eb]
          exact ⟨n + 1, by rw [this]; exact hn, wS.at this hw⟩
        | @ct δ2 eb hb =>
          obtain ⟨k, hk, hI2⟩ := hb
          obtain ⟨n, hn, hw⟩ := ih k hk _ hI2
          have this : whileN t b (n + 1) δ = whileN t b n δ2 := by rw [whileN, e]; dsimp only; rw [eb]
          exact ⟨n + 1, by rw [this]; exact hn, wS.at this hw⟩
        | @bk δ2 eb hb =>
          have this : whileN t b 1 δ = .nx δ2 := by rw [whileN, e]; dsimp only; rw [eb]
          exact ⟨1, by rw [this]; exact (fun z => nomatch z), .nx this hb⟩
        | @rt d2 δ2 eb hb =>
          have this : whileN t b 1 δ = .rt d2 δ2 := by rw [whileN, e]; dsimp only; rw [eb]
          exact ⟨1, by rw [this]; exact (fun z => nomatch z), .rt this hb⟩
  obtain ⟨n, hn, hw⟩ := key m δ h0
  exact wS.at (sWhile_eq n rfl hn) hw
/-! ### comprehensions -/
theorem w_lcLoop {gt : D → Env → Option Env} {vs : List Nat} (I : Nat → List D → Env → Prop) : ∀ (items : List D) (k : Nat) (acc : List D) (δ : Env), I k acc δ →
    (∀ j d acc δ, items[j]? = some d → I (k + j) acc δ → ∃ δ1, gt d (wipeE δ vs) = some δ1 ∧ wp t δ1 fun b δ2 => (b = true → wp fe δ2 fun y δ3 => I (k + j + 1) (acc ++ [y]) (wipeE δ3 vs)) ∧ (b = false → I (k + j + 1) acc (wipeE δ2 vs))) →
    wp (lcLoop gt t fe vs items) δ fun ys δ' => I (k + items.length) (acc ++ ys) δ'
  | [], k, acc, δ, h, _ => ⟨[], δ, rfl, by rw [List.append_nil]; exact h⟩
  | d :: ds, k, acc, δ, h, step => by
    obtain ⟨δ1, e1, b, δ2, e2, h1, h2⟩ := step 0 d acc δ rfl h
    have rec_ : ∀ acc δ, I (k + 1) acc δ → wp (lcLoop gt t fe vs ds) δ fun ys δ' => I (k + 1 + ds.length) (acc ++ ys) δ' := fun acc δ hI => w_lcLoop I ds (k + 1) acc δ hI fun j d acc δ hj hI => by
      have := step (j + 1) d acc δ hj (by rw [show k + (j + 1) = k + 1 + j by omega]; exact hI)
      rw [show k + (j + 1) + 1 = k + 1 + j + 1 by omega] at this
      exact this
    have ek : k + (d :: ds).length = k + 1 + ds.length := by rw [List.length_cons]; omega
    rw [ek]
    cases b with
    | true =>
      obtain ⟨y, δ3, e3, hI⟩ := h1 rfl
      obtain ⟨ys, δ4, e4, hI2⟩ := rec_ _ _ hI
      refine ⟨y :: ys, δ4, ?_, by rw [List.append_assoc] at hI2; exact hI2⟩
      rw [lcLoop, e1]; dsimp only
      rw [e2, R.bind_ok, if_pos rfl, e3, R.bind_ok, e4, R.bind_ok]
    | false =>
      obtain ⟨ys, δ4, e4, hI2⟩ := rec_ _ _ (h2 rfl)
      refine ⟨ys, δ4, ?_, hI2⟩
      rw [lcLoop, e1]; dsimp only
      rw [e2, R.bind_ok, if_neg (by decide), e4]
theorem w_lc {gt : D → Env → Option Env} {vs : List Nat} {Q : D → Env → Prop} (h : wp fl δ fun items δ1 => items.length ≤ 16000000 ∧ ∃ I : Nat → List D → Env → Prop, I 0 [] (wipeE δ1 vs) ∧
    (∀ j d acc δ, items[j]? = some d → I j acc δ → ∃ δ1, gt d (wipeE δ vs) = some δ1 ∧ wp t δ1 fun b δ2 => (b = true → wp fe δ2 fun y δ3 => I (j + 1) (acc ++ [y]) (wipeE δ3 vs)) ∧ (b = false → I (j + 1) acc (wipeE δ2 vs))) ∧
    (∀ acc δ2, I items.length acc δ2 → acc.length ≤ 16000000 ∧ δ2.length = δ1.length ∧ Q (.lst acc) (restE δ1 δ2 vs))) : wp (dLc fl gt t fe vs) δ Q := by
  obtain ⟨items, δ1, e, hz, I, h0, h1, h2⟩ := h
  obtain ⟨ys, δ2, e2, hI⟩ := w_lcLoop (gt := gt) (t := t) (fe := fe) (vs := vs) I items 0 [] (wipeE δ1 vs) h0 fun j d acc δ hj hI => by
    rw [Nat.zero_add] at hI ⊢
    exact h1 j d acc δ hj hI
  rw [Nat.zero_add, List.nil_append] at hI
  obtain ⟨hy, hl, q⟩ := h2 _ _ hI
  exact ⟨_, _, by unfold dLc; rw [e, R.bind_ok, e2, R.bind_ok, if_pos ⟨hy, hl⟩], q⟩
/-- the items are these -/
structure Its (a b : List D) : Prop where
  h : a = b
/-- one that leaves the slots as they are, over a known list -/
theorem w_lcM {β : Type} {gt : D → Env → Option Env} {vs : List Nat} {Q : D → Env → Prop} (L : List β) (enc : β → D) (p : β → Bool) (F : β → D) (h : wp fl δ fun items δ1 => Its items (L.map enc) ∧ L.length ≤ 16000000 ∧ ∃ δw, wipeE δ1 vs = δw ∧ wipeE δw vs = δw ∧ δw.length = δ1.length ∧
    (∀ x ∈ L, ∃ δd, gt (enc x) δw = some δd ∧ wipeE δd vs = δw ∧ wp t δd fun b δ2 => b = p x ∧ δ2 = δd ∧ (p x = true → wp fe δd fun y δ3 => y = F x ∧ δ3 = δd)) ∧ ∃ δr, restE δ1 δw vs = δr ∧ Q (.lst ((L.filter p).map F)) δr) : wp (dLc fl gt t fe vs) δ Q := by
  obtain ⟨items, δ1, e, ⟨rfl⟩, hl, δw, hw, hww, hlen, h1, δr, hr, q⟩ := h
  refine w_lc ⟨L.map enc, δ1, e, by rw [List.length_map]; exact hl, fun k acc δ => δ = δw ∧ acc = ((L.take k).filter p).map F, ⟨hw, by simp⟩, fun j d acc δ hj hI => ?_, fun acc δ2 hI => ?_⟩
  · obtain ⟨rfl, rfl⟩ := hI
    rw [List.getElem?_map] at hj
    cases q : L[j]? with
    | none => rw [q] at hj; cases hj
    | some x =>
      rw [q] at hj
      cases hj
      have hx : x ∈ L := List.mem_of_getElem? q
      obtain ⟨δd, g1, g2, b, δ2, e2, rfl, rfl, h2⟩ := h1 x hx
      have tk : L.take (j + 1) = L.take j ++ [x] := by rw [List.take_succ, q]; rfl
      refine ⟨δ2, by rw [hww]; exact g1, p x, δ2, e2, fun hp => ?_, fun hp => ?_⟩
      · obtain ⟨y, δ3, e3, rfl, rfl⟩ := h2 hp
        exact ⟨F x, _, e3, g2, by rw [tk, List.filter_append, List.map_append, List.filter_cons, if_pos hp]; rfl⟩
      · exact ⟨g2, by rw [tk, List.filter_append, List.map_append, List.filter_cons, if_neg (by rw [hp]; decide)]; simp⟩
  · obtain ⟨rfl, rfl⟩ := hI
    simp only [List.length_map, List.take_length]
    refine ⟨?_, hlen, by rw [hr]; exact q⟩
    exact Nat.le_trans (List.length_filter_le _ _) hl
/-- one that leaves the slots as they are -/
theorem w_lcP {Q : D → Env → Prop} (h : wp fl δ fun items δ1 => (∃ s0, δ1[i]? = some s0 ∧ (s0 = .emp ∨ ∃ d, s0 = .p d)) ∧ items.length ≤ 16000000 ∧ ∃ (p : D → Bool) (F : D → D),
    (∀ d ∈ items, wp t (δ1.set i (.p d)) fun b δ2 => (b = p d ∧ δ2 = δ1.set i (.p d)) ∧ (p d = true → wp fe (δ1.set i (.p d)) fun y δ3 => y = F d ∧ δ3 = δ1.set i (.p d))) ∧ Q (.lst ((items.filter p).map F)) δ1) : wp (dLc fl (tgN i) t fe [i]) δ Q := by
  obtain ⟨items, δ1, e, ⟨s0, hi, hs⟩, hl, p, F, h1, q⟩ := h
  have := dLc_pure (fi := fun _ => .ok items δ1) (t := t) (e := fe) (i := i) (δ := δ1) (items := items) rfl s0 hi hs p F hl fun d hd => by
    obtain ⟨b, δ2, e1, ⟨rfl, rfl⟩, h2⟩ := h1 d hd
    exact ⟨e1, fun hp => (h2 hp).eq⟩
  refine ⟨_, _, ?_, q⟩
  rw [← this]
  unfold dLc
  rw [e]
end
/-! ### whole defs -/
theorem wm_of {b : Env → SRes} {n : Nat} {ds : List D} {Q : D → Prop} (h : wS b (mkEnv none ds .emp n) (fun _ => Q .non) (fun d _ => Q d) noE noE) : ∃ d, mirD (fnMir none b n) ds = some d ∧ Q d := by
  unfold mirD fnMir
  cases h with
  | nx e q => rw [e]; exact ⟨_, rfl, q⟩
  | rt e q => rw [e]; exact ⟨_, rfl, q⟩
  | bk e q => exact q.elim
  | ct e q => exact q.elim
theorem wm_eq {b : Env → SRes} {n : Nat} {ds : List D} {d : D} (h : wS b (mkEnv none ds .emp n) (fun _ => D.non = d) (fun x _ => x = d) noE noE) : mirD (fnMir none b n) ds = some d := by
  obtain ⟨z, e, rfl⟩ := wm_of (Q := fun x => x = d) h
  exact e
/-- with the state in slot 0 -/
theorem ws_of {b : Env → SRes} {n : Nat} {ds : List D} {S : LSt} {Q : D → LSt → Prop} (h : wS b (mkEnv (some 0) ds (.st S) n) (fun δ => ∃ S', δ[0]? = some (.st S') ∧ Q .non S') (fun d δ => ∃ S', δ[0]? = some (.st S') ∧ Q d S') noE noE) : ∃ d S', fnMir (some 0) b n ds (.st S) = some (.p d, .st S') ∧ Q d S' := by
  unfold fnMir
  cases h with
  | nx e q => obtain ⟨S', e2, q⟩ := q; rw [e]; exact ⟨.non, S', by dsimp only [ioOut]; rw [e2]; rfl, q⟩
  | rt e q => obtain ⟨S', e2, q⟩ := q; rw [e]; exact ⟨_, S', by dsimp only [ioOut]; rw [e2]; rfl, q⟩
  | bk e q => exact q.elim
  | ct e q => exact q.elim
theorem mir_s {M : Mir} {ds : List D} {d : D} (h : mirD M ds = some d) : ∃ s', M ds .emp = some (.p d, s') := mirD_inv h
theorem mir_e {b : Env → SRes} {n : Nat} {ds : List D} {d : D} (h : mirD (fnMir none b n) ds = some d) : fnMir none b n ds .emp = some (.p d, .emp) := by
  unfold mirD fnMir at h
  unfold fnMir
  cases e : b (mkEnv none ds .emp n) with
  | nx δ' => rw [e] at h; cases h; rfl
  | rt d δ' => rw [e] at h; cases h; rfl
  | bk δ' => rw [e] at h; cases h
  | ct δ' => rw [e] at h; cases h
  | bad => rw [e] at h; cases h
/-! ### closers -/
section
variable {α : Type} {δ : Env} {Q : D → Env → Prop} {x y z : D} {l : List D} {P : D → Prop}
theorem k_ix (h : gIx x y = some z) (q : P z) : ∃ z, gIx x y = some z ∧ P z := ⟨z, h, q⟩
theorem k_add (h : gAdd x y = some z) (q : P z) : ∃ z, gAdd x y = some z ∧ P z := ⟨z, h, q⟩
theorem k_sub (h : PV.gSub x y = some z) (q : P z) : ∃ z, PV.gSub x y = some z ∧ P z := ⟨z, h, q⟩
theorem k_mul (h : gMul x y = some z) (q : P z) : ∃ z, gMul x y = some z ∧ P z := ⟨z, h, q⟩
theorem k_div (h : gDiv x y = some z) (q : P z) : ∃ z, gDiv x y = some z ∧ P z := ⟨z, h, q⟩
theorem k_mod (h : gMod x y = some z) (q : P z) : ∃ z, gMod x y = some z ∧ P z := ⟨z, h, q⟩
theorem k_min (h : gMin l = some z) (q : P z) : ∃ z, gMin l = some z ∧ P z := ⟨z, h, q⟩
theorem k_max (h : gMax l = some z) (q : P z) : ∃ z, gMax l = some z ∧ P z := ⟨z, h, q⟩
theorem k_abs (h : gAbs l = some z) (q : P z) : ∃ z, gAbs l = some z ∧ P z := ⟨z, h, q⟩
theorem k_gint (h : gInt l = some z) (q : P z) : ∃ z, gInt l = some z ∧ P z := ⟨z, h, q⟩
theorem k_pow (h : gPow x y = some z) (q : P z) : ∃ z, gPow x y = some z ∧ P z := ⟨z, h, q⟩
theorem k_neg (h : gNeg x = some z) (q : P z) : ∃ z, gNeg x = some z ∧ P z := ⟨z, h, q⟩
theorem k_cmp {f : Int → Int → Bool} (h : gCmp f x y = some z) (q : P z) : ∃ z, gCmp f x y = some z ∧ P z := ⟨z, h, q⟩
theorem k_eq {n : Bool} (h : gEq n x y = some z) (q : P z) : ∃ z, gEq n x y = some z ∧ P z := ⟨z, h, q⟩
theorem k_len (h : gLen l = some z) (q : P z) : ∃ z, gLen l = some z ∧ P z := ⟨z, h, q⟩
theorem k_is {n : Bool} (h : gIs n x y = some z) (q : P z) : ∃ z, gIs n x y = some z ∧ P z := ⟨z, h, q⟩
theorem k_fld {f : Str} {ks : List Str} (h : fldOf f ks l = some z) (q : P z) : ∃ z, fldOf f ks l = some z ∧ P z := ⟨z, h, q⟩
theorem k_lst {m : List D} {P : List D → Prop} (h : gLstOf x = some m) (q : P m) : ∃ m, gLstOf x = some m ∧ P m := ⟨m, h, q⟩
theorem k_tru {b : Bool} {P : Bool → Prop} (h : x.tru = some b) (q : P b) : ∃ b, x.tru = some b ∧ P b := ⟨b, h, q⟩
theorem k_bl {b : Bool} {P : Bool → Prop} (q : P b) : ∃ c, D.bl b = .bl c ∧ P c := ⟨b, rfl, q⟩
theorem k_int {b : Int} {P : Int → Prop} (q : P b) : ∃ c, D.int b = .int c ∧ P c := ⟨b, rfl, q⟩
theorem k_tup {P : List D → Prop} (q : P l) : ∃ m, D.tup l = .tup m ∧ P m := ⟨l, rfl, q⟩
theorem k_obj {s : Str} {ks : List Str} {P : List Str → List D → Prop} (q : P ks l) : ∃ ks' l', D.obj s ks l = .obj s ks' l' ∧ P ks' l' := ⟨ks, l, rfl, q⟩
theorem k_and {a b : Prop} (ha : a) (hb : b) : a ∧ b := ⟨ha, hb⟩
theorem k_get {s t : Sl} {P : Sl → Prop} {i : Nat} (h : δ[i]? = some s) (q : P s) : ∃ s, δ[i]? = some s ∧ P s := ⟨s, h, q⟩
theorem k_st {S : LSt} {P : LSt → Prop} {i : Nat} (h : δ[i]? = some (.st S)) (q : P S) : ∃ S, δ[i]? = some (.st S) ∧ P S := ⟨S, h, q⟩
theorem k_pick {ix : List Nat} {m : List D} {P : List D → Prop} (h : pick ix l = m) (q : P m) : ∃ m, pick ix l = m ∧ P m := ⟨m, h, q⟩
theorem k_set {i : Nat} {s : Sl} {m : Env} {P : Env → Prop} (h : δ.set i s = m) (q : P m) : ∃ m, δ.set i s = m ∧ P m := ⟨m, h, q⟩
theorem k_ml {m : List D} {P : List D → Prop} {i : Nat} (h : δ[i]? = some (.ml m)) (q : P m) : ∃ m, δ[i]? = some (.ml m) ∧ P m := ⟨m, h, q⟩
theorem k_env {g : Option Env} {P : Env → Prop} {δ2 : Env} (h : g = some δ2) (q : P δ2) : ∃ δ2, g = some δ2 ∧ P δ2 := ⟨δ2, h, q⟩
theorem b_t {b : Bool} {A B : Prop} (h : b = true) (q : A) : (b = true → A) ∧ (b = false → B) := ⟨fun _ => q, fun e => by rw [h] at e; cases e⟩
theorem b_f {b : Bool} {A B : Prop} (h : b = false) (q : B) : (b = true → A) ∧ (b = false → B) := ⟨fun e => (by rw [h] at e; cases e), fun _ => q⟩
theorem nt_f {p : Prop} [Decidable p] (h : p) : (!decide p) = false := by rw [decide_eq_true h]; rfl
theorem nt_t {p : Prop} [Decidable p] (h : ¬ p) : (!decide p) = true := by rw [decide_eq_false h]; rfl
/-- two ways -/
theorem b_or {b : Bool} {A B : Prop} (ht : b = true → A) (hf : b = false → B) : (b = true → A) ∧ (b = false → B) := ⟨ht, hf⟩
end
end PV

namespace PV
open PySem PySem.Spec PyProof.Rows L2
/-! ## sorted(whole numbers) -/
def insI (x : Int) : List Int → List Int
  | [] => [x]
  | y :: r => if x ≤ y then x :: y :: r else y :: insI x r
def sortI : List Int → List Int
  | [] => []
  | x :: r => insI x (sortI r)
theorem insI_perm (x : Int) : ∀ l, (insI x l).Perm (x :: l)
  | [] => .refl _
  | y :: r => by
    unfold insI
    split
    · exact .refl _
    · exact ((insI_perm x r).cons y).trans (List.Perm.swap x y r)
theorem sortI_perm : ∀ l, (sortI l).Perm l
  | [] => .refl _
  | x :: r => (insI_perm x (sortI r)).trans ((sortI_perm r).cons x)
theorem insI_sorted (x : Int) : ∀ l : List Int, l.Pairwise (· ≤ ·) → (insI x l).Pairwise (· ≤ ·)
  | [], _ => List.pairwise_singleton _ _
  | y :: r, h => by
    unfold insI
    have h1 := List.pairwise_cons.mp h
    split
    · rename_i hxy
      refine List.pairwise_cons.mpr ⟨fun z hz => ?_, h⟩
      rcases List.mem_cons.mp hz with rfl | hz
      · exact hxy
      · exact Int.le_trans hxy (h1.1 z hz)
    · rename_i hxy
      refine List.pairwise_cons.mpr ⟨fun z hz => ?_, insI_sorted x r h1.2⟩
      rcases List.mem_cons.mp ((insI_perm x r).mem_iff.mp hz) with rfl | hz
      · omega
      · exact h1.1 z hz
theorem sortI_sorted : ∀ l, (sortI l).Pairwise (· ≤ ·)
  | [] => .nil
  | x :: r => insI_sorted x _ (sortI_sorted r)
theorem sorted_uniq : ∀ {a b : List Int}, a.Perm b → a.Pairwise (· ≤ ·) → b.Pairwise (· ≤ ·) → a = b
  | [], b, p, _, _ => (List.Perm.nil_eq p)
  | x :: r, b, p, ha, hb => by
    cases b with
    | nil => exact absurd p.length_eq (by simp)
    | cons y t =>
      have ha1 := List.pairwise_cons.mp ha
      have hb1 := List.pairwise_cons.mp hb
      have e : x = y := by
        have m1 : x ∈ y :: t := p.mem_iff.mp List.mem_cons_self
        have m2 : y ∈ x :: r := p.mem_iff.mpr List.mem_cons_self
        rcases List.mem_cons.mp m1 with h | h
        · exact h
        · rcases List.mem_cons.mp m2 with h2 | h2
          · exact h2.symm
          · exact Int.le_antisymm (ha1.1 y h2) (hb1.1 x h)
      subst e
      rw [sorted_uniq ((List.perm_cons x).mp p) ha1.2 hb1.2]
theorem sortI_eq {a l : List Int} (p : a.Perm l) (h : a.Pairwise (· ≤ ·)) : a = sortI l := sorted_uniq (p.trans (sortI_perm l).symm) h (sortI_sorted l)
def gSortI : List D → Option D
  | [.lst l] => (D.ints l).map fun ns => .lst ((sortI ns).map .int)
  | _ => none
theorem bt_sorted : bootBuiltins "sorted" = some (.builtin "sorted") := by kernel_rfl
theorem cd_sortI {K : PySem.W.Frag} : CallD K (rSortedI K) gSortI := by
  intro c F ow H σ δ xs vs z Q w r e g
  unfold gSortI at e
  split at e
  · rename_i l
    cases q : D.ints l with
    | none => rw [q] at e; cases e
    | some ns =>
      rw [q] at e; cases e
      cases r with
      | cons a b =>
        cases b
        obtain ⟨p, us, rfl, hp, _, r1⟩ := a.lst_inv
        refine ⟨p, ns, rfl, (ints_reps q r1) ▸ SqL.of hp, fun ns' p2 pm st hn => ?_⟩
        have := sortI_eq pm st
        subst this
        exact new_lst w Reps.ints g p2 hn
  · cases e
/-! ## zip(xs, ys) -/
def zipD (a b : List D) : List D := (List.range (min a.length b.length)).map fun i => .tup [a.getD i .non, b.getD i .non]
theorem itd_zip {K : PySem.W.Frag} {F : Addr → Prop} {H : Hp} {a b : Addr} {vs us : List V} {ds es : List D} (sq : ∀ F' H', Ext F H F' H' → SqL K H' a vs) (sq2 : ∀ F' H', Ext F H F' H' → SqL K H' b us) (r : Reps K F H vs ds) (r2 : Reps K F H us es) : ItD K (Itz K a b) F H (zipD ds es) where
  go := fun F' H' i e hi => by
    have hi' : i < min ds.length es.length := by simpa [zipD] using hi
    have l1 := r.length
    have l2 := r2.length
    exact ⟨vs, us, vs[i]'(by omega), us[i]'(by omega), sq F' H' e, sq2 F' H' e, List.getElem?_eq_getElem _, List.getElem?_eq_getElem _⟩
  yld := fun F' H' i v H2 e hi ⟨T, x, y, ev, hT, eH, hx, hy⟩ => by
    have hi' : i < min ds.length es.length := by simpa [zipD] using hi
    have hv := hx vs (sq F' H' e)
    have hu := hy us (sq2 F' H' e)
    obtain ⟨d, hd, rd⟩ := r.getV hv
    obtain ⟨d2, hd2, rd2⟩ := r2.getV hu
    refine ⟨.tup [d, d2], ?_, .inr ⟨T, _, ev, hT, eH, ?_⟩⟩
    · unfold zipD; rw [List.getElem?_map, List.getElem?_range hi', Option.map_some, List.getD_eq_getElem?_getD, List.getD_eq_getElem?_getD, hd, hd2]; rfl
    · subst ev; subst eH
      have e2 : Ext F' H' (fun a => F' a ∨ a = T) (upd H' T (.tup [x, y])) := ⟨fun _ f => .inl f, fun b o f q => by rw [upd_ne (ne_of_none q hT)]; exact q⟩
      exact .tup (.inr rfl) upd_same (.cons (rd.mono (e.trans e2)) (.cons (rd2.mono (e.trans e2)) .nil))
  stop := fun F' H' i e hi => ⟨vs, us, sq F' H' e, sq2 F' H' e, by
    have l1 := r.length
    have l2 := r2.length
    have : min ds.length es.length ≤ i := by simpa [zipD] using hi
    omega⟩
section
variable {X : Cx} {c : FC} {e e2 : Expr} {fe fe2 : Env → R D} {p pos tpos : Pos} {elts : List Expr} {kk : Nat}
def iZip (f g : Env → R D) (δ : Env) : R (List D) := (f δ).bind fun x δ1 => (g δ1).bind fun y δ2 => match x, y with
  | .lst a, .lst b => .ok (zipD a b) δ2
  | _, _ => .bad
theorem di_zip (hg : Gl X "zip") (hm : X.mg "zip" = none) (he : DE X c e fe) (he2 : DE X c e2 fe2) (hs : starEach [e, e2] X.env = (false, eval e X.env) :: starEach [e2] X.env := by rfl) (hs2 : starEach [e2] X.env = (false, eval e2 X.env) :: starEach [] X.env := by rfl) (hpl : (backTo pos (starEach [e2] X.env)).any (·.1) = false := by rfl) :
    DI X c (.Tuple elts kk tpos) (.Call (.Name "zip" p) [e, e2] [] pos) (iZip fe fe2) :=
  PI.imp (pi_zip hg hm (pa_cons he (pa_cons he2 pa_nil hs2) hs) hs hpl) fun σ H Q ⟨F, ow, δ, w, g⟩ => ⟨F, ow, δ, w, by
    unfold iZip at g
    cases q : fe δ with
    | bad => rw [q] at g; exact g
    | ok d δ1 =>
      rw [q, R.bind_ok] at g
      intro F' ow' H' v ex w' r
      refine ⟨F', ow', δ1, w', ?_⟩
      cases q2 : fe2 δ1 with
      | bad => rw [q2] at g; exact g
      | ok d2 δ2 =>
        rw [q2, R.bind_ok] at g
        intro F2 ow2 H2 v2 ex2 w2 r2
        cases d with
        | lst la =>
          cases d2 with
          | lst lb =>
            obtain ⟨a, vs, rfl, h, fa, rs⟩ := r.lst_inv
            obtain ⟨b, us, rfl, h2, fb, rs2⟩ := r2.lst_inv
            exact ⟨a, b, vs, us, rfl, SqL.of (ex2.kp _ _ fa h), SqL.of h2, g F2 ow2 H2 _ (ex.trans ex2) w2 (itd_zip (fun F3 H3 e3 => SqL.of (e3.kp _ _ (ex2.sub _ fa) (ex2.kp _ _ fa h))) (fun F3 H3 e3 => SqL.of (e3.kp _ _ fb h2)) (rs.mono ex2) rs2)⟩
          | _ => exact g.elim
        | _ => exact g.elim⟩
end
/-! ## xs.count(True) -/
def rCntB (K : PySem.W.Frag) : V → List V → Hp → VK → Prop := fun x xs H Q => ∃ (p : Addr) (bs : List Bool) (k : Bool), x = .ref p ∧ xs = [.bl k] ∧ SqL K H p (bs.map V.bl) ∧ Q (.int (bs.count k : Nat)) H
theorem mt_lcountB {X : Cx} : MtR X "list.count" (rCntB X.K) := by
  intro pins s σ H x xs v us Q I rx rxs h
  obtain ⟨p, bs, k, rfl, rfl, hs, q⟩ := h
  cases rx
  obtain ⟨u, rfl, ru⟩ := rxs.one
  cases ru
  obtain ⟨its, rv, ⟨⟨cls, dd, data, sl⟩, n, ho, hc, hdn, hd⟩, hlen⟩ := I.list hs
  simp only at hc hd
  subst hc hd
  have key : ∀ {bs : List Bool} {its : List Value}, Vals (bs.map V.bl) its → its = bs.map Value.bool := by
    intro bs
    induction bs with
    | nil => intro its r; cases r; rfl
    | cons b bs ih => intro its r; cases r with | cons a r => cases a; rw [ih r]; rfl
  have ei := key rv
  subst ei
  refine call_meets PySem.F.slot_list_count ⟨_, ho, rfl⟩ PySem.F.entry_list_count (PySem.F.args_list_count_2 _ _)
    (SeqAt.list_countAt p (bs.map Value.bool).toArray n dd sl (.bool k) (isBoolOf k)) ⟨ho, fun y hy => ?_, ?_⟩
  · have hy' : y ∈ bs.map Value.bool := by simpa using hy
    obtain ⟨b, _, rfl⟩ := List.mem_map.mp hy'
    exact PySem.SeqAt.EqAt.bool_bool b k
  have ec : (bs.map Value.bool).toArray.toList.countP (isBoolOf k) = bs.count k := by
    show (bs.map Value.bool).countP (isBoolOf k) = bs.count k
    rw [List.countP_map]; rfl
  refine ⟨.int (bs.count k : Nat), H, I.tok _, ⟨s.toks, ?_⟩, q⟩
  show Value.int (((bs.map Value.bool).toArray.toList.countP (isBoolOf k) : Nat) : Int) s.toks = Value.int ((bs.count k : Nat) : Int) s.toks
  rw [ec]
def dCntB (f g : Env → R D) (δ : Env) : R D := (f δ).bind fun x δ1 => (g δ1).bind fun y δ2 => match x, y with
  | .lst l, .bl k => (match D.bls l with
    | some bs => .ok (.int (bs.count k : Nat)) δ2
    | none => .bad)
  | _, _ => .bad
section
variable {X : Cx} {c : FC} {o e : Expr} {fo fe : Env → R D} {apos pos : Pos}
theorem tyV_lst {K : PySem.W.Frag} {H : Hp} {p : Addr} {vs : List V} (h : H p = some (.lst vs)) : tyV K "list" (.ref p) H := .inl ⟨rfl, _, SqL.of h⟩
theorem de_cntB (ho : DE X c o fo) (he : DE X c e fe) (hs : starEach [e] X.env = (false, eval e X.env) :: starEach [] X.env := by rfl) (hbase : attributeBase o "count" X.env (eval o X.env) = eval o X.env := by rfl)
    (hfew : ((backTo pos (starEach [e] X.env)).all (fun x => !x.1) && (backToKw pos (keywordEach [] X.env)).all (fun x => x.1.isSome)
      && decide ([e].length + ([] : List Keyword).length + (if ([] : List Keyword).isEmpty then 0 else 1) < 30)) = true := by rfl)
    (hline : (apos.endLine == pos.line) = true := by rfl) (hplain : (backTo pos (starEach [] X.env)).any (·.1) = false := by rfl) :
    DE X c (.Call (.Attribute o "count" apos) [e] [] pos) (dCntB fo fe) :=
  PE.imp (pe_bm PySem.F.plainAttrs_list PySem.F.slot_list_count PySem.F.type_list_count mt_lcountB ho (pa_cons he pa_nil hs) hbase hfew hline hs hplain) fun σ H Q ⟨F, ow, δ, w, g⟩ => ⟨F, ow, δ, w, by
    unfold dCntB at g
    refine Go.imp (fun v H1 h1 => ?_) (Go.bind (rep := Rep X.K) g)
    obtain ⟨F1, ow1, x, δ1, e1, w1, r1, _, g2⟩ := h1
    cases q : fe δ1 with
    | bad => rw [q] at g2; exact g2.elim
    | ok y δ2 =>
      have g2' := g2
      rw [q, R.bind_ok] at g2'
      cases x with
      | lst l =>
        obtain ⟨p, us, rfl, hp, fp, r3⟩ := r1.lst_inv
        refine ⟨tyV_lst hp, F1, ow1, δ1, w1, Go.imp (fun u H2 h2 => ?_) (Go.bind (rep := Rep X.K) g2)⟩
        obtain ⟨F2, ow2, y2, δ3, e2, w2, r2, q3, g3⟩ := h2
        rw [q] at q3
        cases q3
        cases y with
        | bl k =>
          dsimp only at g3
          cases q5 : D.bls l with
          | none => rw [q5] at g3; exact g3.elim
          | some bs =>
            rw [q5] at g3
            cases r2
            exact ⟨p, bs, k, rfl, rfl, (Reps.of_bls q5 r3) ▸ SqL.of (e2.kp _ _ fp hp), go_val w2 (.int _) g3⟩
        | _ => exact g3.elim
      | _ => exact g2'.elim⟩
end
end PV

namespace K10
open PySem PySem.Spec PyProof.Rows L2 PV
def top (i : Nat) : Stmt := PySem.Challenge.pw_clockfolds_k10_whole_counts_add_up.main.body.getD i (.Pass ⟨0, 0, 0, 0⟩)
abbrev s__law_begun : Stmt := top 29
abbrev s__law_mixed : Stmt := top 30
abbrev s__law_take : Stmt := top 31
abbrev s__law_truths : Stmt := top 33
abbrev s__law_set : Stmt := top 34
abbrev s_are_truths : Stmt := top 25
abbrev s_bits_of : Stmt := top 13
abbrev s_prime_divisors : Stmt := top 16
abbrev s_mask : Stmt := top 12
abbrev s_repeat : Stmt := top 15
abbrev s_shortest : Stmt := top 17
abbrev s_canonical : Stmt := top 18
abbrev s_DaySet___init__ : Stmt := inClass (top 27) 0
abbrev s_DaySet_pattern : Stmt := inClass (top 27) 5
abbrev s__law_pattern : Stmt := top 35
abbrev s_is_number : Stmt := top 7
abbrev s_need_number : Stmt := top 26
abbrev s_ones : Stmt := top 9
abbrev s_number_before : Stmt := top 22
abbrev s_DaySet_how_many : Stmt := inClass (top 27) 21
abbrev s_greatest_divisor : Stmt := top 14
abbrev s_window : Stmt := top 19
abbrev s_stretched : Stmt := top 20
abbrev s_aligned : Stmt := top 21
abbrev s_DaySet___or__ : Stmt := inClass (top 27) 7
abbrev s_DaySet___and__ : Stmt := inClass (top 27) 8
abbrev s_DaySet___sub__ : Stmt := inClass (top 27) 9
abbrev s_DaySet___xor__ : Stmt := inClass (top 27) 10
abbrev s_DaySet___invert__ : Stmt := inClass (top 27) 11
abbrev s__law_sums_right : Stmt := top 36
abbrev s__law_pick : Stmt := top 32
abbrev s_lowest : Stmt := top 10
abbrev s_DaySet_next_from : Stmt := inClass (top 27) 23
abbrev s_place_of : Stmt := top 23
abbrev s_DaySet_nth : Stmt := inClass (top 27) 22
abbrev s_DaySet___contains__ : Stmt := inClass (top 27) 12
abbrev s_DaySet_last_to : Stmt := inClass (top 27) 24
abbrev s_DaySet_is_finite : Stmt := inClass (top 27) 18
abbrev s__law_back_right : Stmt := top 37
abbrev s_law : Stmt := top 38
abbrev N__law_begun : List Str := ["script", "wide", "cell"]
theorem sc__law_begun : FnScope N__law_begun ["script"] (defScope s__law_begun) := ⟨rfl, rfl, rfl, by decide +kernel, rfl, by decide +kernel, by decide +kernel⟩
abbrev N__law_mixed : List Str := ["state", "turn", "found", "prime", "blend", "cell"]
theorem sc__law_mixed : FnScope N__law_mixed ["state"] (defScope s__law_mixed) := ⟨rfl, rfl, rfl, by decide +kernel, rfl, by decide +kernel, by decide +kernel⟩
abbrev N__law_take : List Str := ["state", "size", "found"]
theorem sc__law_take : FnScope N__law_take ["state", "size"] (defScope s__law_take) := ⟨rfl, rfl, rfl, by decide +kernel, rfl, by decide +kernel, by decide +kernel⟩
abbrev N__law_truths : List Str := ["state", "size", "way", "turn"]
theorem sc__law_truths : FnScope N__law_truths ["state", "size"] (defScope s__law_truths) := ⟨rfl, rfl, rfl, by decide +kernel, rfl, by decide +kernel, by decide +kernel⟩
abbrev N__law_set : List Str := ["state", "most", "way", "cycle", "head", "at"]
theorem sc__law_set : FnScope N__law_set ["state", "most"] (defScope s__law_set) := ⟨rfl, rfl, rfl, by decide +kernel, rfl, by decide +kernel, by decide +kernel⟩
abbrev N_are_truths : List Str := ["value", "truth"]
theorem sc_are_truths : FnScope N_are_truths ["value"] (defScope s_are_truths) := ⟨rfl, rfl, rfl, by decide +kernel, rfl, by decide +kernel, by decide +kernel⟩
abbrev N_bits_of : List Str := ["numbers", "number", "there", "place", "signs"]
theorem sc_bits_of : FnScope N_bits_of ["numbers"] (defScope s_bits_of) := ⟨rfl, rfl, rfl, by decide +kernel, rfl, by decide +kernel, by decide +kernel⟩
abbrev N_prime_divisors : List Str := ["number", "found", "left", "divisor"]
theorem sc_prime_divisors : FnScope N_prime_divisors ["number"] (defScope s_prime_divisors) := ⟨rfl, rfl, rfl, by decide +kernel, rfl, by decide +kernel, by decide +kernel⟩
abbrev N_mask : List Str := ["size"]
theorem sc_mask : FnScope N_mask ["size"] (defScope s_mask) := ⟨rfl, rfl, rfl, by decide +kernel, rfl, by decide +kernel, by decide +kernel⟩
abbrev N_repeat : List Str := ["bits", "size", "times", "found", "have", "more"]
theorem sc_repeat : FnScope N_repeat ["bits", "size", "times"] (defScope s_repeat) := ⟨rfl, rfl, rfl, by decide +kernel, rfl, by decide +kernel, by decide +kernel⟩
abbrev N_shortest : List Str := ["period", "cycle", "divisor", "size"]
theorem sc_shortest : FnScope N_shortest ["period", "cycle"] (defScope s_shortest) := ⟨rfl, rfl, rfl, by decide +kernel, rfl, by decide +kernel, by decide +kernel⟩
abbrev N_canonical : List Str := ["start", "period", "head", "cycle", "known", "unlike", "first"]
theorem sc_canonical : FnScope N_canonical ["start", "period", "head", "cycle"] (defScope s_canonical) := ⟨rfl, rfl, rfl, by decide +kernel, rfl, by decide +kernel, by decide +kernel⟩
abbrev N_DaySet___init__ : List Str := ["self", "start", "period", "head", "cycle"]
theorem sc_DaySet___init__ : FnScope N_DaySet___init__ ["self", "start", "period", "head", "cycle"] (defScope s_DaySet___init__) := ⟨rfl, rfl, rfl, by decide +kernel, rfl, by decide +kernel, by decide +kernel⟩
abbrev N_DaySet_pattern : List Str := ["cls", "head", "cycle", "place", "truth", "first", "then"]
theorem sc_DaySet_pattern : FnScope N_DaySet_pattern ["cls", "head", "cycle"] (defScope s_DaySet_pattern) := ⟨rfl, rfl, rfl, by decide +kernel, rfl, by decide +kernel, by decide +kernel⟩
abbrev N__law_pattern : List Str := ["model"]
theorem sc__law_pattern : FnScope N__law_pattern ["model"] (defScope s__law_pattern) := ⟨rfl, rfl, rfl, by decide +kernel, rfl, by decide +kernel, by decide +kernel⟩
abbrev N_is_number : List Str := ["value"]
theorem sc_is_number : FnScope N_is_number ["value"] (defScope s_is_number) := ⟨rfl, rfl, rfl, by decide +kernel, rfl, by decide +kernel, by decide +kernel⟩
abbrev N_need_number : List Str := ["value", "least"]
theorem sc_need_number : FnScope N_need_number ["value", "least"] (defScope s_need_number) := ⟨rfl, rfl, rfl, by decide +kernel, rfl, by decide +kernel, by decide +kernel⟩
abbrev N_ones : List Str := ["bits"]
theorem sc_ones : FnScope N_ones ["bits"] (defScope s_ones) := ⟨rfl, rfl, rfl, by decide +kernel, rfl, by decide +kernel, by decide +kernel⟩
abbrev N_number_before : List Str := ["form", "day", "start", "period", "head", "cycle", "times", "rest"]
theorem sc_number_before : FnScope N_number_before ["form", "day"] (defScope s_number_before) := ⟨rfl, rfl, rfl, by decide +kernel, rfl, by decide +kernel, by decide +kernel⟩
abbrev N_DaySet_how_many : List Str := ["self", "low", "high"]
theorem sc_DaySet_how_many : FnScope N_DaySet_how_many ["self", "low", "high"] (defScope s_DaySet_how_many) := ⟨rfl, rfl, rfl, by decide +kernel, rfl, by decide +kernel, by decide +kernel⟩
abbrev N_greatest_divisor : List Str := ["one", "other"]
theorem sc_greatest_divisor : FnScope N_greatest_divisor ["one", "other"] (defScope s_greatest_divisor) := ⟨rfl, rfl, rfl, by decide +kernel, rfl, by decide +kernel, by decide +kernel⟩
abbrev N_window : List Str := ["form", "size", "start", "period", "head", "cycle", "times"]
theorem sc_window : FnScope N_window ["form", "size"] (defScope s_window) := ⟨rfl, rfl, rfl, by decide +kernel, rfl, by decide +kernel, by decide +kernel⟩
abbrev N_stretched : List Str := ["form", "start", "period", "known"]
theorem sc_stretched : FnScope N_stretched ["form", "start", "period"] (defScope s_stretched) := ⟨rfl, rfl, rfl, by decide +kernel, rfl, by decide +kernel, by decide +kernel⟩
abbrev N_aligned : List Str := ["one", "other", "start", "period"]
theorem sc_aligned : FnScope N_aligned ["one", "other"] (defScope s_aligned) := ⟨rfl, rfl, rfl, by decide +kernel, rfl, by decide +kernel, by decide +kernel⟩
abbrev N_DaySet___or__ : List Str := ["self", "other", "start", "period", "head", "cycle", "more", "then"]
theorem sc_DaySet___or__ : FnScope N_DaySet___or__ ["self", "other"] (defScope s_DaySet___or__) := ⟨rfl, rfl, rfl, by decide +kernel, rfl, by decide +kernel, by decide +kernel⟩
abbrev N_DaySet___and__ : List Str := ["self", "other", "start", "period", "head", "cycle", "more", "then"]
theorem sc_DaySet___and__ : FnScope N_DaySet___and__ ["self", "other"] (defScope s_DaySet___and__) := ⟨rfl, rfl, rfl, by decide +kernel, rfl, by decide +kernel, by decide +kernel⟩
abbrev N_DaySet___sub__ : List Str := ["self", "other", "start", "period", "head", "cycle", "more", "then"]
theorem sc_DaySet___sub__ : FnScope N_DaySet___sub__ ["self", "other"] (defScope s_DaySet___sub__) := ⟨rfl, rfl, rfl, by decide +kernel, rfl, by decide +kernel, by decide +kernel⟩
abbrev N_DaySet___xor__ : List Str := ["self", "other", "start", "period", "head", "cycle", "more", "then"]
theorem sc_DaySet___xor__ : FnScope N_DaySet___xor__ ["self", "other"] (defScope s_DaySet___xor__) := ⟨rfl, rfl, rfl, by decide +kernel, rfl, by decide +kernel, by decide +kernel⟩
abbrev N_DaySet___invert__ : List Str := ["self", "start", "period", "head", "cycle"]
theorem sc_DaySet___invert__ : FnScope N_DaySet___invert__ ["self"] (defScope s_DaySet___invert__) := ⟨rfl, rfl, rfl, by decide +kernel, rfl, by decide +kernel, by decide +kernel⟩
abbrev N__law_sums_right : List Str := ["one", "other", "begin", "end", "a", "b", "meet", "join"]
theorem sc__law_sums_right : FnScope N__law_sums_right ["one", "other", "begin", "end"] (defScope s__law_sums_right) := ⟨rfl, rfl, rfl, by decide +kernel, rfl, by decide +kernel, by decide +kernel⟩
abbrev N__law_pick : List Str := ["state", "some"]
theorem sc__law_pick : FnScope N__law_pick ["state", "some"] (defScope s__law_pick) := ⟨rfl, rfl, rfl, by decide +kernel, rfl, by decide +kernel, by decide +kernel⟩
abbrev N_lowest : List Str := ["bits"]
theorem sc_lowest : FnScope N_lowest ["bits"] (defScope s_lowest) := ⟨rfl, rfl, rfl, by decide +kernel, rfl, by decide +kernel, by decide +kernel⟩
abbrev N_DaySet_next_from : List Str := ["self", "day", "start", "period", "head", "cycle", "rest"]
theorem sc_DaySet_next_from : FnScope N_DaySet_next_from ["self", "day"] (defScope s_DaySet_next_from) := ⟨rfl, rfl, rfl, by decide +kernel, rfl, by decide +kernel, by decide +kernel⟩
abbrev N_place_of : List Str := ["bits", "number", "low", "high", "middle"]
theorem sc_place_of : FnScope N_place_of ["bits", "number"] (defScope s_place_of) := ⟨rfl, rfl, rfl, by decide +kernel, rfl, by decide +kernel, by decide +kernel⟩
abbrev N_DaySet_nth : List Str := ["self", "number", "start", "period", "head", "cycle", "first", "times", "rest"]
theorem sc_DaySet_nth : FnScope N_DaySet_nth ["self", "number"] (defScope s_DaySet_nth) := ⟨rfl, rfl, rfl, by decide +kernel, rfl, by decide +kernel, by decide +kernel⟩
abbrev N_DaySet___contains__ : List Str := ["self", "day", "start", "period", "head", "cycle"]
theorem sc_DaySet___contains__ : FnScope N_DaySet___contains__ ["self", "day"] (defScope s_DaySet___contains__) := ⟨rfl, rfl, rfl, by decide +kernel, rfl, by decide +kernel, by decide +kernel⟩
abbrev N_DaySet_last_to : List Str := ["self", "day", "number"]
theorem sc_DaySet_last_to : FnScope N_DaySet_last_to ["self", "day"] (defScope s_DaySet_last_to) := ⟨rfl, rfl, rfl, by decide +kernel, rfl, by decide +kernel, by decide +kernel⟩
abbrev N_DaySet_is_finite : List Str := ["self"]
theorem sc_DaySet_is_finite : FnScope N_DaySet_is_finite ["self"] (defScope s_DaySet_is_finite) := ⟨rfl, rfl, rfl, by decide +kernel, rfl, by decide +kernel, by decide +kernel⟩
abbrev N__law_back_right : List Str := ["days", "day", "number", "many", "later", "near", "far"]
theorem sc__law_back_right : FnScope N__law_back_right ["days", "day", "number"] (defScope s__law_back_right) := ⟨rfl, rfl, rfl, by decide +kernel, rfl, by decide +kernel, by decide +kernel⟩
abbrev N_law : List Str := ["script", "state", "turn", "one", "other", "spots", "begin", "end", "days", "parts", "day"]
theorem sc_law : FnScope N_law ["script"] (defScope s_law) := ⟨rfl, rfl, rfl, by decide +kernel, rfl, by decide +kernel, by decide +kernel⟩
def d__law_begun : He.DefD := ⟨("_law_begun", none), "_law_begun", "_law_begun", defArgs s__law_begun, defBody s__law_begun, defScope s__law_begun, [], []⟩
def p__law_begun : PDef := ⟨fun K => He.fAd K ("_law_begun", none), d__law_begun⟩
def d__law_mixed : He.DefD := ⟨("_law_mixed", none), "_law_mixed", "_law_mixed", defArgs s__law_mixed, defBody s__law_mixed, defScope s__law_mixed, [], []⟩
def p__law_mixed : PDef := ⟨fun K => He.fAd K ("_law_mixed", none), d__law_mixed⟩
def d__law_take : He.DefD := ⟨("_law_take", none), "_law_take", "_law_take", defArgs s__law_take, defBody s__law_take, defScope s__law_take, [], []⟩
def p__law_take : PDef := ⟨fun K => He.fAd K ("_law_take", none), d__law_take⟩
def d__law_truths : He.DefD := ⟨("_law_truths", none), "_law_truths", "_law_truths", defArgs s__law_truths, defBody s__law_truths, defScope s__law_truths, [], []⟩
def p__law_truths : PDef := ⟨fun K => He.fAd K ("_law_truths", none), d__law_truths⟩
def d__law_set : He.DefD := ⟨("_law_set", none), "_law_set", "_law_set", defArgs s__law_set, defBody s__law_set, defScope s__law_set, [], []⟩
def p__law_set : PDef := ⟨fun K => He.fAd K ("_law_set", none), d__law_set⟩
def d_are_truths : He.DefD := ⟨("are_truths", none), "are_truths", "are_truths", defArgs s_are_truths, defBody s_are_truths, defScope s_are_truths, [], []⟩
def p_are_truths : PDef := ⟨fun K => He.fAd K ("are_truths", none), d_are_truths⟩
def d_bits_of : He.DefD := ⟨("bits_of", none), "bits_of", "bits_of", defArgs s_bits_of, defBody s_bits_of, defScope s_bits_of, [], []⟩
def p_bits_of : PDef := ⟨fun K => He.fAd K ("bits_of", none), d_bits_of⟩
def d_prime_divisors : He.DefD := ⟨("prime_divisors", none), "prime_divisors", "prime_divisors", defArgs s_prime_divisors, defBody s_prime_divisors, defScope s_prime_divisors, [], []⟩
def p_prime_divisors : PDef := ⟨fun K => He.fAd K ("prime_divisors", none), d_prime_divisors⟩
def d_mask : He.DefD := ⟨("mask", none), "mask", "mask", defArgs s_mask, defBody s_mask, defScope s_mask, [], []⟩
def p_mask : PDef := ⟨fun K => He.fAd K ("mask", none), d_mask⟩
def d_repeat : He.DefD := ⟨("repeat", none), "repeat", "repeat", defArgs s_repeat, defBody s_repeat, defScope s_repeat, [], []⟩
def p_repeat : PDef := ⟨fun K => He.fAd K ("repeat", none), d_repeat⟩
def d_shortest : He.DefD := ⟨("shortest", none), "shortest", "shortest", defArgs s_shortest, defBody s_shortest, defScope s_shortest, [], []⟩
def p_shortest : PDef := ⟨fun K => He.fAd K ("shortest", none), d_shortest⟩
def d_canonical : He.DefD := ⟨("canonical", none), "canonical", "canonical", defArgs s_canonical, defBody s_canonical, defScope s_canonical, [], []⟩
def p_canonical : PDef := ⟨fun K => He.fAd K ("canonical", none), d_canonical⟩
def d_DaySet___init__ : He.DefD := ⟨("DaySet", some "__init__"), "__init__", "DaySet.__init__", defArgs s_DaySet___init__, defBody s_DaySet___init__, defScope s_DaySet___init__, [], []⟩
def p_DaySet___init__ : PDef := ⟨fun K => He.fAd K ("DaySet", some "__init__"), d_DaySet___init__⟩
def d_DaySet_pattern : He.DefD := ⟨("DaySet", some "pattern"), "pattern", "DaySet.pattern", defArgs s_DaySet_pattern, defBody s_DaySet_pattern, defScope s_DaySet_pattern, [], []⟩
def p_DaySet_pattern : PDef := ⟨pAdC "DaySet" "pattern", d_DaySet_pattern⟩
def d__law_pattern : He.DefD := ⟨("_law_pattern", none), "_law_pattern", "_law_pattern", defArgs s__law_pattern, defBody s__law_pattern, defScope s__law_pattern, [], []⟩
def p__law_pattern : PDef := ⟨fun K => He.fAd K ("_law_pattern", none), d__law_pattern⟩
def d_is_number : He.DefD := ⟨("is_number", none), "is_number", "is_number", defArgs s_is_number, defBody s_is_number, defScope s_is_number, [], []⟩
def p_is_number : PDef := ⟨fun K => He.fAd K ("is_number", none), d_is_number⟩
def d_need_number : He.DefD := ⟨("need_number", none), "need_number", "need_number", defArgs s_need_number, defBody s_need_number, defScope s_need_number, [], []⟩
def p_need_number : PDef := ⟨fun K => He.fAd K ("need_number", none), d_need_number⟩
def d_ones : He.DefD := ⟨("ones", none), "ones", "ones", defArgs s_ones, defBody s_ones, defScope s_ones, [], []⟩
def p_ones : PDef := ⟨fun K => He.fAd K ("ones", none), d_ones⟩
def d_number_before : He.DefD := ⟨("number_before", none), "number_before", "number_before", defArgs s_number_before, defBody s_number_before, defScope s_number_before, [], []⟩
def p_number_before : PDef := ⟨fun K => He.fAd K ("number_before", none), d_number_before⟩
def d_DaySet_how_many : He.DefD := ⟨("DaySet", some "how_many"), "how_many", "DaySet.how_many", defArgs s_DaySet_how_many, defBody s_DaySet_how_many, defScope s_DaySet_how_many, [], []⟩
def p_DaySet_how_many : PDef := ⟨fun K => He.fAd K ("DaySet", some "how_many"), d_DaySet_how_many⟩
def d_greatest_divisor : He.DefD := ⟨("greatest_divisor", none), "greatest_divisor", "greatest_divisor", defArgs s_greatest_divisor, defBody s_greatest_divisor, defScope s_greatest_divisor, [], []⟩
def p_greatest_divisor : PDef := ⟨fun K => He.fAd K ("greatest_divisor", none), d_greatest_divisor⟩
def d_window : He.DefD := ⟨("window", none), "window", "window", defArgs s_window, defBody s_window, defScope s_window, [], []⟩
def p_window : PDef := ⟨fun K => He.fAd K ("window", none), d_window⟩
def d_stretched : He.DefD := ⟨("stretched", none), "stretched", "stretched", defArgs s_stretched, defBody s_stretched, defScope s_stretched, [], []⟩
def p_stretched : PDef := ⟨fun K => He.fAd K ("stretched", none), d_stretched⟩
def d_aligned : He.DefD := ⟨("aligned", none), "aligned", "aligned", defArgs s_aligned, defBody s_aligned, defScope s_aligned, [], []⟩
def p_aligned : PDef := ⟨fun K => He.fAd K ("aligned", none), d_aligned⟩
def d_DaySet___or__ : He.DefD := ⟨("DaySet", some "__or__"), "__or__", "DaySet.__or__", defArgs s_DaySet___or__, defBody s_DaySet___or__, defScope s_DaySet___or__, [], []⟩
def p_DaySet___or__ : PDef := ⟨fun K => He.fAd K ("DaySet", some "__or__"), d_DaySet___or__⟩
def d_DaySet___and__ : He.DefD := ⟨("DaySet", some "__and__"), "__and__", "DaySet.__and__", defArgs s_DaySet___and__, defBody s_DaySet___and__, defScope s_DaySet___and__, [], []⟩
def p_DaySet___and__ : PDef := ⟨fun K => He.fAd K ("DaySet", some "__and__"), d_DaySet___and__⟩
def d_DaySet___sub__ : He.DefD := ⟨("DaySet", some "__sub__"), "__sub__", "DaySet.__sub__", defArgs s_DaySet___sub__, defBody s_DaySet___sub__, defScope s_DaySet___sub__, [], []⟩
def p_DaySet___sub__ : PDef := ⟨fun K => He.fAd K ("DaySet", some "__sub__"), d_DaySet___sub__⟩
def d_DaySet___xor__ : He.DefD := ⟨("DaySet", some "__xor__"), "__xor__", "DaySet.__xor__", defArgs s_DaySet___xor__, defBody s_DaySet___xor__, defScope s_DaySet___xor__, [], []⟩
def p_DaySet___xor__ : PDef := ⟨fun K => He.fAd K ("DaySet", some "__xor__"), d_DaySet___xor__⟩
def d_DaySet___invert__ : He.DefD := ⟨("DaySet", some "__invert__"), "__invert__", "DaySet.__invert__", defArgs s_DaySet___invert__, defBody s_DaySet___invert__, defScope s_DaySet___invert__, [], []⟩
def p_DaySet___invert__ : PDef := ⟨fun K => He.fAd K ("DaySet", some "__invert__"), d_DaySet___invert__⟩
def d__law_sums_right : He.DefD := ⟨("_law_sums_right", none), "_law_sums_right", "_law_sums_right", defArgs s__law_sums_right, defBody s__law_sums_right, defScope s__law_sums_right, [], []⟩
def p__law_sums_right : PDef := ⟨fun K => He.fAd K ("_law_sums_right", none), d__law_sums_right⟩
def d__law_pick : He.DefD := ⟨("_law_pick", none), "_law_pick", "_law_pick", defArgs s__law_pick, defBody s__law_pick, defScope s__law_pick, [], []⟩
def p__law_pick : PDef := ⟨fun K => He.fAd K ("_law_pick", none), d__law_pick⟩
def d_lowest : He.DefD := ⟨("lowest", none), "lowest", "lowest", defArgs s_lowest, defBody s_lowest, defScope s_lowest, [], []⟩
def p_lowest : PDef := ⟨fun K => He.fAd K ("lowest", none), d_lowest⟩
def d_DaySet_next_from : He.DefD := ⟨("DaySet", some "next_from"), "next_from", "DaySet.next_from", defArgs s_DaySet_next_from, defBody s_DaySet_next_from, defScope s_DaySet_next_from, [], []⟩
def p_DaySet_next_from : PDef := ⟨fun K => He.fAd K ("DaySet", some "next_from"), d_DaySet_next_from⟩
def d_place_of : He.DefD := ⟨("place_of", none), "place_of", "place_of", defArgs s_place_of, defBody s_place_of, defScope s_place_of, [], []⟩
def p_place_of : PDef := ⟨fun K => He.fAd K ("place_of", none), d_place_of⟩
def d_DaySet_nth : He.DefD := ⟨("DaySet", some "nth"), "nth", "DaySet.nth", defArgs s_DaySet_nth, defBody s_DaySet_nth, defScope s_DaySet_nth, [], []⟩
def p_DaySet_nth : PDef := ⟨fun K => He.fAd K ("DaySet", some "nth"), d_DaySet_nth⟩
def d_DaySet___contains__ : He.DefD := ⟨("DaySet", some "__contains__"), "__contains__", "DaySet.__contains__", defArgs s_DaySet___contains__, defBody s_DaySet___contains__, defScope s_DaySet___contains__, [], []⟩
def p_DaySet___contains__ : PDef := ⟨fun K => He.fAd K ("DaySet", some "__contains__"), d_DaySet___contains__⟩
def d_DaySet_last_to : He.DefD := ⟨("DaySet", some "last_to"), "last_to", "DaySet.last_to", defArgs s_DaySet_last_to, defBody s_DaySet_last_to, defScope s_DaySet_last_to, [], []⟩
def p_DaySet_last_to : PDef := ⟨fun K => He.fAd K ("DaySet", some "last_to"), d_DaySet_last_to⟩
def d_DaySet_is_finite : He.DefD := ⟨("DaySet", some "is_finite"), "is_finite", "DaySet.is_finite", defArgs s_DaySet_is_finite, defBody s_DaySet_is_finite, defScope s_DaySet_is_finite, [], []⟩
def p_DaySet_is_finite : PDef := ⟨pAdP "DaySet" "is_finite", d_DaySet_is_finite⟩
def d__law_back_right : He.DefD := ⟨("_law_back_right", none), "_law_back_right", "_law_back_right", defArgs s__law_back_right, defBody s__law_back_right, defScope s__law_back_right, [], []⟩
def p__law_back_right : PDef := ⟨fun K => He.fAd K ("_law_back_right", none), d__law_back_right⟩
def d_law : He.DefD := ⟨("law", none), "law", "law", defArgs s_law, defBody s_law, defScope s_law, [], []⟩
def p_law : PDef := ⟨fun K => He.fAd K ("law", none), d_law⟩
def fn : List PDef := [p__law_begun, p__law_mixed, p__law_take, p__law_truths, p__law_set, p_are_truths, p_bits_of, p_prime_divisors, p_mask, p_repeat, p_shortest, p_canonical, p_DaySet___init__, p_DaySet_pattern, p__law_pattern, p_is_number, p_need_number, p_ones, p_number_before, p_DaySet_how_many, p_greatest_divisor, p_window, p_stretched, p_aligned, p_DaySet___or__, p_DaySet___and__, p_DaySet___sub__, p_DaySet___xor__, p_DaySet___invert__, p__law_sums_right, p__law_pick, p_lowest, p_DaySet_next_from, p_place_of, p_DaySet_nth, p_DaySet___contains__, p_DaySet_last_to, p_DaySet_is_finite, p__law_back_right, p_law]
def glos : List Str := ["_law_begun", "_law_mixed", "_law_take", "_law_truths", "_law_set", "are_truths", "bits_of", "prime_divisors", "mask", "repeat", "shortest", "canonical", "_law_pattern", "is_number", "need_number", "ones", "number_before", "greatest_divisor", "window", "stretched", "aligned", "_law_sums_right", "_law_pick", "lowest", "place_of", "_law_back_right", "law", "DaySet"]
def frees : List Str := ["len", "min", "range", "sorted", "zip", "sum", "abs", "int", "max", "enumerate", "isinstance", "list", "tuple", "bool", "all"]
def gints : List (Str × Int) := []
def fa : List He.Fa := glos.map He.Fa.glo ++ (frees.map He.Fa.free ++ gints.map fun p => He.Fa.int p.1 p.2)
def exs : List (PySem.W.Frag → Bool) := [fMeth "DaySet" "__invert__",
  fMeth "DaySet" "__sub__",
  fTyp "DaySet",
  fMeth "DaySet" "__and__",
  fMeth "DaySet" "__or__",
  fMeth "DaySet" "how_many",
  fCm "DaySet" "pattern",
  fRd "DaySet",
  fun K => (He.Fa.mkr "DaySet").ok K,
  fDig,
  fun K => (He.Fa.noat "DaySet" "core").ok K,
  fMeth "DaySet" "__xor__",
  fMeth "DaySet" "next_from",
  fMeth "DaySet" "nth",
  fMeth "DaySet" "__contains__",
  fMeth "DaySet" "last_to",
  fProp "DaySet" "is_finite"]
def ex (K : PySem.W.Frag) : Bool := exs.all fun f => f K
structure Gm (K : PySem.W.Frag) (mg : Str → Option Value) : Prop where
  ex : ∃ h : Heap, K.In h ∧ h.Ns mainGlobals mg ∧ SaysP fa fn ex K
section
variable {K : PySem.W.Frag} {mg : Str → Option Value}
theorem Gm.fact (G : Gm K mg) {f : He.Fa} (h : f ∈ fa) : f.ok K = true := by
  obtain ⟨_, _, _, c⟩ := G.ex
  exact c.fa f h
theorem Gm.xf (G : Gm K mg) (i : Nat) {f : PySem.W.Frag → Bool} (h : exs[i]? = some f) : f K = true := by
  obtain ⟨_, _, _, c⟩ := G.ex
  exact List.all_eq_true.mp c.ex f (List.mem_of_getElem? h)
theorem Gm.fn (G : Gm K mg) (i : Nat) {p : PDef} (h : fn[i]? = some p) : ∃ fd, FunD K p.d.name p.d.qual p.d.params p.d.body p.d.scope (p.d.dvs K) (p.d.kws K) (p.ad K) fd := by
  obtain ⟨_, _, _, c⟩ := G.ex
  exact c.fn p (List.mem_of_getElem? h)
theorem Gm.glo (G : Gm K mg) {x : Str} (h : x ∈ glos) : mg x = some (.ref (He.ga K x)) := by
  obtain ⟨_, X, N, _⟩ := G.ex
  exact He.glo_ok X N (G.fact (f := .glo x) (List.mem_append_left _ (List.mem_map.mpr ⟨x, h, rfl⟩)))
theorem Gm.free (G : Gm K mg) {x : Str} (h : x ∈ frees) : mg x = none := by
  obtain ⟨_, X, N, _⟩ := G.ex
  exact He.free_ok X N (G.fact (f := .free x) (List.mem_append_right _ (List.mem_append_left _ (List.mem_map.mpr ⟨x, h, rfl⟩))))
theorem Gm.int (G : Gm K mg) {x : Str} {i : Int} (h : (x, i) ∈ gints) : ∃ t, mg x = some (.int i t) := by
  obtain ⟨_, X, N, _⟩ := G.ex
  exact He.int_ok X N (G.fact (f := .int x i) (List.mem_append_right _ (List.mem_append_right _ (List.mem_map.mpr ⟨(x, i), h, rfl⟩))))
end
def b1__law_begun : PV.Env → SRes := (sSet 1 (dLc (iLst (dV 0)) (tgN 2) (dTst (dOp gGe (dCall gAbs (dCons (dV 2) dNil)) (dOp gPow (dC (.int 10)) (dC (.int 18))))) (dOp gSub (dCall gAbs (dCons (dV 2) dNil)) (dOp gPow (dC (.int 10)) (dC (.int 18)))) [2]))
def b2__law_begun : PV.Env → R D := (dLc (iLst (dV 0)) (tgN 2) bYes (dOp gMod (dCall gInt (dCons (dCall gAbs (dCons (dV 2) dNil)) dNil)) (dC (.int 2147483629))) [2])
def fw (ns : List Int) : List Int := (ns.filter fun n => decide (10 ^ 18 ≤ (if n < 0 then -n else n))).map fun n => (if n < 0 then -n else n) - 10 ^ 18
def fc (ns : List Int) : List Int := ns.map fun n => (if n < 0 then -n else n) % 2147483629
def m__law_begun : Mir := mBegun fw fc
theorem abs_lt (n : Int) : (if n < 0 then -n else n) = (n.natAbs : Int) := by split <;> omega
theorem b1_eq (ns : List Int) (hz : ns.length ≤ 63) : ∃ δ1, b1__law_begun (.p (.scr ns) :: List.replicate (N__law_begun.length - 1) .emp) = .nx δ1 ∧ δ1.length = N__law_begun.length ∧ δ1[1]? = some (.p (.lst ((fw ns).map D.int))) := by
  have h := dLc_pure (fi := iLst (dV 0)) (t := dTst (dOp gGe (dCall gAbs (dCons (dV 2) dNil)) (dOp gPow (dC (.int 10)) (dC (.int 18))))) (e := dOp PV.gSub (dCall gAbs (dCons (dV 2) dNil)) (dOp gPow (dC (.int 10)) (dC (.int 18)))) (i := 2) (δ := [.p (.scr ns), .emp, .emp]) (items := ns.map D.int) rfl .emp rfl (.inl rfl)
    (fun d => match d with | .int n => decide (10 ^ 18 ≤ (if n < 0 then -n else n)) | _ => false) (fun d => match d with | .int n => .int ((if n < 0 then -n else n) - 10 ^ 18) | d => d) (by rw [List.length_map]; omega)
    (fun d hd => by
      obtain ⟨n, _, rfl⟩ := List.mem_map.mp hd
      refine ⟨?_, fun _ => ?_⟩
      · show dTst _ [.p (.scr ns), .emp, .p (.int n)] = _
        simp [dTst, dOp, dCall, dCons, dNil, dV, dC, ev_abs, ev_pow, ev_cmp]
      · show dOp PV.gSub _ _ [.p (.scr ns), .emp, .p (.int n)] = _
        simp [dOp, dCall, dCons, dNil, dV, dC, ev_abs, ev_pow, ev_sub])
  refine ⟨[.p (.scr ns), .p (.lst ((fw ns).map D.int)), .emp], ?_, rfl, rfl⟩
  show sSet 1 _ [.p (.scr ns), .emp, .emp] = _
  unfold sSet
  rw [h]
  have e : List.map (fun d => match d with | .int n => D.int ((if n < 0 then -n else n) - 10 ^ 18) | d => d) (List.filter (fun d => match d with | .int n => decide (10 ^ 18 ≤ (if n < 0 then -n else n)) | _ => false) (ns.map D.int)) = (fw ns).map D.int := by
    unfold fw
    rw [List.filter_map, List.map_map, List.map_map]
    rfl
  rw [e]
  rfl
theorem b2_eq (ns : List Int) (hz : ns.length ≤ 63) : ∃ δ2, b2__law_begun (.p (.scr ns) :: List.replicate (N__law_begun.length - 1) .emp) = .ok (.lst ((fc ns).map D.int)) δ2 := by
  have h := dLc_pure (fi := iLst (dV 0)) (t := bYes) (e := dOp gMod (dCall gInt (dCons (dCall gAbs (dCons (dV 2) dNil)) dNil)) (dC (.int 2147483629))) (i := 2) (δ := [.p (.scr ns), .emp, .emp]) (items := ns.map D.int) rfl .emp rfl (.inl rfl)
    (fun d => true) (fun d => match d with | .int n => .int ((if n < 0 then -n else n) % 2147483629) | d => d) (by rw [List.length_map]; omega)
    (fun d hd => by
      obtain ⟨n, _, rfl⟩ := List.mem_map.mp hd
      refine ⟨rfl, fun _ => ?_⟩
      show dOp gMod _ _ [.p (.scr ns), .emp, .p (.int n)] = _
      simp [dOp, dCall, dCons, dNil, dV, dC, ev_abs, ev_int, ev_mod])
  refine ⟨[.p (.scr ns), .emp, .emp], h.trans ?_⟩
  have ef : List.filter (fun _ => true) (ns.map D.int) = ns.map D.int := List.filter_eq_self.mpr fun _ _ => rfl
  rw [ef]
  unfold fc
  rw [List.map_map, List.map_map]
  rfl

def y__law_mixed_1 : PV.Env → SRes := (sSet 4 (dOp gMod (dCall gInt (dCons (dOp gAdd (dOp gAdd (dOp gMul (dV 4) (dC (.int 48271))) (dV 5)) (dV 1)) dNil)) (dV 3)))
def y__law_mixed_2 : PV.Env → SRes := (sSeq (sSet 4 (dOp gAdd (dOp gMul (dC (.int 61441)) (dV 1)) (dOp gDiv (dV 3) (dC (.int 19)))))
  (sSeq (sFor (iStC 0) (tgN 5) y__law_mixed_1)
  (sSet 2 (dOp gAdd (dOp gMul (dV 2) (dC (.int 2147483647))) (dOp gMod (dCall gInt (dCons (dOp gPow (dV 4) (dC (.int 5))) dNil)) (dV 3))))))
def b__law_mixed : PV.Env → SRes := (sSeq (sPar [1, 2] (dCons (dOp gAdd (dStI 0 .turn) (dC (.int 1))) (dCons (dC (.int 0)) dNil)))
  (sSeq (sStPut 0 .turn (dV 1))
  (sSeq (sFor (iLst (dSeq .lst (dCons (dC (.int 2147483629)) (dCons (dC (.int 2147483587)) (dCons (dC (.int 2147483579)) (dCons (dC (.int 2147483563)) dNil)))))) (tgN 3) y__law_mixed_2)
  (sRet (dV 2)))))
def m__law_mixed : Mir := fnMir (some 0) b__law_mixed 6
def b__law_take : PV.Env → SRes := (sSeq (sIf (dTst (dOp (gEq false) (dStI 0 .rest) (dC (.int 0))))
   (sStPut 0 .rest (dIf (bStW 0) (dStPop 0) (dCallS 1 0 0 m__law_mixed (dHere 0 dNil))))
   sNext)
  (sSeq (sSet 2 (dOp gMod (dCall gInt (dCons (dStI 0 .rest) dNil)) (dV 1)))
  (sSeq (sStPut 0 .rest (dOp gDiv (dStI 0 .rest) (dV 1)))
  (sRet (dV 2)))))
def m__law_take : Mir := fnMir (some 0) b__law_take 3
def b__law_truths : PV.Env → SRes := (sSeq (sSet 2 (dCallS 2 0 0 m__law_take (dHere 0 (dCons (dC (.int 4)) dNil))))
  (sSeq (sIf (dTst (dOp (gEq false) (dV 2) (dC (.int 0))))
   (sRet (dLc (iCall gRange1 (dCons (dV 1) dNil)) (tgN 3) bYes (dOp (gEq false) (dCallS 2 0 0 m__law_take (dHere 0 (dCons (dC (.int 2)) dNil))) (dC (.int 0))) [3]))
   sNext)
  (sSeq (sIf (dTst (dOp (gEq false) (dV 2) (dC (.int 1))))
   (sRet (dOp gMul (dSeq .lst (dCons (dOp (gEq false) (dCallS 2 0 0 m__law_take (dHere 0 (dCons (dC (.int 2)) dNil))) (dC (.int 0))) dNil)) (dV 1)))
   sNext)
  (sRet (dLc (iCall gRange1 (dCons (dV 1) dNil)) (tgN 3) bYes (dOp (gEq false) (dOp (gEq false) (dCallS 2 0 0 m__law_take (dHere 0 (dCons (dC (.int 5)) dNil))) (dC (.int 0))) (dOp (gEq false) (dV 2) (dC (.int 2)))) [3])))))
def m__law_truths : Mir := fnMir (some 0) b__law_truths 4
def b__law_set : PV.Env → SRes := (sSeq (sPar [2, 3] (dCons (dCallS 2 0 0 m__law_take (dHere 0 (dCons (dC (.int 5)) dNil))) (dCons (dCallS 2 0 0 m__law_truths (dHere 0 (dCons (dOp gAdd (dC (.int 1)) (dCallS 2 0 0 m__law_take (dHere 0 (dCons (dV 1) dNil)))) dNil))) dNil)))
  (sSeq (sSet 4 (dCallS 2 0 0 m__law_truths (dHere 0 (dCons (dCallS 2 0 0 m__law_take (dHere 0 (dCons (dOp gAdd (dV 1) (dC (.int 1))) dNil))) dNil))))
  (sSeq (sIf (dTst (dOp (gEq false) (dV 2) (dC (.int 0))))
   (sRet (dSeq .tup (dCons (dV 4) (dCons (dOp gMul (dV 3) (dOp gAdd (dC (.int 1)) (dCallS 2 0 0 m__law_take (dHere 0 (dCons (dCall gMax (dCons (dC (.int 1)) (dCons (dOp gDiv (dV 1) (dCall gLen (dCons (dV 3) dNil))) dNil))) dNil))))) dNil))))
   sNext)
  (sSeq (sIf (dTst (dOp (gEq false) (dV 2) (dC (.int 1))))
   (sSeq (sSet 5 (dCallS 2 0 0 m__law_take (dHere 0 (dCons (dOp gAdd (dCall gLen (dCons (dV 3) dNil)) (dC (.int 1))) dNil))))
  (sRet (dSeq .tup (dCons (dOp gAdd (dV 4) (dSl (dV 3) dNo (dPart (dV 5)))) (dCons (dOp gAdd (dSl (dV 3) (dPart (dV 5)) dNo) (dSl (dV 3) dNo (dPart (dV 5)))) dNil)))))
   sNext)
  (sRet (dIf (dTst (dOp (gEq false) (dV 2) (dC (.int 2)))) (dSeq .tup (dCons (dV 4) (dCons (dSeq .lst (dCons (dC (.bl false)) dNil)) dNil))) (dSeq .tup (dCons (dV 4) (dCons (dV 3) dNil)))))))))
def m__law_set : Mir := fnMir (some 0) b__law_set 6
def b_are_truths : PV.Env → SRes := (sRet (dAndV (dIsi2 "list" "tuple" (dV 0)) (dCall gAll (dCons (dLc (iLst (dV 0)) (tgN 1) bYes (dIsi "bool" (dV 1)) [1]) dNil))))
def m_are_truths : Mir := fnMir none b_are_truths 2
def b_bits_of : PV.Env → SRes := (sSeq (sSet 2 (dDc (iLst (dV 0)) (tgN 1) bYes (dV 1) (dC (.bl true)) [1]))
  (sSeq (sSet 4 (dLc (iCall gRange1 (dCons (dOp gAdd (dBK gMaxD (dCons (dV 0) dNil) (dCons (dC (.int 0)) dNil)) (dC (.int 1))) dNil)) (tgN 3) bYes (dIf (dTst (dOp gInDk (dV 3) (dV 2))) (dC (.str "1")) (dC (.str "0"))) [3]))
  (sRet (dCall gInt2 (dCons (dJoin (dC (.str "")) (dSlS (dV 4) dNo dNo (dPart (dUn gNeg (dC (.int 1)))))) (dCons (dC (.int 2)) dNil))))))
def m_bits_of : Mir := fnMir none b_bits_of 5
noncomputable def t_prime_divisors_1 : PV.Env → R Bool := (dTst (dOp (gEq false) (dOp gMod (dV 2) (dV 3)) (dC (.int 0))))
noncomputable def y_prime_divisors_2 : PV.Env → SRes := (sSet 2 (dOp gDiv (dV 2) (dV 3)))
noncomputable def t_prime_divisors_3 : PV.Env → R Bool := (dTst (dOp gLe (dOp gMul (dV 3) (dV 3)) (dV 2)))
noncomputable def y_prime_divisors_4 : PV.Env → SRes := (sSeq (sIf (dTst (dOp (gEq false) (dOp gMod (dV 2) (dV 3)) (dC (.int 0))))
   (sSeq (sSet 1 (dOp gAdd (dV 1) (dSeq .lst (dCons (dV 3) dNil))))
  (sWhile t_prime_divisors_1 y_prime_divisors_2))
   sNext)
  (sSet 3 (dOp gAdd (dV 3) (dC (.int 1)))))
noncomputable def b_prime_divisors : PV.Env → SRes := (sSeq (sSet 1 (dSeq .lst dNil))
  (sSeq (sSet 2 (dV 0))
  (sSeq (sSet 3 (dC (.int 2)))
  (sSeq (sWhile t_prime_divisors_3 y_prime_divisors_4)
  (sRet (dOp gAdd (dV 1) (dIf (dTst (dOp gGt (dV 2) (dC (.int 1)))) (dSeq .lst (dCons (dV 2) dNil)) (dSeq .lst dNil))))))))
noncomputable def m_prime_divisors : Mir := fnMir none b_prime_divisors 4
def b_mask : PV.Env → SRes := (sRet (dOp gSub (dOp gShl (dC (.int 1)) (dV 0)) (dC (.int 1))))
def m_mask : Mir := fnMir none b_mask 1
noncomputable def t_repeat_1 : PV.Env → R Bool := (dTst (dOp gLt (dV 4) (dV 2)))
noncomputable def y_repeat_2 : PV.Env → SRes := (sSeq (sSet 5 (dCall gMin (dCons (dV 4) (dCons (dOp gSub (dV 2) (dV 4)) dNil))))
  (sSeq (sSet 3 (dOp (gBit Builtin.bitOr) (dV 3) (dOp gShl (dOp (gBit Builtin.bitAnd) (dV 3) (dCallF 1 m_mask [] (dCons (dOp gMul (dV 1) (dV 5)) dNil))) (dOp gMul (dV 1) (dV 4)))))
  (sSet 4 (dOp gAdd (dV 4) (dV 5)))))
noncomputable def b_repeat : PV.Env → SRes := (sSeq (sSet 3 (dV 0))
  (sSeq (sSet 4 (dC (.int 1)))
  (sSeq (sWhile t_repeat_1 y_repeat_2)
  (sRet (dV 3)))))
noncomputable def m_repeat : Mir := fnMir none b_repeat 6
noncomputable def t_shortest_1 : PV.Env → R Bool := (dTst (dOp (gEq false) (dOp gMod (dV 0) (dV 2)) (dC (.int 0))))
noncomputable def y_shortest_2 : PV.Env → SRes := (sSeq (sSet 3 (dOp gDiv (dV 0) (dV 2)))
  (sSeq (sIf (dTst (dOp (gEq true) (dCallF 3 m_repeat [] (dCons (dOp (gBit Builtin.bitAnd) (dV 1) (dCallF 1 m_mask [] (dCons (dV 3) dNil))) (dCons (dV 3) (dCons (dV 2) dNil)))) (dV 1)))
   sBk
   sNext)
  (sPar [0, 1] (dCons (dV 3) (dCons (dOp (gBit Builtin.bitAnd) (dV 1) (dCallF 1 m_mask [] (dCons (dV 3) dNil))) dNil)))))
noncomputable def y_shortest_3 : PV.Env → SRes := (sWhile t_shortest_1 y_shortest_2)
noncomputable def b_shortest : PV.Env → SRes := (sSeq (sFor (iLst (dCallF 1 m_prime_divisors [] (dCons (dV 0) dNil))) (tgN 2) y_shortest_3)
  (sRet (dSeq .tup (dCons (dV 0) (dCons (dV 1) dNil)))))
noncomputable def m_shortest : Mir := fnMir none b_shortest 4
noncomputable def b_canonical : PV.Env → SRes := (sSeq (sAsg (tgT [1, 3]) (dCallF 2 m_shortest [] (dCons (dV 1) (dCons (dV 3) dNil))))
  (sSeq (sSet 4 (dOp (gBit Builtin.bitOr) (dV 2) (dOp gShl (dV 3) (dV 0))))
  (sSeq (sSet 5 (dOp (gBit Builtin.bitAnd) (dOp (gBit Builtin.bitXor) (dV 4) (dOp gShr (dV 4) (dV 1))) (dCallF 1 m_mask [] (dCons (dV 0) dNil))))
  (sSeq (sSet 6 (dIf (dTst (dOp (gEq true) (dV 5) (dC (.int 0)))) (dCall gLen (dCons (dFmtB (dV 5)) dNil)) (dC (.int 0))))
  (sRet (dSeq .tup (dCons (dV 6) (dCons (dV 1) (dCons (dOp (gBit Builtin.bitAnd) (dV 4) (dCallF 1 m_mask [] (dCons (dV 6) dNil))) (dCons (dOp (gBit Builtin.bitAnd) (dOp gShr (dV 4) (dV 6)) (dCallF 1 m_mask [] (dCons (dV 1) dNil))) dNil))))))))))
noncomputable def m_canonical : Mir := fnMir none b_canonical 7
noncomputable def b_DaySet___init__ : PV.Env → SRes := (sFldO 0 "core" (dOb 0 "DaySet" (dCallF 4 m_canonical [] (dCons (dV 1) (dCons (dV 2) (dCons (dV 3) (dCons (dV 4) dNil)))))))
noncomputable def m_DaySet___init__ : Mir := fnMir (some 0) b_DaySet___init__ 5
noncomputable def b_DaySet_pattern : PV.Env → SRes := (sSeq (sIf (dNot (dTru (dCallF 1 m_are_truths [] (dCons (dV 1) dNil))))
   sBad
   sNext)
  (sSeq (sIf (dOr (dNot (dTru (dCallF 1 m_are_truths [] (dCons (dV 2) dNil)))) (dTst (dOp (gEq false) (dCall gLen (dCons (dV 2) dNil)) (dC (.int 0)))))
   sBad
   sNext)
  (sSeq (sSet 5 (dLc (iEnL (dV 1)) (tgT [3, 4]) (dTru (dV 4)) (dV 3) [3, 4]))
  (sSeq (sSet 6 (dLc (iEnL (dV 2)) (tgT [3, 4]) (dTru (dV 4)) (dV 3) [3, 4]))
  (sRet (dAppL 0 "DaySet" 4 0 [0, 1, 2, 3] [] (makeD "DaySet" m_DaySet___init__) (dCons (dCall gLen (dCons (dV 1) dNil)) (dCons (dCall gLen (dCons (dV 2) dNil)) (dCons (dIf (dTru (dV 5)) (dCallF 1 m_bits_of [] (dCons (dV 5) dNil)) (dC (.int 0))) (dCons (dIf (dTru (dV 6)) (dCallF 1 m_bits_of [] (dCons (dV 6) dNil)) (dC (.int 0))) dNil)))) dNil))))))
noncomputable def m_DaySet_pattern : Mir := fnMir none b_DaySet_pattern 7
noncomputable def b__law_pattern : PV.Env → SRes := (sRet (dCMeth "DaySet" 2 0 [0, 1] [] (mirD m_DaySet_pattern) (dC (.cls "DaySet")) (dCons (dOp gIx (dV 0) (dC (.int 0))) (dCons (dOp gIx (dV 0) (dC (.int 1))) dNil)) dNil))
noncomputable def m__law_pattern : Mir := fnMir none b__law_pattern 1
def b_is_number : PV.Env → SRes := (sRet (dAndV (dIsi "int" (dV 0)) (dNotV (dIsi "bool" (dV 0)))))
def m_is_number : Mir := fnMir none b_is_number 1
def b_need_number : PV.Env → SRes := (sIf (dOr (dNot (dTru (dCallF 1 m_is_number [] (dCons (dV 0) dNil)))) (dAnd (dTst (dOp (gIs true) (dV 1) (dC .non))) (dTst (dOp gLt (dV 0) (dV 1)))))
   sBad
   sNext)
def m_need_number : Mir := fnMir none b_need_number 2
def b_ones : PV.Env → SRes := (sRet (dCount (dFmtB (dV 0)) (dC (.str "1"))))
def m_ones : Mir := fnMir none b_ones 1
def b_number_before : PV.Env → SRes := (sSeq (sAsg (tgT [2, 3, 4, 5]) (dV 0))
  (sSeq (sIf (dTst (dOp gLe (dV 1) (dV 2)))
   (sRet (dCallF 1 m_ones [] (dCons (dOp (gBit Builtin.bitAnd) (dV 4) (dCallF 1 m_mask [] (dCons (dCall gMax (dCons (dV 1) (dCons (dC (.int 0)) dNil))) dNil))) dNil)))
   sNext)
  (sSeq (sPar [6, 7] (dCons (dOp gDiv (dOp gSub (dV 1) (dV 2)) (dV 3)) (dCons (dOp gMod (dOp gSub (dV 1) (dV 2)) (dV 3)) dNil)))
  (sRet (dOp gAdd (dOp gAdd (dCallF 1 m_ones [] (dCons (dV 4) dNil)) (dOp gMul (dV 6) (dCallF 1 m_ones [] (dCons (dV 5) dNil)))) (dCallF 1 m_ones [] (dCons (dOp (gBit Builtin.bitAnd) (dV 5) (dCallF 1 m_mask [] (dCons (dV 7) dNil))) dNil)))))))
def m_number_before : Mir := fnMir none b_number_before 8
def b_DaySet_how_many : PV.Env → SRes := (sSeq (sDrop (dCallF 2 m_need_number [] (dCons (dV 1) (dCons (dC .non) dNil))))
  (sSeq (sDrop (dCallF 2 m_need_number [] (dCons (dV 2) (dCons (dC .non) dNil))))
  (sRet (dCall gMax (dCons (dC (.int 0)) (dCons (dOp gSub (dCallF 2 m_number_before [] (dCons (dFld "DaySet" "core" (dV 0)) (dCons (dV 2) dNil))) (dCallF 2 m_number_before [] (dCons (dFld "DaySet" "core" (dV 0)) (dCons (dV 1) dNil)))) dNil))))))
def m_DaySet_how_many : Mir := fnMir none b_DaySet_how_many 3
noncomputable def t_greatest_divisor_1 : PV.Env → R Bool := (dTst (dOp (gEq true) (dV 1) (dC (.int 0))))
noncomputable def y_greatest_divisor_2 : PV.Env → SRes := (sPar [0, 1] (dCons (dV 1) (dCons (dOp gMod (dV 0) (dV 1)) dNil)))
noncomputable def b_greatest_divisor : PV.Env → SRes := (sSeq (sWhile t_greatest_divisor_1 y_greatest_divisor_2)
  (sRet (dV 0)))
noncomputable def m_greatest_divisor : Mir := fnMir none b_greatest_divisor 2
noncomputable def b_window : PV.Env → SRes := (sSeq (sAsg (tgT [2, 3, 4, 5]) (dV 0))
  (sSeq (sIf (dTst (dOp gLe (dV 1) (dV 2)))
   (sRet (dOp (gBit Builtin.bitAnd) (dV 4) (dCallF 1 m_mask [] (dCons (dV 1) dNil))))
   sNext)
  (sSeq (sSet 6 (dOp gDiv (dOp gSub (dOp gAdd (dOp gSub (dV 1) (dV 2)) (dV 3)) (dC (.int 1))) (dV 3)))
  (sRet (dOp (gBit Builtin.bitAnd) (dOp (gBit Builtin.bitOr) (dV 4) (dOp gShl (dCallF 3 m_repeat [] (dCons (dV 5) (dCons (dV 3) (dCons (dV 6) dNil)))) (dV 2))) (dCallF 1 m_mask [] (dCons (dV 1) dNil)))))))
noncomputable def m_window : Mir := fnMir none b_window 7
noncomputable def b_stretched : PV.Env → SRes := (sSeq (sSet 3 (dCallF 2 m_window [] (dCons (dV 0) (dCons (dOp gAdd (dV 1) (dV 2)) dNil))))
  (sRet (dSeq .tup (dCons (dOp (gBit Builtin.bitAnd) (dV 3) (dCallF 1 m_mask [] (dCons (dV 1) dNil))) (dCons (dOp gShr (dV 3) (dV 1)) dNil)))))
noncomputable def m_stretched : Mir := fnMir none b_stretched 4
noncomputable def b_aligned : PV.Env → SRes := (sSeq (sSet 2 (dCall gMax (dCons (dOp gIx (dV 0) (dC (.int 0))) (dCons (dOp gIx (dV 1) (dC (.int 0))) dNil))))
  (sSeq (sSet 3 (dOp gDiv (dOp gMul (dOp gIx (dV 0) (dC (.int 1))) (dOp gIx (dV 1) (dC (.int 1)))) (dCallF 2 m_greatest_divisor [] (dCons (dOp gIx (dV 0) (dC (.int 1))) (dCons (dOp gIx (dV 1) (dC (.int 1))) dNil)))))
  (sRet (dSeq .tup (dCons (dV 2) (dCons (dV 3) (dStar (dCallF 3 m_stretched [] (dCons (dV 0) (dCons (dV 2) (dCons (dV 3) dNil)))) (dStar (dCallF 3 m_stretched [] (dCons (dV 1) (dCons (dV 2) (dCons (dV 3) dNil)))) dNil))))))))
noncomputable def m_aligned : Mir := fnMir none b_aligned 4
noncomputable def b_DaySet___or__ : PV.Env → SRes := (sSeq (sAsg (tgT [2, 3, 4, 5, 6, 7]) (dCallF 2 m_aligned [] (dCons (dFld "DaySet" "core" (dV 0)) (dCons (dFld "DaySet" "core" (dV 1)) dNil))))
  (sRet (dApp 4 0 [0, 1, 2, 3] [] (makeD "DaySet" m_DaySet___init__) (dCons (dV 2) (dCons (dV 3) (dCons (dOp (gBit Builtin.bitOr) (dV 4) (dV 6)) (dCons (dOp (gBit Builtin.bitOr) (dV 5) (dV 7)) dNil)))) dNil)))
noncomputable def m_DaySet___or__ : Mir := fnMir none b_DaySet___or__ 8
noncomputable def b_DaySet___and__ : PV.Env → SRes := (sSeq (sAsg (tgT [2, 3, 4, 5, 6, 7]) (dCallF 2 m_aligned [] (dCons (dFld "DaySet" "core" (dV 0)) (dCons (dFld "DaySet" "core" (dV 1)) dNil))))
  (sRet (dApp 4 0 [0, 1, 2, 3] [] (makeD "DaySet" m_DaySet___init__) (dCons (dV 2) (dCons (dV 3) (dCons (dOp (gBit Builtin.bitAnd) (dV 4) (dV 6)) (dCons (dOp (gBit Builtin.bitAnd) (dV 5) (dV 7)) dNil)))) dNil)))
noncomputable def m_DaySet___and__ : Mir := fnMir none b_DaySet___and__ 8
noncomputable def b_DaySet___sub__ : PV.Env → SRes := (sSeq (sAsg (tgT [2, 3, 4, 5, 6, 7]) (dCallF 2 m_aligned [] (dCons (dFld "DaySet" "core" (dV 0)) (dCons (dFld "DaySet" "core" (dV 1)) dNil))))
  (sRet (dApp 4 0 [0, 1, 2, 3] [] (makeD "DaySet" m_DaySet___init__) (dCons (dV 2) (dCons (dV 3) (dCons (dOp (gBit Builtin.bitAnd) (dV 4) (dUn gInv (dV 6))) (dCons (dOp (gBit Builtin.bitAnd) (dV 5) (dUn gInv (dV 7))) dNil)))) dNil)))
noncomputable def m_DaySet___sub__ : Mir := fnMir none b_DaySet___sub__ 8
noncomputable def b_DaySet___xor__ : PV.Env → SRes := (sSeq (sAsg (tgT [2, 3, 4, 5, 6, 7]) (dCallF 2 m_aligned [] (dCons (dFld "DaySet" "core" (dV 0)) (dCons (dFld "DaySet" "core" (dV 1)) dNil))))
  (sRet (dApp 4 0 [0, 1, 2, 3] [] (makeD "DaySet" m_DaySet___init__) (dCons (dV 2) (dCons (dV 3) (dCons (dOp (gBit Builtin.bitXor) (dV 4) (dV 6)) (dCons (dOp (gBit Builtin.bitXor) (dV 5) (dV 7)) dNil)))) dNil)))
noncomputable def m_DaySet___xor__ : Mir := fnMir none b_DaySet___xor__ 8
noncomputable def b_DaySet___invert__ : PV.Env → SRes := (sSeq (sAsg (tgT [1, 2, 3, 4]) (dFld "DaySet" "core" (dV 0)))
  (sRet (dApp 4 0 [0, 1, 2, 3] [] (makeD "DaySet" m_DaySet___init__) (dCons (dV 1) (dCons (dV 2) (dCons (dOp (gBit Builtin.bitXor) (dCallF 1 m_mask [] (dCons (dV 1) dNil)) (dV 3)) (dCons (dOp (gBit Builtin.bitXor) (dCallF 1 m_mask [] (dCons (dV 2) dNil)) (dV 4)) dNil)))) dNil)))
noncomputable def m_DaySet___invert__ : Mir := fnMir none b_DaySet___invert__ 5
noncomputable def b__law_sums_right : PV.Env → SRes := (sSeq (sPar [4, 5] (dCons (dMeth "DaySet" "how_many" 2 0 [0, 1] [] (mirD m_DaySet_how_many) (dV 0) (dCons (dV 2) (dCons (dV 3) dNil)) dNil) (dCons (dMeth "DaySet" "how_many" 2 0 [0, 1] [] (mirD m_DaySet_how_many) (dV 1) (dCons (dV 2) (dCons (dV 3) dNil)) dNil) dNil)))
  (sSeq (sPar [6, 7] (dCons (dMeth "DaySet" "how_many" 2 0 [0, 1] [] (mirD m_DaySet_how_many) (dOp (gObj2 "DaySet" (mirD m_DaySet___and__)) (dV 0) (dV 1)) (dCons (dV 2) (dCons (dV 3) dNil)) dNil) (dCons (dMeth "DaySet" "how_many" 2 0 [0, 1] [] (mirD m_DaySet_how_many) (dOp (gObj2 "DaySet" (mirD m_DaySet___or__)) (dV 0) (dV 1)) (dCons (dV 2) (dCons (dV 3) dNil)) dNil) dNil)))
  (sSeq (sIf (dOr (dTst (dOp (gEq true) (dOp gAdd (dV 7) (dV 6)) (dOp gAdd (dV 4) (dV 5)))) (dTst (dOp (gEq true) (dMeth "DaySet" "how_many" 2 0 [0, 1] [] (mirD m_DaySet_how_many) (dOp (gObj2 "DaySet" (mirD m_DaySet___sub__)) (dV 0) (dV 1)) (dCons (dV 2) (dCons (dV 3) dNil)) dNil) (dOp gSub (dV 4) (dV 6)))))
   (sRet (dC (.bl false)))
   sNext)
  (sRet (dAndV (dOp (gEq false) (dMeth "DaySet" "how_many" 2 0 [0, 1] [] (mirD m_DaySet_how_many) (dOp (gObj2 "DaySet" (mirD m_DaySet___xor__)) (dV 0) (dV 1)) (dCons (dV 2) (dCons (dV 3) dNil)) dNil) (dOp gSub (dV 7) (dV 6))) (dOp (gEq false) (dMeth "DaySet" "how_many" 2 0 [0, 1] [] (mirD m_DaySet_how_many) (dUnF (gObj1 "DaySet" (mirD m_DaySet___invert__)) (dV 0)) (dCons (dV 2) (dCons (dV 3) dNil)) dNil) (dOp gSub (dOp gSub (dV 3) (dV 2)) (dV 4))))))))
noncomputable def m__law_sums_right : Mir := fnMir none b__law_sums_right 8
def b__law_pick : PV.Env → SRes := (sRet (dOp gIx (dV 1) (dCallS 2 0 0 m__law_take (dHere 0 (dCons (dCall gLen (dCons (dV 1) dNil)) dNil)))))
def m__law_pick : Mir := fnMir (some 0) b__law_pick 2
def b_lowest : PV.Env → SRes := (sRet (dOp gSub (dCall gLen (dCons (dFmtB (dOp (gBit Builtin.bitAnd) (dV 0) (dOp gSub (dC (.int 0)) (dV 0)))) dNil)) (dC (.int 1))))
def m_lowest : Mir := fnMir none b_lowest 1
def b_DaySet_next_from : PV.Env → SRes := (sSeq (sDrop (dCallF 2 m_need_number [] (dCons (dV 1) (dCons (dC .non) dNil))))
  (sSeq (sAsg (tgT [2, 3, 4, 5]) (dFld "DaySet" "core" (dV 0)))
  (sSeq (sSet 1 (dCall gMax (dCons (dV 1) (dCons (dC (.int 0)) dNil))))
  (sSeq (sIf (dAnd (dTst (dOp gLt (dV 1) (dV 2))) (dTst (dOp (gEq true) (dOp gShr (dV 4) (dV 1)) (dC (.int 0)))))
   (sRet (dOp gAdd (dV 1) (dCallF 1 m_lowest [] (dCons (dOp gShr (dV 4) (dV 1)) dNil))))
   sNext)
  (sSeq (sIf (dTst (dOp (gEq false) (dV 5) (dC (.int 0))))
   (sRet (dC .non))
   sNext)
  (sSeq (sSet 1 (dCall gMax (dCons (dV 1) (dCons (dV 2) dNil))))
  (sSeq (sSet 6 (dOp gMod (dOp gSub (dV 1) (dV 2)) (dV 3)))
  (sRet (dIf (dTst (dOp (gEq true) (dOp gShr (dV 5) (dV 6)) (dC (.int 0)))) (dOp gAdd (dV 1) (dCallF 1 m_lowest [] (dCons (dOp gShr (dV 5) (dV 6)) dNil))) (dOp gAdd (dOp gSub (dOp gAdd (dV 1) (dV 3)) (dV 6)) (dCallF 1 m_lowest [] (dCons (dV 5) dNil))))))))))))
def m_DaySet_next_from : Mir := fnMir none b_DaySet_next_from 7
noncomputable def t_place_of_1 : PV.Env → R Bool := (dTst (dOp gGt (dOp gSub (dV 3) (dV 2)) (dC (.int 1))))
noncomputable def y_place_of_2 : PV.Env → SRes := (sSeq (sSet 4 (dOp gDiv (dOp gAdd (dV 2) (dV 3)) (dC (.int 2))))
  (sIf (dTst (dOp gLe (dCallF 1 m_ones [] (dCons (dOp (gBit Builtin.bitAnd) (dV 0) (dCallF 1 m_mask [] (dCons (dV 4) dNil))) dNil)) (dV 1)))
   (sSet 2 (dV 4))
   (sSet 3 (dV 4))))
noncomputable def b_place_of : PV.Env → SRes := (sSeq (sPar [2, 3] (dCons (dC (.int 0)) (dCons (dCall gLen (dCons (dFmtB (dV 0)) dNil)) dNil)))
  (sSeq (sWhile t_place_of_1 y_place_of_2)
  (sRet (dV 2))))
noncomputable def m_place_of : Mir := fnMir none b_place_of 5
noncomputable def b_DaySet_nth : PV.Env → SRes := (sSeq (sDrop (dCallF 2 m_need_number [] (dCons (dV 1) (dCons (dC (.int 0)) dNil))))
  (sSeq (sAsg (tgT [2, 3, 4, 5]) (dFld "DaySet" "core" (dV 0)))
  (sSeq (sSet 6 (dCallF 1 m_ones [] (dCons (dV 4) dNil)))
  (sSeq (sIf (dTst (dOp gLt (dV 1) (dV 6)))
   (sRet (dCallF 2 m_place_of [] (dCons (dV 4) (dCons (dV 1) dNil))))
   sNext)
  (sSeq (sIf (dTst (dOp (gEq false) (dV 5) (dC (.int 0))))
   sBad
   sNext)
  (sSeq (sPar [7, 8] (dCons (dOp gDiv (dOp gSub (dV 1) (dV 6)) (dCallF 1 m_ones [] (dCons (dV 5) dNil))) (dCons (dOp gMod (dOp gSub (dV 1) (dV 6)) (dCallF 1 m_ones [] (dCons (dV 5) dNil))) dNil)))
  (sRet (dOp gAdd (dOp gAdd (dV 2) (dOp gMul (dV 7) (dV 3))) (dCallF 2 m_place_of [] (dCons (dV 5) (dCons (dV 8) dNil)))))))))))
noncomputable def m_DaySet_nth : Mir := fnMir none b_DaySet_nth 9
def b_DaySet___contains__ : PV.Env → SRes := (sSeq (sIf (dOr (dNot (dTru (dCallF 1 m_is_number [] (dCons (dV 1) dNil)))) (dTst (dOp gLt (dV 1) (dC (.int 0)))))
   (sRet (dC (.bl false)))
   sNext)
  (sSeq (sAsg (tgT [2, 3, 4, 5]) (dFld "DaySet" "core" (dV 0)))
  (sRet (dOp (gEq false) (dOp (gBit Builtin.bitAnd) (dIf (dTst (dOp gLt (dV 1) (dV 2))) (dOp gShr (dV 4) (dV 1)) (dOp gShr (dV 5) (dOp gMod (dOp gSub (dV 1) (dV 2)) (dV 3)))) (dC (.int 1))) (dC (.int 1))))))
def m_DaySet___contains__ : Mir := fnMir none b_DaySet___contains__ 6
noncomputable def b_DaySet_last_to : PV.Env → SRes := (sSeq (sDrop (dCallF 2 m_need_number [] (dCons (dV 1) (dCons (dC .non) dNil))))
  (sSeq (sSet 2 (dCallF 2 m_number_before [] (dCons (dFld "DaySet" "core" (dV 0)) (dCons (dOp gAdd (dV 1) (dC (.int 1))) dNil))))
  (sRet (dIf (dTst (dOp (gEq false) (dV 2) (dC (.int 0)))) (dC .non) (dMeth "DaySet" "nth" 1 0 [0] [] (mirD m_DaySet_nth) (dV 0) (dCons (dOp gSub (dV 2) (dC (.int 1))) dNil) dNil)))))
noncomputable def m_DaySet_last_to : Mir := fnMir none b_DaySet_last_to 3
def b_DaySet_is_finite : PV.Env → SRes := (sRet (dOp (gEq false) (dOp gIx (dFld "DaySet" "core" (dV 0)) (dC (.int 3))) (dC (.int 0))))
def m_DaySet_is_finite : Mir := fnMir none b_DaySet_is_finite 1
noncomputable def b__law_back_right : PV.Env → SRes := (sSeq (sPar [3, 4] (dCons (dMeth "DaySet" "how_many" 2 0 [0, 1] [] (mirD m_DaySet_how_many) (dV 0) (dCons (dC (.int 0)) (dCons (dV 1) dNil)) dNil) (dCons (dMeth "DaySet" "next_from" 1 0 [0] [] (mirD m_DaySet_next_from) (dV 0) (dCons (dV 1) dNil) dNil) dNil)))
  (sSeq (sIf (dTst (dOp (gIs true) (dV 4) (dC .non)))
   (sSeq (sIf (dOr (dTst (dOp (gEq true) (dMeth "DaySet" "nth" 1 0 [0] [] (mirD m_DaySet_nth) (dV 0) (dCons (dV 3) dNil) dNil) (dV 4))) (dOr (dTst (dOp (gIn true "DaySet" (mirD m_DaySet___contains__)) (dV 4) (dV 0))) (dOr (dTst (dOp gLt (dV 4) (dV 1))) (dTst (dOp (gEq true) (dMeth "DaySet" "how_many" 2 0 [0, 1] [] (mirD m_DaySet_how_many) (dV 0) (dCons (dC (.int 0)) (dCons (dV 4) dNil)) dNil) (dV 3))))))
   (sRet (dC (.bl false)))
   sNext)
  (sIf (dOr (dTst (dOp (gEq true) (dMeth "DaySet" "last_to" 1 0 [0] [] (mirD m_DaySet_last_to) (dV 0) (dCons (dV 4) dNil) dNil) (dV 4))) (dTst (dOp (gEq true) (dMeth "DaySet" "next_from" 1 0 [0] [] (mirD m_DaySet_next_from) (dV 0) (dCons (dV 4) dNil) dNil) (dV 4))))
   (sRet (dC (.bl false)))
   sNext))
   sNext)
  (sSeq (sIf (dTst (dOp gGt (dV 3) (dC (.int 0))))
   (sSeq (sSet 5 (dMeth "DaySet" "last_to" 1 0 [0] [] (mirD m_DaySet_last_to) (dV 0) (dCons (dOp gSub (dV 1) (dC (.int 1))) dNil) dNil))
  (sIf (dOr (dTst (dOp (gEq true) (dMeth "DaySet" "nth" 1 0 [0] [] (mirD m_DaySet_nth) (dV 0) (dCons (dOp gSub (dV 3) (dC (.int 1))) dNil) dNil) (dV 5))) (dOr (dTst (dOp (gIn true "DaySet" (mirD m_DaySet___contains__)) (dV 5) (dV 0))) (dOr (dTst (dOp gGe (dV 5) (dV 1))) (dTst (dOp (gEq true) (dMeth "DaySet" "how_many" 2 0 [0, 1] [] (mirD m_DaySet_how_many) (dV 0) (dCons (dC (.int 0)) (dCons (dOp gAdd (dV 5) (dC (.int 1))) dNil)) dNil) (dV 3))))))
   (sRet (dC (.bl false)))
   sNext))
   sNext)
  (sSeq (sIf (dTru (dProp "DaySet" (mirD m_DaySet_is_finite) (dV 0)))
   (sRet (dC (.bl true)))
   sNext)
  (sSeq (sSet 6 (dMeth "DaySet" "nth" 1 0 [0] [] (mirD m_DaySet_nth) (dV 0) (dCons (dV 2) dNil) dNil))
  (sRet (dAndV (dOp (gIn false "DaySet" (mirD m_DaySet___contains__)) (dV 6) (dV 0)) (dAndV (dOp (gEq false) (dMeth "DaySet" "how_many" 2 0 [0, 1] [] (mirD m_DaySet_how_many) (dV 0) (dCons (dC (.int 0)) (dCons (dV 6) dNil)) dNil) (dV 2)) (dOp (gEq false) (dMeth "DaySet" "nth" 1 0 [0] [] (mirD m_DaySet_nth) (dV 0) (dCons (dOp gAdd (dV 2) (dC (.int 1))) dNil) dNil) (dMeth "DaySet" "next_from" 1 0 [0] [] (mirD m_DaySet_next_from) (dV 0) (dCons (dOp gAdd (dV 6) (dC (.int 1))) dNil) dNil))))))))))
noncomputable def m__law_back_right : Mir := fnMir none b__law_back_right 7
noncomputable def y_law_1 : PV.Env → SRes := (sIf (dOr (dNot (dTru (dCallF 4 m__law_sums_right [] (dCons (dV 3) (dCons (dV 4) (dCons (dV 6) (dCons (dV 7) dNil))))))) (dNot (dTru (dCallF 4 m__law_sums_right [] (dCons (dV 4) (dCons (dV 3) (dCons (dV 6) (dCons (dOp gAdd (dV 7) (dC (.int 40))) dNil))))))))
   (sRet (dC (.bl false)))
   sNext)
noncomputable def y_law_2 : PV.Env → SRes := (sIf (dNot (dTru (dCallF 3 m__law_back_right [] (dCons (dV 8) (dCons (dV 10) (dCons (dCallS 2 1 0 m__law_pick (dHere 1 (dCons (dSeq .lst (dCons (dCallS 2 1 0 m__law_take (dHere 1 (dCons (dC (.int 90)) dNil))) (dCons (dCallS 2 1 0 m__law_take (dHere 1 (dCons (dOp gPow (dC (.int 10)) (dC (.int 26))) dNil))) dNil))) dNil))) dNil))))))
   (sRet (dC (.bl false)))
   sNext)
noncomputable def y_law_3 : PV.Env → SRes := (sSeq (sSet 9 (dSeq .lst (dCons (dMeth "DaySet" "how_many" 2 0 [0, 1] [] (mirD m_DaySet_how_many) (dV 8) (dCons (dC (.int 0)) (dCons (dOp gIx (dV 5) (dC (.int 0))) dNil)) dNil) (dCons (dMeth "DaySet" "how_many" 2 0 [0, 1] [] (mirD m_DaySet_how_many) (dV 8) (dCons (dOp gIx (dV 5) (dC (.int 0))) (dCons (dOp gIx (dV 5) (dC (.int 1))) dNil)) dNil) (dCons (dMeth "DaySet" "how_many" 2 0 [0, 1] [] (mirD m_DaySet_how_many) (dV 8) (dCons (dOp gIx (dV 5) (dC (.int 1))) (dCons (dOp gIx (dV 5) (dC (.int 2))) dNil)) dNil) dNil)))))
  (sSeq (sIf (dTst (dOp (gEq true) (dCall gSum (dCons (dV 9) dNil)) (dMeth "DaySet" "how_many" 2 0 [0, 1] [] (mirD m_DaySet_how_many) (dV 8) (dCons (dC (.int 0)) (dCons (dOp gIx (dV 5) (dC (.int 2))) dNil)) dNil)))
   (sRet (dC (.bl false)))
   sNext)
  (sFor (iLst (dOp gAdd (dV 5) (dSeq .lst (dCons (dOp gAdd (dOp gIx (dV 5) (dC (.int 2))) (dC (.int 1))) dNil)))) (tgN 10) y_law_2)))
noncomputable def y_law_4 : PV.Env → SRes := (sSeq (sPar [3, 4] (dCons (dCallF 1 m__law_pattern [] (dCons (dCallS 2 1 0 m__law_set (dHere 1 (dCons (dC (.int 30)) dNil))) dNil)) (dCons (dCallF 1 m__law_pattern [] (dCons (dCallS 2 1 0 m__law_set (dHere 1 (dCons (dC (.int 30)) dNil))) dNil)) dNil)))
  (sSeq (sSet 5 (dCall gSortI (dCons (dSeq .lst (dCons (dCallS 2 1 0 m__law_take (dHere 1 (dCons (dC (.int 100)) dNil))) (dCons (dCallS 2 1 0 m__law_take (dHere 1 (dCons (dOp gPow (dC (.int 10)) (dC (.int 12))) dNil))) (dCons (dCallS 2 1 0 m__law_take (dHere 1 (dCons (dOp gPow (dC (.int 10)) (dC (.int 28))) dNil))) dNil)))) dNil)))
  (sSeq (sFor (iZip (dV 5) (dSl (dV 5) (dPart (dC (.int 1))) dNo)) (tgT [6, 7]) y_law_1)
  (sFor (iLst (dSeq .lst (dCons (dV 3) (dCons (dV 4) (dCons (dOp (gObj2 "DaySet" (mirD m_DaySet___or__)) (dV 3) (dV 4)) (dCons (dOp (gObj2 "DaySet" (mirD m_DaySet___and__)) (dV 3) (dV 4)) (dCons (dOp (gObj2 "DaySet" (mirD m_DaySet___sub__)) (dV 3) (dV 4)) (dCons (dUnF (gObj1 "DaySet" (mirD m_DaySet___invert__)) (dV 3)) dNil)))))))) (tgN 8) y_law_3))))
noncomputable def b_law : PV.Env → SRes := (sSeq (dSetF 1 1 m__law_begun (dCons (dV 0) dNil))
  (sSeq (sFor (iCall gRange1 (dCons (dOp gAdd (dC (.int 2)) (dCall gMin (dCons (dCall gLen (dCons (dV 0) dNil)) (dCons (dC (.int 4)) dNil)))) dNil)) (tgN 2) y_law_4)
  (sRet (dC (.bl true)))))
noncomputable def m_law : Mir := fnMir none b_law 11
section
variable {P : Program} {w : World} {K : PySem.W.Frag} {mg : Str → Option Value} {base : Heap}
abbrev OkF (P : Program) (w : World) (K : PySem.W.Frag) (mg : Str → Option Value) (base : Heap) (d : He.DefD) (ps : List Str) (k : Nat) (io : Option Nat) (M : Mir) : Prop := ∃ fd, FunD K d.name d.qual d.params d.body d.scope (d.dvs K) (d.kws K) (He.fAd K d.at_) fd ∧ Ok P w K mg base d.name ps k io M fd
abbrev OkQ (P : Program) (w : World) (K : PySem.W.Frag) (mg : Str → Option Value) (base : Heap) (p : PDef) (ps : List Str) (k : Nat) (io : Option Nat) (M : Mir) : Prop := ∃ fd, FunD K p.d.name p.d.qual p.d.params p.d.body p.d.scope (p.d.dvs K) (p.d.kws K) (p.ad K) fd ∧ FnA P w K mg base CX0 k (p.ad K) fd ps (spF K ps.length io M)
theorem ok__law_begun (G : Gm K mg) : OkF P w K mg base d__law_begun ["script"] 1 none m__law_begun := by
  obtain ⟨fd, Fd⟩ := G.fn 0 (p := p__law_begun) rfl
  refine ⟨fd, Fd, Fd.kp, G.glo (by decide), Fd.bindsN fun _ _ _ _ _ _ us hl => match us, hl with | [_], _ => rfl, ?_⟩
  have sc := sc__law_begun
  refine begun_ok (N := N__law_begun) (k := 0) Fd sc rfl (by decide) b1__law_begun b2__law_begun fw fc (fun cdv A outer s H E c hg hr hc => ?_) (fun ns hz => b1_eq ns hz) (fun ns hz => b2_eq ns hz)
  exact (pss_cons (ds_setLc (i := 1) rfl sc.nd rfl rfl (at_ne hc (by decide)) rfl (own := [("cell", 2)]) (at_all hc (by decide)) (di_list (de_var 0 (pv 0))) (show BlkOk N__law_begun (defScope s__law_begun) _ _ from ⟨rfl, by decide +kernel, by decide +kernel, by decide +kernel, by decide +kernel⟩) (fun _ _ _ _ _ => (pg_name (i := 2) sc.nd rfl (by first | exact Or.inl rfl | exact Or.inr rfl))) (tg_name 2) (fun _ _ _ _ _ _ hc1 => (dts_one (dt_cmp op_ge (opd_cmp _) (de_callB call_abs cd_abs rfl (G.free (x := "abs") (by decide)) bt_abs (da_cons (de_var 2 (pv 2)) da_nil)) (de_pow de_int de_int) (nomark _)))) (fun _ _ _ _ _ _ hc1 => (de_sub (de_callB call_abs cd_abs rfl (G.free (x := "abs") (by decide)) bt_abs (da_cons (de_var 2 (pv 2)) da_nil)) (de_pow de_int de_int)))) (pss_one (ps_ret (pe_disp (pps_cons pe_str (pv 1) (pps_cons pe_str (de_ex fun c' hc => (de_lc rfl sc.nd (own := [("cell", 2)]) (at_all hc (by decide)) (di_list (de_var 0 (pv 0))) (show BlkOk N__law_begun (defScope s__law_begun) _ _ from ⟨rfl, by decide +kernel, by decide +kernel, by decide +kernel, by decide +kernel⟩) (fun _ _ _ _ _ => (pg_name (i := 2) sc.nd rfl (by first | exact Or.inl rfl | exact Or.inr rfl))) (tg_name 2) (fun _ _ _ _ _ _ hc1 => dts_nil) (fun _ _ _ _ _ _ hc1 => (de_mod (de_callT call_int1 cd_int rfl (G.free (x := "int") (by decide)) bt_int (da_cons (de_callB call_abs cd_abs rfl (G.free (x := "abs") (by decide)) bt_abs (da_cons (de_var 2 (pv 2)) da_nil)) da_nil)) de_int)))) (pps_cons pe_str pe_int (pps_cons pe_str pe_int pps_nil)))) rfl rfl (by intro h; cases h) (by decide)))))
theorem ok__law_mixed (G : Gm K mg) : OkF P w K mg base d__law_mixed ["state"] 1 (some 0) m__law_mixed := by
  obtain ⟨fd, Fd⟩ := G.fn 1 (p := p__law_mixed) rfl
  refine ⟨fd, Fd, Fd.kp, G.glo (by decide), Fd.bindsN fun _ _ _ _ _ _ us hl => match us, hl with | [_], _ => rfl, ?_⟩
  have sc := sc__law_mixed
  refine fnA_mir (N := N__law_mixed) (ps := ["state"]) (k := 0) Fd sc (some 0) (by intro j hj; cases hj <;> decide) (by decide) b__law_mixed fun cdv A outer s H E c hg hr hc => ?_
  exact (dss_cons (ds_par (i := 1) (j := 2) (at_ne hc (by decide)) (at_ne hc (by decide)) rfl sc.nd rfl rfl (by decide) rfl rfl (da_cons (de_add (de_stI .turn (rm1 hr) (pv 0)) de_int) (da_cons de_int da_nil)) (by first | rfl | with_unfolding_all rfl | kernel_rfl))
  (dss_cons (ds_stPut .turn (rm1 hr) (pv 0) (de_var 1 (pv 1)))
  (dss_cons (ds_for (passes_of rfl) rfl (at_all hc (by decide)) (di_list (de_lst (da_cons de_int (da_cons de_int (da_cons de_int (da_cons de_int da_nil)))))) (pg_name (i := 3) sc.nd rfl (by first | exact Or.inl rfl | exact Or.inr rfl)) (tg_name 3)
   (dss_cons (ds_set (i := 4) (at_ne hc (by decide)) sc.nd rfl (by first | exact Or.inl rfl | exact Or.inr rfl) (de_add (de_mul de_int (de_var 1 (pv 1))) (de_div (de_var 3 (pv 3)) de_int)))
  (dss_cons (ds_for (passes_of rfl) rfl (at_all hc (by decide)) (di_stC (rm1 hr) (pv 0)) (pg_name (i := 5) sc.nd rfl (by first | exact Or.inl rfl | exact Or.inr rfl)) (tg_name 5)
   (dss_one (ds_set (i := 4) (at_ne hc (by decide)) sc.nd rfl (by first | exact Or.inl rfl | exact Or.inr rfl) (de_mod (de_callT call_int1 cd_int rfl (G.free (x := "int") (by decide)) bt_int (da_cons (de_add (de_add (de_mul (de_var 4 (pv 4)) de_int) (de_var 5 (pv 5))) (de_var 1 (pv 1))) da_nil)) (de_var 3 (pv 3))))))
  (dss_one (ds_set (i := 2) (at_ne hc (by decide)) sc.nd rfl (by first | exact Or.inl rfl | exact Or.inr rfl) (de_add (de_mul (de_var 2 (pv 2)) de_int) (de_mod (de_callT call_int1 cd_int rfl (G.free (x := "int") (by decide)) bt_int (da_cons (de_pow (de_var 4 (pv 4)) de_int) da_nil)) (de_var 3 (pv 3)))))))))
  (dss_one (ds_ret (de_var 2 (pv 2)))))))
theorem ok__law_take (G : Gm K mg) : OkF P w K mg base d__law_take ["state", "size"] 2 (some 0) m__law_take := by
  obtain ⟨fd, Fd⟩ := G.fn 2 (p := p__law_take) rfl
  obtain ⟨_, F__law_mixed, o__law_mixed⟩ := ok__law_mixed (P := P) (w := w) (base := base) G
  refine ⟨fd, Fd, Fd.kp, G.glo (by decide), Fd.bindsN fun _ _ _ _ _ _ us hl => match us, hl with | [_,_], _ => rfl, ?_⟩
  have sc := sc__law_take
  refine fnA_mir (N := N__law_take) (ps := ["state", "size"]) (k := 1) Fd sc (some 0) (by intro j hj; cases hj <;> decide) (by decide) b__law_take fun cdv A outer s H E c hg hr hc => ?_
  exact (dss_cons (ds_if (dt_cmp (opr_eq hr.units) opd_eq (de_stI .rest (rm1 hr) (pv 0)) de_int (nomark _))
   (dss_one (ds_stPut .rest (rm1 hr) (pv 0) (de_if (dt_stW hr.units (pv 0)) (de_stPop (rm1 hr) (pv 0)) (de_callOS rfl o__law_mixed (by decide) hg hr (by decide) rfl (das_here (pv 0) da_nil)))))
   dss_nil)
  (dss_cons (ds_set (i := 2) (at_ne hc (by decide)) sc.nd rfl (by first | exact Or.inl rfl | exact Or.inr rfl) (de_mod (de_callT call_int1 cd_int rfl (G.free (x := "int") (by decide)) bt_int (da_cons (de_stI .rest (rm1 hr) (pv 0)) da_nil)) (de_var 1 (pv 1))))
  (dss_cons (ds_stPut .rest (rm1 hr) (pv 0) (de_div (de_stI .rest (rm1 hr) (pv 0)) (de_var 1 (pv 1))))
  (dss_one (ds_ret (de_var 2 (pv 2)))))))
theorem ok__law_truths (G : Gm K mg) : OkF P w K mg base d__law_truths ["state", "size"] 3 (some 0) m__law_truths := by
  obtain ⟨fd, Fd⟩ := G.fn 3 (p := p__law_truths) rfl
  obtain ⟨_, F__law_take, o__law_take⟩ := ok__law_take (P := P) (w := w) (base := base) G
  refine ⟨fd, Fd, Fd.kp, G.glo (by decide), Fd.bindsN fun _ _ _ _ _ _ us hl => match us, hl with | [_,_], _ => rfl, ?_⟩
  have sc := sc__law_truths
  refine fnA_mir (N := N__law_truths) (ps := ["state", "size"]) (k := 2) Fd sc (some 0) (by intro j hj; cases hj <;> decide) (by decide) b__law_truths fun cdv A outer s H E c hg hr hc => ?_
  exact (dss_cons (ds_set (i := 2) (at_ne hc (by decide)) sc.nd rfl (by first | exact Or.inl rfl | exact Or.inr rfl) (de_callOS rfl o__law_take (by decide) hg hr (by decide) rfl (das_here (pv 0) (da_cons de_int da_nil))))
  (dss_cons (ds_if (dt_cmp (opr_eq hr.units) opd_eq (de_var 2 (pv 2)) de_int (nomark _))
   (dss_one (ds_ret (de_lc rfl sc.nd (own := [("turn", 3)]) (at_all hc (by decide)) (di_range1 rfl (G.free (x := "range") (by decide)) (da_cons (de_var 1 (pv 1)) da_nil)) (show BlkOk N__law_truths (defScope s__law_truths) _ _ from ⟨rfl, by decide +kernel, by decide +kernel, by decide +kernel, by decide +kernel⟩) (fun _ _ _ _ _ => (pg_name (i := 3) sc.nd rfl (by first | exact Or.inl rfl | exact Or.inr rfl))) (tg_name 3) (fun _ _ _ _ _ _ hc1 => dts_nil) (fun _ _ _ _ _ _ hc1 => (de_cmp (opr_eq hr.units) opd_eq (de_callOS rfl o__law_take (by decide) hg hr (by decide) rfl (das_here (pv 0) (da_cons de_int da_nil))) de_int (nomark _))))))
   dss_nil)
  (dss_cons (ds_if (dt_cmp (opr_eq hr.units) opd_eq (de_var 2 (pv 2)) de_int (nomark _))
   (dss_one (ds_ret (de_mul (de_lst (da_cons (de_cmp (opr_eq hr.units) opd_eq (de_callOS rfl o__law_take (by decide) hg hr (by decide) rfl (das_here (pv 0) (da_cons de_int da_nil))) de_int (nomark _)) da_nil)) (de_var 1 (pv 1)))))
   dss_nil)
  (dss_one (ds_ret (de_lc rfl sc.nd (own := [("turn", 3)]) (at_all hc (by decide)) (di_range1 rfl (G.free (x := "range") (by decide)) (da_cons (de_var 1 (pv 1)) da_nil)) (show BlkOk N__law_truths (defScope s__law_truths) _ _ from ⟨rfl, by decide +kernel, by decide +kernel, by decide +kernel, by decide +kernel⟩) (fun _ _ _ _ _ => (pg_name (i := 3) sc.nd rfl (by first | exact Or.inl rfl | exact Or.inr rfl))) (tg_name 3) (fun _ _ _ _ _ _ hc1 => dts_nil) (fun _ _ _ _ _ _ hc1 => (de_cmp (opr_eq hr.units) opd_eq (de_cmp (opr_eq hr.units) opd_eq (de_callOS rfl o__law_take (by decide) hg hr (by decide) rfl (das_here (pv 0) (da_cons de_int da_nil))) de_int (nomark _)) (de_cmp (opr_eq hr.units) opd_eq (de_var 2 (pv 2)) de_int (nomark _)) (nomark _)))))))))
theorem ok__law_set (G : Gm K mg) : OkF P w K mg base d__law_set ["state", "most"] 4 (some 0) m__law_set := by
  obtain ⟨fd, Fd⟩ := G.fn 4 (p := p__law_set) rfl
  obtain ⟨_, F__law_take, o__law_take⟩ := ok__law_take (P := P) (w := w) (base := base) G
  obtain ⟨_, F__law_truths, o__law_truths⟩ := ok__law_truths (P := P) (w := w) (base := base) G
  refine ⟨fd, Fd, Fd.kp, G.glo (by decide), Fd.bindsN fun _ _ _ _ _ _ us hl => match us, hl with | [_,_], _ => rfl, ?_⟩
  have sc := sc__law_set
  refine fnA_mir (N := N__law_set) (ps := ["state", "most"]) (k := 3) Fd sc (some 0) (by intro j hj; cases hj <;> decide) (by decide) b__law_set fun cdv A outer s H E c hg hr hc => ?_
  exact (dss_cons (ds_par (i := 2) (j := 3) (at_ne hc (by decide)) (at_ne hc (by decide)) rfl sc.nd rfl rfl (by decide) rfl rfl (da_cons (de_callOS rfl o__law_take (by decide) hg hr (by decide) rfl (das_here (pv 0) (da_cons de_int da_nil))) (da_cons (de_callOS rfl o__law_truths (by decide) hg hr (by decide) rfl (das_here (pv 0) (da_cons (de_add de_int (de_callOS rfl o__law_take (by decide) hg hr (by decide) rfl (das_here (pv 0) (da_cons (de_var 1 (pv 1)) da_nil)))) da_nil))) da_nil)) (by first | rfl | with_unfolding_all rfl | kernel_rfl))
  (dss_cons (ds_set (i := 4) (at_ne hc (by decide)) sc.nd rfl (by first | exact Or.inl rfl | exact Or.inr rfl) (de_callOS rfl o__law_truths (by decide) hg hr (by decide) rfl (das_here (pv 0) (da_cons (de_callOS rfl o__law_take (by decide) hg hr (by decide) rfl (das_here (pv 0) (da_cons (de_add (de_var 1 (pv 1)) de_int) da_nil))) da_nil))))
  (dss_cons (ds_if (dt_cmp (opr_eq hr.units) opd_eq (de_var 2 (pv 2)) de_int (nomark _))
   (dss_one (ds_ret (de_tup (da_cons (de_var 4 (pv 4)) (da_cons (de_mul (de_var 3 (pv 3)) (de_add de_int (de_callOS rfl o__law_take (by decide) hg hr (by decide) rfl (das_here (pv 0) (da_cons (de_callB (call_max2 rfl) cd_max rfl (G.free (x := "max") (by decide)) bt_max (da_cons de_int (da_cons (de_div (de_var 1 (pv 1)) (de_callB call_len cd_len rfl (G.free (x := "len") (by decide)) bt_len (da_cons (de_var 3 (pv 3)) da_nil))) da_nil))) da_nil))))) da_nil)))))
   dss_nil)
  (dss_cons (ds_if (dt_cmp (opr_eq hr.units) opd_eq (de_var 2 (pv 2)) de_int (nomark _))
   (dss_cons (ds_set (i := 5) (at_ne hc (by decide)) sc.nd rfl (by first | exact Or.inl rfl | exact Or.inr rfl) (de_callOS rfl o__law_take (by decide) hg hr (by decide) rfl (das_here (pv 0) (da_cons (de_add (de_callB call_len cd_len rfl (G.free (x := "len") (by decide)) bt_len (da_cons (de_var 3 (pv 3)) da_nil)) de_int) da_nil))))
  (dss_one (ds_ret (de_tup (da_cons (de_add (de_var 4 (pv 4)) (de_sl (de_var 3 (pv 3)) do_none (do_some (de_var 5 (pv 5))))) (da_cons (de_add (de_sl (de_var 3 (pv 3)) (do_some (de_var 5 (pv 5))) do_none) (de_sl (de_var 3 (pv 3)) do_none (do_some (de_var 5 (pv 5))))) da_nil))))))
   dss_nil)
  (dss_one (ds_ret (de_if (dt_cmp (opr_eq hr.units) opd_eq (de_var 2 (pv 2)) de_int (nomark _)) (de_tup (da_cons (de_var 4 (pv 4)) (da_cons (de_lst (da_cons de_bl da_nil)) da_nil))) (de_tup (da_cons (de_var 4 (pv 4)) (da_cons (de_var 3 (pv 3)) da_nil))))))))))
theorem ok_are_truths (G : Gm K mg) : OkF P w K mg base d_are_truths ["value"] 1 none m_are_truths := by
  obtain ⟨fd, Fd⟩ := G.fn 5 (p := p_are_truths) rfl
  refine ⟨fd, Fd, Fd.kp, G.glo (by decide), Fd.bindsN fun _ _ _ _ _ _ us hl => match us, hl with | [_], _ => rfl, ?_⟩
  have sc := sc_are_truths
  refine fnA_mir (N := N_are_truths) (ps := ["value"]) (k := 0) Fd sc none (by intro j hj; cases hj <;> decide) (by decide) b_are_truths fun cdv A outer s H E c hg hr hc => ?_
  exact (dss_one (ds_ret (de_and (de_isi2 rfl (G.free (x := "isinstance") (by decide)) rfl (G.free (x := "list") (by decide)) bt_list rfl (G.free (x := "tuple") (by decide)) bt_tuple (de_var 0 (pv 0))) (de_one (de_callB (cr_all rfl) cd_all rfl (G.free (x := "all") (by decide)) bt_all (da_cons (de_lc rfl sc.nd (own := [("truth", 1)]) (at_all hc (by decide)) (di_list (de_var 0 (pv 0))) (show BlkOk N_are_truths (defScope s_are_truths) _ _ from ⟨rfl, by decide +kernel, by decide +kernel, by decide +kernel, by decide +kernel⟩) (fun _ _ _ _ _ => (pg_name (i := 1) sc.nd rfl (by first | exact Or.inl rfl | exact Or.inr rfl))) (tg_name 1) (fun _ _ _ _ _ _ hc1 => dts_nil) (fun _ _ _ _ _ _ hc1 => (de_isi rfl (G.free (x := "isinstance") (by decide)) rfl (G.free (x := "bool") (by decide)) bt_bool (de_var 1 (pv 1))))) da_nil))))))
theorem ok_bits_of (G : Gm K mg) : OkF P w K mg base d_bits_of ["numbers"] 1 none m_bits_of := by
  obtain ⟨fd, Fd⟩ := G.fn 6 (p := p_bits_of) rfl
  refine ⟨fd, Fd, Fd.kp, G.glo (by decide), Fd.bindsN fun _ _ _ _ _ _ us hl => match us, hl with | [_], _ => rfl, ?_⟩
  have sc := sc_bits_of
  refine fnA_mir (N := N_bits_of) (ps := ["numbers"]) (k := 0) Fd sc none (by intro j hj; cases hj <;> decide) (by decide) b_bits_of fun cdv A outer s H E c hg hr hc => ?_
  exact (dss_cons (ds_set (i := 2) (at_ne hc (by decide)) sc.nd rfl (by first | exact Or.inl rfl | exact Or.inr rfl) (de_dc rfl sc.nd (own := [("number", 1)]) (at_all hc (by decide)) (di_list (de_var 0 (pv 0))) (show BlkOk N_bits_of (defScope s_bits_of) _ _ from ⟨rfl, by decide +kernel, by decide +kernel, by decide +kernel, by decide +kernel⟩) (fun _ _ _ _ _ => (pg_name (i := 1) sc.nd rfl (by first | exact Or.inl rfl | exact Or.inr rfl))) (tg_name 1) (fun _ _ _ _ _ _ hc1 => dts_nil) (fun _ _ _ _ _ _ hc1 => (de_var 1 (pv 1))) (fun _ _ _ _ _ _ hc1 => de_bl)))
  (dss_cons (ds_setLc (i := 4) rfl sc.nd rfl rfl (at_ne hc (by decide)) rfl (own := [("place", 3)]) (at_all hc (by decide)) (di_range1 rfl (G.free (x := "range") (by decide)) (da_cons (de_add (de_maxDf rfl hr.units rfl (G.free (x := "max") (by decide)) bt_max (de_var 0 (pv 0)) (dk_cons de_int dk_nil)) de_int) da_nil)) (show BlkOk N_bits_of (defScope s_bits_of) _ _ from ⟨rfl, by decide +kernel, by decide +kernel, by decide +kernel, by decide +kernel⟩) (fun _ _ _ _ _ => (pg_name (i := 3) sc.nd rfl (by first | exact Or.inl rfl | exact Or.inr rfl))) (tg_name 3) (fun _ _ _ _ _ _ hc1 => dts_nil) (fun _ _ _ _ _ _ hc1 => (de_if (dt_cmp (op_inDk hr.units) opd_inDk (de_var 3 (pv 3)) (de_var 2 (pv 2)) rfl) de_str de_str)))
  (dss_one (ds_ret (de_callT (call_int2 (G.xf 9 rfl)) cd_int2 rfl (G.free (x := "int") (by decide)) bt_int (da_cons (de_join de_str (de_slS (de_var 4 (pv 4)) do_none do_none (do_some (de_neg de_int)))) (da_cons de_int da_nil)))))))
theorem ok_prime_divisors (G : Gm K mg) : OkF P w K mg base d_prime_divisors ["number"] 1 none m_prime_divisors := by
  obtain ⟨fd, Fd⟩ := G.fn 7 (p := p_prime_divisors) rfl
  refine ⟨fd, Fd, Fd.kp, G.glo (by decide), Fd.bindsN fun _ _ _ _ _ _ us hl => match us, hl with | [_], _ => rfl, ?_⟩
  have sc := sc_prime_divisors
  refine fnA_mir (N := N_prime_divisors) (ps := ["number"]) (k := 0) Fd sc none (by intro j hj; cases hj <;> decide) (by decide) b_prime_divisors fun cdv A outer s H E c hg hr hc => ?_
  exact (dss_cons (ds_set (i := 1) (at_ne hc (by decide)) sc.nd rfl (by first | exact Or.inl rfl | exact Or.inr rfl) (de_lst da_nil))
  (dss_cons (ds_set (i := 2) (at_ne hc (by decide)) sc.nd rfl (by first | exact Or.inl rfl | exact Or.inr rfl) (de_var 0 (pv 0)))
  (dss_cons (ds_set (i := 3) (at_ne hc (by decide)) sc.nd rfl (by first | exact Or.inl rfl | exact Or.inr rfl) de_int)
  (dss_cons (ds_while (passes_of rfl) (dt_cmp op_le (opd_cmp _) (de_mul (de_var 3 (pv 3)) (de_var 3 (pv 3))) (de_var 2 (pv 2)) (nomark _))
   (dss_cons (ds_if (dt_cmp (opr_eq hr.units) opd_eq (de_mod (de_var 2 (pv 2)) (de_var 3 (pv 3))) de_int (nomark _))
   (dss_cons (ds_set (i := 1) (at_ne hc (by decide)) sc.nd rfl (by first | exact Or.inl rfl | exact Or.inr rfl) (de_add (de_var 1 (pv 1)) (de_lst (da_cons (de_var 3 (pv 3)) da_nil))))
  (dss_one (ds_while (passes_of rfl) (dt_cmp (opr_eq hr.units) opd_eq (de_mod (de_var 2 (pv 2)) (de_var 3 (pv 3))) de_int (nomark _))
   (dss_one (ds_set (i := 2) (at_ne hc (by decide)) sc.nd rfl (by first | exact Or.inl rfl | exact Or.inr rfl) (de_div (de_var 2 (pv 2)) (de_var 3 (pv 3))))))))
   dss_nil)
  (dss_one (ds_set (i := 3) (at_ne hc (by decide)) sc.nd rfl (by first | exact Or.inl rfl | exact Or.inr rfl) (de_add (de_var 3 (pv 3)) de_int)))))
  (dss_one (ds_ret (de_add (de_var 1 (pv 1)) (de_if (dt_cmp op_gt (opd_cmp _) (de_var 2 (pv 2)) de_int (nomark _)) (de_lst (da_cons (de_var 2 (pv 2)) da_nil)) (de_lst da_nil)))))))))
theorem ok_mask (G : Gm K mg) : OkF P w K mg base d_mask ["size"] 1 none m_mask := by
  obtain ⟨fd, Fd⟩ := G.fn 8 (p := p_mask) rfl
  refine ⟨fd, Fd, Fd.kp, G.glo (by decide), Fd.bindsN fun _ _ _ _ _ _ us hl => match us, hl with | [_], _ => rfl, ?_⟩
  have sc := sc_mask
  refine fnA_mir (N := N_mask) (ps := ["size"]) (k := 0) Fd sc none (by intro j hj; cases hj <;> decide) (by decide) b_mask fun cdv A outer s H E c hg hr hc => ?_
  exact (dss_one (ds_ret (de_sub (de_shl de_int (de_var 0 (pv 0))) de_int)))
theorem ok_repeat (G : Gm K mg) : OkF P w K mg base d_repeat ["bits", "size", "times"] 2 none m_repeat := by
  obtain ⟨fd, Fd⟩ := G.fn 9 (p := p_repeat) rfl
  obtain ⟨_, F_mask, o_mask⟩ := ok_mask (P := P) (w := w) (base := base) G
  refine ⟨fd, Fd, Fd.kp, G.glo (by decide), Fd.bindsN fun _ _ _ _ _ _ us hl => match us, hl with | [_,_,_], _ => rfl, ?_⟩
  have sc := sc_repeat
  refine fnA_mir (N := N_repeat) (ps := ["bits", "size", "times"]) (k := 1) Fd sc none (by intro j hj; cases hj <;> decide) (by decide) b_repeat fun cdv A outer s H E c hg hr hc => ?_
  exact (dss_cons (ds_set (i := 3) (at_ne hc (by decide)) sc.nd rfl (by first | exact Or.inl rfl | exact Or.inr rfl) (de_var 0 (pv 0)))
  (dss_cons (ds_set (i := 4) (at_ne hc (by decide)) sc.nd rfl (by first | exact Or.inl rfl | exact Or.inr rfl) de_int)
  (dss_cons (ds_while (passes_of rfl) (dt_cmp op_lt (opd_cmp _) (de_var 4 (pv 4)) (de_var 2 (pv 2)) (nomark _))
   (dss_cons (ds_set (i := 5) (at_ne hc (by decide)) sc.nd rfl (by first | exact Or.inl rfl | exact Or.inr rfl) (de_callB (call_min2 rfl) cd_min rfl (G.free (x := "min") (by decide)) bt_min (da_cons (de_var 4 (pv 4)) (da_cons (de_sub (de_var 2 (pv 2)) (de_var 4 (pv 4))) da_nil))))
  (dss_cons (ds_set (i := 3) (at_ne hc (by decide)) sc.nd rfl (by first | exact Or.inl rfl | exact Or.inr rfl) (de_bor (de_var 3 (pv 3)) (de_shl (de_band (de_var 3 (pv 3)) (de_callO rfl o_mask hg hr (by decide) rfl (da_cons (de_mul (de_var 1 (pv 1)) (de_var 5 (pv 5))) da_nil))) (de_mul (de_var 1 (pv 1)) (de_var 4 (pv 4))))))
  (dss_one (ds_set (i := 4) (at_ne hc (by decide)) sc.nd rfl (by first | exact Or.inl rfl | exact Or.inr rfl) (de_add (de_var 4 (pv 4)) (de_var 5 (pv 5))))))))
  (dss_one (ds_ret (de_var 3 (pv 3)))))))
theorem ok_shortest (G : Gm K mg) : OkF P w K mg base d_shortest ["period", "cycle"] 3 none m_shortest := by
  obtain ⟨fd, Fd⟩ := G.fn 10 (p := p_shortest) rfl
  obtain ⟨_, F_prime_divisors, o_prime_divisors⟩ := ok_prime_divisors (P := P) (w := w) (base := base) G
  obtain ⟨_, F_mask, o_mask⟩ := ok_mask (P := P) (w := w) (base := base) G
  obtain ⟨_, F_repeat, o_repeat⟩ := ok_repeat (P := P) (w := w) (base := base) G
  refine ⟨fd, Fd, Fd.kp, G.glo (by decide), Fd.bindsN fun _ _ _ _ _ _ us hl => match us, hl with | [_,_], _ => rfl, ?_⟩
  have sc := sc_shortest
  refine fnA_mir (N := N_shortest) (ps := ["period", "cycle"]) (k := 2) Fd sc none (by intro j hj; cases hj <;> decide) (by decide) b_shortest fun cdv A outer s H E c hg hr hc => ?_
  exact (dss_cons (ds_for (passes_of rfl) rfl (at_all hc (by decide)) (di_list (de_callO rfl o_prime_divisors hg hr (by decide) rfl (da_cons (de_var 0 (pv 0)) da_nil))) (pg_name (i := 2) sc.nd rfl (by first | exact Or.inl rfl | exact Or.inr rfl)) (tg_name 2)
   (dss_one (ds_while (passes_of rfl) (dt_cmp (opr_eq hr.units) opd_eq (de_mod (de_var 0 (pv 0)) (de_var 2 (pv 2))) de_int (nomark _))
   (dss_cons (ds_set (i := 3) (at_ne hc (by decide)) sc.nd rfl (by first | exact Or.inl rfl | exact Or.inr rfl) (de_div (de_var 0 (pv 0)) (de_var 2 (pv 2))))
  (dss_cons (ds_if (dt_cmp (opr_ne hr.units) opd_ne (de_callO rfl o_repeat hg hr (by decide) rfl (da_cons (de_band (de_var 1 (pv 1)) (de_callO rfl o_mask hg hr (by decide) rfl (da_cons (de_var 3 (pv 3)) da_nil))) (da_cons (de_var 3 (pv 3)) (da_cons (de_var 2 (pv 2)) da_nil)))) (de_var 1 (pv 1)) (nomark _))
   (dss_one ds_break)
   dss_nil)
  (dss_one (ds_par (i := 0) (j := 1) (at_ne hc (by decide)) (at_ne hc (by decide)) rfl sc.nd rfl rfl (by decide) rfl rfl (da_cons (de_var 3 (pv 3)) (da_cons (de_band (de_var 1 (pv 1)) (de_callO rfl o_mask hg hr (by decide) rfl (da_cons (de_var 3 (pv 3)) da_nil))) da_nil)) (by first | rfl | with_unfolding_all rfl | kernel_rfl))))))))
  (dss_one (ds_ret (de_tup (da_cons (de_var 0 (pv 0)) (da_cons (de_var 1 (pv 1)) da_nil))))))
theorem ok_canonical (G : Gm K mg) : OkF P w K mg base d_canonical ["start", "period", "head", "cycle"] 4 none m_canonical := by
  obtain ⟨fd, Fd⟩ := G.fn 11 (p := p_canonical) rfl
  obtain ⟨_, F_shortest, o_shortest⟩ := ok_shortest (P := P) (w := w) (base := base) G
  obtain ⟨_, F_mask, o_mask⟩ := ok_mask (P := P) (w := w) (base := base) G
  refine ⟨fd, Fd, Fd.kp, G.glo (by decide), Fd.bindsN fun _ _ _ _ _ _ us hl => match us, hl with | [_,_,_,_], _ => rfl, ?_⟩
  have sc := sc_canonical
  refine fnA_mir (N := N_canonical) (ps := ["start", "period", "head", "cycle"]) (k := 3) Fd sc none (by intro j hj; cases hj <;> decide) (by decide) b_canonical fun cdv A outer s H E c hg hr hc => ?_
  exact (dss_cons (ds_asg (at_all hc (by decide)) (de_callO rfl o_shortest hg hr (by decide) rfl (da_cons (de_var 1 (pv 1)) (da_cons (de_var 3 (pv 3)) da_nil))) (pg_tup rfl (pgs_cons (pg_name (i := 1) sc.nd rfl (by first | exact Or.inl rfl | exact Or.inr rfl)) (pgs_cons (pg_name (i := 3) sc.nd rfl (by first | exact Or.inl rfl | exact Or.inr rfl)) pgs_nil))) (tg_tup [1, 3]))
  (dss_cons (ds_set (i := 4) (at_ne hc (by decide)) sc.nd rfl (by first | exact Or.inl rfl | exact Or.inr rfl) (de_bor (de_var 2 (pv 2)) (de_shl (de_var 3 (pv 3)) (de_var 0 (pv 0)))))
  (dss_cons (ds_set (i := 5) (at_ne hc (by decide)) sc.nd rfl (by first | exact Or.inl rfl | exact Or.inr rfl) (de_band (de_bxor (de_var 4 (pv 4)) (de_shr (de_var 4 (pv 4)) (de_var 1 (pv 1)))) (de_callO rfl o_mask hg hr (by decide) rfl (da_cons (de_var 0 (pv 0)) da_nil))))
  (dss_cons (ds_set (i := 6) (at_ne hc (by decide)) sc.nd rfl (by first | exact Or.inl rfl | exact Or.inr rfl) (de_if (dt_cmp (opr_ne hr.units) opd_ne (de_var 5 (pv 5)) de_int (nomark _)) (de_callB call_len cd_len rfl (G.free (x := "len") (by decide)) bt_len (da_cons (de_fmtB (de_var 5 (pv 5))) da_nil)) de_int))
  (dss_one (ds_ret (de_tup (da_cons (de_var 6 (pv 6)) (da_cons (de_var 1 (pv 1)) (da_cons (de_band (de_var 4 (pv 4)) (de_callO rfl o_mask hg hr (by decide) rfl (da_cons (de_var 6 (pv 6)) da_nil))) (da_cons (de_band (de_shr (de_var 4 (pv 4)) (de_var 6 (pv 6))) (de_callO rfl o_mask hg hr (by decide) rfl (da_cons (de_var 1 (pv 1)) da_nil))) da_nil)))))))))))
theorem ok_DaySet___init__ (G : Gm K mg) : OkQ P w K mg base p_DaySet___init__ ["self", "start", "period", "head", "cycle"] 5 (some 0) m_DaySet___init__ := by
  obtain ⟨fd, Fd⟩ := G.fn 12 (p := p_DaySet___init__) rfl
  obtain ⟨_, F_canonical, o_canonical⟩ := ok_canonical (P := P) (w := w) (base := base) G
  refine ⟨fd, Fd, ?_⟩
  have sc := sc_DaySet___init__
  refine fnA_mir (N := N_DaySet___init__) (ps := ["self", "start", "period", "head", "cycle"]) (k := 4) Fd sc (some 0) (by intro j hj; cases hj <;> decide) (by decide) b_DaySet___init__ fun cdv A outer s H E c hg hr hc => ?_
  exact (dss_one (ds_fldOb (y := "DaySet") (pv 0) (de_callO rfl o_canonical hg hr (by decide) rfl (da_cons (de_var 1 (pv 1)) (da_cons (de_var 2 (pv 2)) (da_cons (de_var 3 (pv 3)) (da_cons (de_var 4 (pv 4)) da_nil))))) ((fTyp_ok (G.xf 2 rfl)).cls) (He.noat_ok (G.xf 10 rfl))))
theorem ok_DaySet_pattern (G : Gm K mg) : OkQ P w K mg base p_DaySet_pattern ["cls", "head", "cycle"] 7 none m_DaySet_pattern := by
  obtain ⟨fd, Fd⟩ := G.fn 13 (p := p_DaySet_pattern) rfl
  obtain ⟨_, F_are_truths, o_are_truths⟩ := ok_are_truths (P := P) (w := w) (base := base) G
  obtain ⟨_, F_bits_of, o_bits_of⟩ := ok_bits_of (P := P) (w := w) (base := base) G
  obtain ⟨_, F_DaySet___init__, o_DaySet___init__⟩ := ok_DaySet___init__ (P := P) (w := w) (base := base) G
  have kb_DaySet___init___5 : KBd K _ ["self", "start", "period", "head", "cycle"] 5 [] (0 :: ([0, 1, 2, 3] : List Nat).map (· + 1)) [] := PV.FunD.kbd0 F_DaySet___init__ (fun _ _ _ _ _ _ us ws hu hw => match us, ws, hu, hw with | [_, _, _, _, _], [], _, _ => rfl)
  refine ⟨fd, Fd, ?_⟩
  have sc := sc_DaySet_pattern
  refine fnA_mir (N := N_DaySet_pattern) (ps := ["cls", "head", "cycle"]) (k := 6) Fd sc none (by intro j hj; cases hj <;> decide) (by decide) b_DaySet_pattern fun cdv A outer s H E c hg hr hc => ?_
  exact (dss_cons (ds_if (dt_not (dt_tru (de_callO rfl o_are_truths hg hr (by decide) rfl (da_cons (de_var 1 (pv 1)) da_nil))))
   (dss_one ds_never)
   dss_nil)
  (dss_cons (ds_if (dt_bool (dw_or (dt_not (dt_tru (de_callO rfl o_are_truths hg hr (by decide) rfl (da_cons (de_var 2 (pv 2)) da_nil)))) (dw_or1 (dt_cmp (opr_eq hr.units) opd_eq (de_callB call_len cd_len rfl (G.free (x := "len") (by decide)) bt_len (da_cons (de_var 2 (pv 2)) da_nil)) de_int (nomark _)))))
   (dss_one ds_never)
   dss_nil)
  (dss_cons (ds_setLc (i := 5) rfl sc.nd rfl rfl (at_ne hc (by decide)) rfl (own := [("place", 3), ("truth", 4)]) (at_all hc (by decide)) (di_enumL rfl (G.free (x := "enumerate") (by decide)) (de_var 1 (pv 1))) (show BlkOk N_DaySet_pattern (defScope s_DaySet_pattern) _ _ from ⟨rfl, by decide +kernel, by decide +kernel, by decide +kernel, by decide +kernel⟩) (fun _ _ _ _ _ => (pg_tup rfl (pgs_cons (pg_name (i := 3) sc.nd rfl (by first | exact Or.inl rfl | exact Or.inr rfl)) (pgs_cons (pg_name (i := 4) sc.nd rfl (by first | exact Or.inl rfl | exact Or.inr rfl)) pgs_nil)))) (tg_tup [3, 4]) (fun _ _ _ _ _ _ hc1 => (dts_one (dt_tru (de_var 4 (pv 4))))) (fun _ _ _ _ _ _ hc1 => (de_var 3 (pv 3))))
  (dss_cons (ds_setLc (i := 6) rfl sc.nd rfl rfl (at_ne hc (by decide)) rfl (own := [("place", 3), ("truth", 4)]) (at_all hc (by decide)) (di_enumL rfl (G.free (x := "enumerate") (by decide)) (de_var 2 (pv 2))) (show BlkOk N_DaySet_pattern (defScope s_DaySet_pattern) _ _ from ⟨rfl, by decide +kernel, by decide +kernel, by decide +kernel, by decide +kernel⟩) (fun _ _ _ _ _ => (pg_tup rfl (pgs_cons (pg_name (i := 3) sc.nd rfl (by first | exact Or.inl rfl | exact Or.inr rfl)) (pgs_cons (pg_name (i := 4) sc.nd rfl (by first | exact Or.inl rfl | exact Or.inr rfl)) pgs_nil)))) (tg_tup [3, 4]) (fun _ _ _ _ _ _ hc1 => (dts_one (dt_tru (de_var 4 (pv 4))))) (fun _ _ _ _ _ _ hc1 => (de_var 3 (pv 3))))
  (dss_one (ds_ret (de_appL (y := "DaySet") 0 (pv 0) (He.mkr_ok (G.xf 8 rfl)).kp (make_of (He.mkr_ok (G.xf 8 rfl)) o_DaySet___init__ hg hr (by decide) kb_DaySet___init___5) rfl (da_cons (de_callB call_len cd_len rfl (G.free (x := "len") (by decide)) bt_len (da_cons (de_var 1 (pv 1)) da_nil)) (da_cons (de_callB call_len cd_len rfl (G.free (x := "len") (by decide)) bt_len (da_cons (de_var 2 (pv 2)) da_nil)) (da_cons (de_if (dt_tru (de_var 5 (pv 5))) (de_callO rfl o_bits_of hg hr (by decide) rfl (da_cons (de_var 5 (pv 5)) da_nil)) de_int) (da_cons (de_if (dt_tru (de_var 6 (pv 6))) (de_callO rfl o_bits_of hg hr (by decide) rfl (da_cons (de_var 6 (pv 6)) da_nil)) de_int) da_nil)))) dk_nil)))))))
theorem ok__law_pattern (G : Gm K mg) : OkF P w K mg base d__law_pattern ["model"] 8 none m__law_pattern := by
  obtain ⟨fd, Fd⟩ := G.fn 14 (p := p__law_pattern) rfl
  obtain ⟨_, F_DaySet_pattern, o_DaySet_pattern⟩ := ok_DaySet_pattern (P := P) (w := w) (base := base) G
  have kb_DaySet_pattern_3 : KBd K _ ["cls", "head", "cycle"] 3 [] (0 :: ([0, 1] : List Nat).map (· + 1)) [] := PV.FunD.kbd0 F_DaySet_pattern (fun _ _ _ _ _ _ us ws hu hw => match us, ws, hu, hw with | [_, _, _], [], _, _ => rfl)
  refine ⟨fd, Fd, Fd.kp, G.glo (by decide), Fd.bindsN fun _ _ _ _ _ _ us hl => match us, hl with | [_], _ => rfl, ?_⟩
  have sc := sc__law_pattern
  refine fnA_mir (N := N__law_pattern) (ps := ["model"]) (k := 7) Fd sc none (by intro j hj; cases hj <;> decide) (by decide) b__law_pattern fun cdv A outer s H E c hg hr hc => ?_
  exact (dss_one (ds_ret (de_cmeth (y := "DaySet") (de_cls rfl (G.glo (x := "DaySet") (by decide))) (fRd_ok (G.xf 7 rfl)) (fCm_ok (G.xf 6 rfl)) (run_of o_DaySet_pattern hg hr (by decide) kb_DaySet_pattern_3) rfl (da_cons (de_ix (de_var 0 (pv 0)) de_int (fun _ _ => rfl)) (da_cons (de_ix (de_var 0 (pv 0)) de_int (fun _ _ => rfl)) da_nil)) dk_nil)))
theorem ok_is_number (G : Gm K mg) : OkF P w K mg base d_is_number ["value"] 1 none m_is_number := by
  obtain ⟨fd, Fd⟩ := G.fn 15 (p := p_is_number) rfl
  refine ⟨fd, Fd, Fd.kp, G.glo (by decide), Fd.bindsN fun _ _ _ _ _ _ us hl => match us, hl with | [_], _ => rfl, ?_⟩
  have sc := sc_is_number
  refine fnA_mir (N := N_is_number) (ps := ["value"]) (k := 0) Fd sc none (by intro j hj; cases hj <;> decide) (by decide) b_is_number fun cdv A outer s H E c hg hr hc => ?_
  exact (dss_one (ds_ret (de_and (de_isi rfl (G.free (x := "isinstance") (by decide)) rfl (G.free (x := "int") (by decide)) bt_int (de_var 0 (pv 0))) (de_one (de_not (de_isi rfl (G.free (x := "isinstance") (by decide)) rfl (G.free (x := "bool") (by decide)) bt_bool (de_var 0 (pv 0))))))))
theorem ok_need_number (G : Gm K mg) : OkF P w K mg base d_need_number ["value", "least"] 2 none m_need_number := by
  obtain ⟨fd, Fd⟩ := G.fn 16 (p := p_need_number) rfl
  obtain ⟨_, F_is_number, o_is_number⟩ := ok_is_number (P := P) (w := w) (base := base) G
  refine ⟨fd, Fd, Fd.kp, G.glo (by decide), Fd.bindsN fun _ _ _ _ _ _ us hl => match us, hl with | [_,_], _ => rfl, ?_⟩
  have sc := sc_need_number
  refine fnA_mir (N := N_need_number) (ps := ["value", "least"]) (k := 1) Fd sc none (by intro j hj; cases hj <;> decide) (by decide) b_need_number fun cdv A outer s H E c hg hr hc => ?_
  exact (dss_one (ds_if (dt_bool (dw_or (dt_not (dt_tru (de_callO rfl o_is_number hg hr (by decide) rfl (da_cons (de_var 0 (pv 0)) da_nil)))) (dw_or1 (dt_bool (dw_and (dt_cmp opr_isnot opd_isnot (de_var 1 (pv 1)) de_non (nomark _)) (dw_and1 (dt_cmp op_lt (opd_cmp _) (de_var 0 (pv 0)) (de_var 1 (pv 1)) (nomark _))))))))
   (dss_one ds_never)
   dss_nil))
theorem ok_ones (G : Gm K mg) : OkF P w K mg base d_ones ["bits"] 1 none m_ones := by
  obtain ⟨fd, Fd⟩ := G.fn 17 (p := p_ones) rfl
  refine ⟨fd, Fd, Fd.kp, G.glo (by decide), Fd.bindsN fun _ _ _ _ _ _ us hl => match us, hl with | [_], _ => rfl, ?_⟩
  have sc := sc_ones
  refine fnA_mir (N := N_ones) (ps := ["bits"]) (k := 0) Fd sc none (by intro j hj; cases hj <;> decide) (by decide) b_ones fun cdv A outer s H E c hg hr hc => ?_
  exact (dss_one (ds_ret (de_count (de_fmtB (de_var 0 (pv 0))) de_str)))
theorem ok_number_before (G : Gm K mg) : OkF P w K mg base d_number_before ["form", "day"] 2 none m_number_before := by
  obtain ⟨fd, Fd⟩ := G.fn 18 (p := p_number_before) rfl
  obtain ⟨_, F_mask, o_mask⟩ := ok_mask (P := P) (w := w) (base := base) G
  obtain ⟨_, F_ones, o_ones⟩ := ok_ones (P := P) (w := w) (base := base) G
  refine ⟨fd, Fd, Fd.kp, G.glo (by decide), Fd.bindsN fun _ _ _ _ _ _ us hl => match us, hl with | [_,_], _ => rfl, ?_⟩
  have sc := sc_number_before
  refine fnA_mir (N := N_number_before) (ps := ["form", "day"]) (k := 1) Fd sc none (by intro j hj; cases hj <;> decide) (by decide) b_number_before fun cdv A outer s H E c hg hr hc => ?_
  exact (dss_cons (ds_asg (at_all hc (by decide)) (de_var 0 (pv 0)) (pg_tup rfl (pgs_cons (pg_name (i := 2) sc.nd rfl (by first | exact Or.inl rfl | exact Or.inr rfl)) (pgs_cons (pg_name (i := 3) sc.nd rfl (by first | exact Or.inl rfl | exact Or.inr rfl)) (pgs_cons (pg_name (i := 4) sc.nd rfl (by first | exact Or.inl rfl | exact Or.inr rfl)) (pgs_cons (pg_name (i := 5) sc.nd rfl (by first | exact Or.inl rfl | exact Or.inr rfl)) pgs_nil))))) (tg_tup [2, 3, 4, 5]))
  (dss_cons (ds_if (dt_cmp op_le (opd_cmp _) (de_var 1 (pv 1)) (de_var 2 (pv 2)) (nomark _))
   (dss_one (ds_ret (de_callO rfl o_ones hg hr (by decide) rfl (da_cons (de_band (de_var 4 (pv 4)) (de_callO rfl o_mask hg hr (by decide) rfl (da_cons (de_callB (call_max2 rfl) cd_max rfl (G.free (x := "max") (by decide)) bt_max (da_cons (de_var 1 (pv 1)) (da_cons de_int da_nil))) da_nil))) da_nil))))
   dss_nil)
  (dss_cons (ds_par (i := 6) (j := 7) (at_ne hc (by decide)) (at_ne hc (by decide)) rfl sc.nd rfl rfl (by decide) rfl rfl (da_cons (de_div (de_sub (de_var 1 (pv 1)) (de_var 2 (pv 2))) (de_var 3 (pv 3))) (da_cons (de_mod (de_sub (de_var 1 (pv 1)) (de_var 2 (pv 2))) (de_var 3 (pv 3))) da_nil)) (by first | rfl | with_unfolding_all rfl | kernel_rfl))
  (dss_one (ds_ret (de_add (de_add (de_callO rfl o_ones hg hr (by decide) rfl (da_cons (de_var 4 (pv 4)) da_nil)) (de_mul (de_var 6 (pv 6)) (de_callO rfl o_ones hg hr (by decide) rfl (da_cons (de_var 5 (pv 5)) da_nil)))) (de_callO rfl o_ones hg hr (by decide) rfl (da_cons (de_band (de_var 5 (pv 5)) (de_callO rfl o_mask hg hr (by decide) rfl (da_cons (de_var 7 (pv 7)) da_nil))) da_nil))))))))
theorem ok_DaySet_how_many (G : Gm K mg) : OkQ P w K mg base p_DaySet_how_many ["self", "low", "high"] 3 none m_DaySet_how_many := by
  obtain ⟨fd, Fd⟩ := G.fn 19 (p := p_DaySet_how_many) rfl
  obtain ⟨_, F_need_number, o_need_number⟩ := ok_need_number (P := P) (w := w) (base := base) G
  obtain ⟨_, F_number_before, o_number_before⟩ := ok_number_before (P := P) (w := w) (base := base) G
  refine ⟨fd, Fd, ?_⟩
  have sc := sc_DaySet_how_many
  refine fnA_mir (N := N_DaySet_how_many) (ps := ["self", "low", "high"]) (k := 2) Fd sc none (by intro j hj; cases hj <;> decide) (by decide) b_DaySet_how_many fun cdv A outer s H E c hg hr hc => ?_
  exact (dss_cons (ds_expr (de_callO rfl o_need_number hg hr (by decide) rfl (da_cons (de_var 1 (pv 1)) (da_cons de_non da_nil))))
  (dss_cons (ds_expr (de_callO rfl o_need_number hg hr (by decide) rfl (da_cons (de_var 2 (pv 2)) (da_cons de_non da_nil))))
  (dss_one (ds_ret (de_callB (call_max2 rfl) cd_max rfl (G.free (x := "max") (by decide)) bt_max (da_cons de_int (da_cons (de_sub (de_callO rfl o_number_before hg hr (by decide) rfl (da_cons (de_fld (y := "DaySet") (de_var 0 (pv 0)) ((fTyp_ok (G.xf 2 rfl)).cls) (He.noat_ok (G.xf 10 rfl))) (da_cons (de_var 2 (pv 2)) da_nil))) (de_callO rfl o_number_before hg hr (by decide) rfl (da_cons (de_fld (y := "DaySet") (de_var 0 (pv 0)) ((fTyp_ok (G.xf 2 rfl)).cls) (He.noat_ok (G.xf 10 rfl))) (da_cons (de_var 1 (pv 1)) da_nil)))) da_nil)))))))
theorem ok_greatest_divisor (G : Gm K mg) : OkF P w K mg base d_greatest_divisor ["one", "other"] 1 none m_greatest_divisor := by
  obtain ⟨fd, Fd⟩ := G.fn 20 (p := p_greatest_divisor) rfl
  refine ⟨fd, Fd, Fd.kp, G.glo (by decide), Fd.bindsN fun _ _ _ _ _ _ us hl => match us, hl with | [_,_], _ => rfl, ?_⟩
  have sc := sc_greatest_divisor
  refine fnA_mir (N := N_greatest_divisor) (ps := ["one", "other"]) (k := 0) Fd sc none (by intro j hj; cases hj <;> decide) (by decide) b_greatest_divisor fun cdv A outer s H E c hg hr hc => ?_
  exact (dss_cons (ds_while (passes_of rfl) (dt_cmp (opr_ne hr.units) opd_ne (de_var 1 (pv 1)) de_int (nomark _))
   (dss_one (ds_par (i := 0) (j := 1) (at_ne hc (by decide)) (at_ne hc (by decide)) rfl sc.nd rfl rfl (by decide) rfl rfl (da_cons (de_var 1 (pv 1)) (da_cons (de_mod (de_var 0 (pv 0)) (de_var 1 (pv 1))) da_nil)) (by first | rfl | with_unfolding_all rfl | kernel_rfl))))
  (dss_one (ds_ret (de_var 0 (pv 0)))))
theorem ok_window (G : Gm K mg) : OkF P w K mg base d_window ["form", "size"] 3 none m_window := by
  obtain ⟨fd, Fd⟩ := G.fn 21 (p := p_window) rfl
  obtain ⟨_, F_mask, o_mask⟩ := ok_mask (P := P) (w := w) (base := base) G
  obtain ⟨_, F_repeat, o_repeat⟩ := ok_repeat (P := P) (w := w) (base := base) G
  refine ⟨fd, Fd, Fd.kp, G.glo (by decide), Fd.bindsN fun _ _ _ _ _ _ us hl => match us, hl with | [_,_], _ => rfl, ?_⟩
  have sc := sc_window
  refine fnA_mir (N := N_window) (ps := ["form", "size"]) (k := 2) Fd sc none (by intro j hj; cases hj <;> decide) (by decide) b_window fun cdv A outer s H E c hg hr hc => ?_
  exact (dss_cons (ds_asg (at_all hc (by decide)) (de_var 0 (pv 0)) (pg_tup rfl (pgs_cons (pg_name (i := 2) sc.nd rfl (by first | exact Or.inl rfl | exact Or.inr rfl)) (pgs_cons (pg_name (i := 3) sc.nd rfl (by first | exact Or.inl rfl | exact Or.inr rfl)) (pgs_cons (pg_name (i := 4) sc.nd rfl (by first | exact Or.inl rfl | exact Or.inr rfl)) (pgs_cons (pg_name (i := 5) sc.nd rfl (by first | exact Or.inl rfl | exact Or.inr rfl)) pgs_nil))))) (tg_tup [2, 3, 4, 5]))
  (dss_cons (ds_if (dt_cmp op_le (opd_cmp _) (de_var 1 (pv 1)) (de_var 2 (pv 2)) (nomark _))
   (dss_one (ds_ret (de_band (de_var 4 (pv 4)) (de_callO rfl o_mask hg hr (by decide) rfl (da_cons (de_var 1 (pv 1)) da_nil)))))
   dss_nil)
  (dss_cons (ds_set (i := 6) (at_ne hc (by decide)) sc.nd rfl (by first | exact Or.inl rfl | exact Or.inr rfl) (de_div (de_sub (de_add (de_sub (de_var 1 (pv 1)) (de_var 2 (pv 2))) (de_var 3 (pv 3))) de_int) (de_var 3 (pv 3))))
  (dss_one (ds_ret (de_band (de_bor (de_var 4 (pv 4)) (de_shl (de_callO rfl o_repeat hg hr (by decide) rfl (da_cons (de_var 5 (pv 5)) (da_cons (de_var 3 (pv 3)) (da_cons (de_var 6 (pv 6)) da_nil)))) (de_var 2 (pv 2)))) (de_callO rfl o_mask hg hr (by decide) rfl (da_cons (de_var 1 (pv 1)) da_nil))))))))
theorem ok_stretched (G : Gm K mg) : OkF P w K mg base d_stretched ["form", "start", "period"] 4 none m_stretched := by
  obtain ⟨fd, Fd⟩ := G.fn 22 (p := p_stretched) rfl
  obtain ⟨_, F_window, o_window⟩ := ok_window (P := P) (w := w) (base := base) G
  obtain ⟨_, F_mask, o_mask⟩ := ok_mask (P := P) (w := w) (base := base) G
  refine ⟨fd, Fd, Fd.kp, G.glo (by decide), Fd.bindsN fun _ _ _ _ _ _ us hl => match us, hl with | [_,_,_], _ => rfl, ?_⟩
  have sc := sc_stretched
  refine fnA_mir (N := N_stretched) (ps := ["form", "start", "period"]) (k := 3) Fd sc none (by intro j hj; cases hj <;> decide) (by decide) b_stretched fun cdv A outer s H E c hg hr hc => ?_
  exact (dss_cons (ds_set (i := 3) (at_ne hc (by decide)) sc.nd rfl (by first | exact Or.inl rfl | exact Or.inr rfl) (de_callO rfl o_window hg hr (by decide) rfl (da_cons (de_var 0 (pv 0)) (da_cons (de_add (de_var 1 (pv 1)) (de_var 2 (pv 2))) da_nil))))
  (dss_one (ds_ret (de_tup (da_cons (de_band (de_var 3 (pv 3)) (de_callO rfl o_mask hg hr (by decide) rfl (da_cons (de_var 1 (pv 1)) da_nil))) (da_cons (de_shr (de_var 3 (pv 3)) (de_var 1 (pv 1))) da_nil))))))
theorem ok_aligned (G : Gm K mg) : OkF P w K mg base d_aligned ["one", "other"] 5 none m_aligned := by
  obtain ⟨fd, Fd⟩ := G.fn 23 (p := p_aligned) rfl
  obtain ⟨_, F_greatest_divisor, o_greatest_divisor⟩ := ok_greatest_divisor (P := P) (w := w) (base := base) G
  obtain ⟨_, F_stretched, o_stretched⟩ := ok_stretched (P := P) (w := w) (base := base) G
  refine ⟨fd, Fd, Fd.kp, G.glo (by decide), Fd.bindsN fun _ _ _ _ _ _ us hl => match us, hl with | [_,_], _ => rfl, ?_⟩
  have sc := sc_aligned
  refine fnA_mir (N := N_aligned) (ps := ["one", "other"]) (k := 4) Fd sc none (by intro j hj; cases hj <;> decide) (by decide) b_aligned fun cdv A outer s H E c hg hr hc => ?_
  exact (dss_cons (ds_set (i := 2) (at_ne hc (by decide)) sc.nd rfl (by first | exact Or.inl rfl | exact Or.inr rfl) (de_callB (call_max2 rfl) cd_max rfl (G.free (x := "max") (by decide)) bt_max (da_cons (de_ix (de_var 0 (pv 0)) de_int (fun _ _ => rfl)) (da_cons (de_ix (de_var 1 (pv 1)) de_int (fun _ _ => rfl)) da_nil))))
  (dss_cons (ds_set (i := 3) (at_ne hc (by decide)) sc.nd rfl (by first | exact Or.inl rfl | exact Or.inr rfl) (de_div (de_mul (de_ix (de_var 0 (pv 0)) de_int (fun _ _ => rfl)) (de_ix (de_var 1 (pv 1)) de_int (fun _ _ => rfl))) (de_callO rfl o_greatest_divisor hg hr (by decide) rfl (da_cons (de_ix (de_var 0 (pv 0)) de_int (fun _ _ => rfl)) (da_cons (de_ix (de_var 1 (pv 1)) de_int (fun _ _ => rfl)) da_nil)))))
  (dss_one (ds_ret (de_tup (da_cons (de_var 2 (pv 2)) (da_cons (de_var 3 (pv 3)) (da_star (de_callO rfl o_stretched hg hr (by decide) rfl (da_cons (de_var 0 (pv 0)) (da_cons (de_var 2 (pv 2)) (da_cons (de_var 3 (pv 3)) da_nil)))) (da_star (de_callO rfl o_stretched hg hr (by decide) rfl (da_cons (de_var 1 (pv 1)) (da_cons (de_var 2 (pv 2)) (da_cons (de_var 3 (pv 3)) da_nil)))) da_nil)))))))))
theorem ok_DaySet___or__ (G : Gm K mg) : OkQ P w K mg base p_DaySet___or__ ["self", "other"] 7 none m_DaySet___or__ := by
  obtain ⟨fd, Fd⟩ := G.fn 24 (p := p_DaySet___or__) rfl
  obtain ⟨_, F_aligned, o_aligned⟩ := ok_aligned (P := P) (w := w) (base := base) G
  obtain ⟨_, F_DaySet___init__, o_DaySet___init__⟩ := ok_DaySet___init__ (P := P) (w := w) (base := base) G
  have kb_DaySet___init___5 : KBd K _ ["self", "start", "period", "head", "cycle"] 5 [] (0 :: ([0, 1, 2, 3] : List Nat).map (· + 1)) [] := PV.FunD.kbd0 F_DaySet___init__ (fun _ _ _ _ _ _ us ws hu hw => match us, ws, hu, hw with | [_, _, _, _, _], [], _, _ => rfl)
  refine ⟨fd, Fd, ?_⟩
  have sc := sc_DaySet___or__
  refine fnA_mir (N := N_DaySet___or__) (ps := ["self", "other"]) (k := 6) Fd sc none (by intro j hj; cases hj <;> decide) (by decide) b_DaySet___or__ fun cdv A outer s H E c hg hr hc => ?_
  exact (dss_cons (ds_asg (at_all hc (by decide)) (de_callO rfl o_aligned hg hr (by decide) rfl (da_cons (de_fld (y := "DaySet") (de_var 0 (pv 0)) ((fTyp_ok (G.xf 2 rfl)).cls) (He.noat_ok (G.xf 10 rfl))) (da_cons (de_fld (y := "DaySet") (de_var 1 (pv 1)) ((fTyp_ok (G.xf 2 rfl)).cls) (He.noat_ok (G.xf 10 rfl))) da_nil))) (pg_tup rfl (pgs_cons (pg_name (i := 2) sc.nd rfl (by first | exact Or.inl rfl | exact Or.inr rfl)) (pgs_cons (pg_name (i := 3) sc.nd rfl (by first | exact Or.inl rfl | exact Or.inr rfl)) (pgs_cons (pg_name (i := 4) sc.nd rfl (by first | exact Or.inl rfl | exact Or.inr rfl)) (pgs_cons (pg_name (i := 5) sc.nd rfl (by first | exact Or.inl rfl | exact Or.inr rfl)) (pgs_cons (pg_name (i := 6) sc.nd rfl (by first | exact Or.inl rfl | exact Or.inr rfl)) (pgs_cons (pg_name (i := 7) sc.nd rfl (by first | exact Or.inl rfl | exact Or.inr rfl)) pgs_nil))))))) (tg_tup [2, 3, 4, 5, 6, 7]))
  (dss_one (ds_ret (de_app rfl (G.glo (x := "DaySet") (by decide)) (He.mkr_ok (G.xf 8 rfl)).kp (make_of (He.mkr_ok (G.xf 8 rfl)) o_DaySet___init__ hg hr (by decide) kb_DaySet___init___5) rfl (da_cons (de_var 2 (pv 2)) (da_cons (de_var 3 (pv 3)) (da_cons (de_bor (de_var 4 (pv 4)) (de_var 6 (pv 6))) (da_cons (de_bor (de_var 5 (pv 5)) (de_var 7 (pv 7))) da_nil)))) dk_nil))))
theorem ok_DaySet___and__ (G : Gm K mg) : OkQ P w K mg base p_DaySet___and__ ["self", "other"] 7 none m_DaySet___and__ := by
  obtain ⟨fd, Fd⟩ := G.fn 25 (p := p_DaySet___and__) rfl
  obtain ⟨_, F_aligned, o_aligned⟩ := ok_aligned (P := P) (w := w) (base := base) G
  obtain ⟨_, F_DaySet___init__, o_DaySet___init__⟩ := ok_DaySet___init__ (P := P) (w := w) (base := base) G
  have kb_DaySet___init___5 : KBd K _ ["self", "start", "period", "head", "cycle"] 5 [] (0 :: ([0, 1, 2, 3] : List Nat).map (· + 1)) [] := PV.FunD.kbd0 F_DaySet___init__ (fun _ _ _ _ _ _ us ws hu hw => match us, ws, hu, hw with | [_, _, _, _, _], [], _, _ => rfl)
  refine ⟨fd, Fd, ?_⟩
  have sc := sc_DaySet___and__
  refine fnA_mir (N := N_DaySet___and__) (ps := ["self", "other"]) (k := 6) Fd sc none (by intro j hj; cases hj <;> decide) (by decide) b_DaySet___and__ fun cdv A outer s H E c hg hr hc => ?_
  exact (dss_cons (ds_asg (at_all hc (by decide)) (de_callO rfl o_aligned hg hr (by decide) rfl (da_cons (de_fld (y := "DaySet") (de_var 0 (pv 0)) ((fTyp_ok (G.xf 2 rfl)).cls) (He.noat_ok (G.xf 10 rfl))) (da_cons (de_fld (y := "DaySet") (de_var 1 (pv 1)) ((fTyp_ok (G.xf 2 rfl)).cls) (He.noat_ok (G.xf 10 rfl))) da_nil))) (pg_tup rfl (pgs_cons (pg_name (i := 2) sc.nd rfl (by first | exact Or.inl rfl | exact Or.inr rfl)) (pgs_cons (pg_name (i := 3) sc.nd rfl (by first | exact Or.inl rfl | exact Or.inr rfl)) (pgs_cons (pg_name (i := 4) sc.nd rfl (by first | exact Or.inl rfl | exact Or.inr rfl)) (pgs_cons (pg_name (i := 5) sc.nd rfl (by first | exact Or.inl rfl | exact Or.inr rfl)) (pgs_cons (pg_name (i := 6) sc.nd rfl (by first | exact Or.inl rfl | exact Or.inr rfl)) (pgs_cons (pg_name (i := 7) sc.nd rfl (by first | exact Or.inl rfl | exact Or.inr rfl)) pgs_nil))))))) (tg_tup [2, 3, 4, 5, 6, 7]))
  (dss_one (ds_ret (de_app rfl (G.glo (x := "DaySet") (by decide)) (He.mkr_ok (G.xf 8 rfl)).kp (make_of (He.mkr_ok (G.xf 8 rfl)) o_DaySet___init__ hg hr (by decide) kb_DaySet___init___5) rfl (da_cons (de_var 2 (pv 2)) (da_cons (de_var 3 (pv 3)) (da_cons (de_band (de_var 4 (pv 4)) (de_var 6 (pv 6))) (da_cons (de_band (de_var 5 (pv 5)) (de_var 7 (pv 7))) da_nil)))) dk_nil))))
theorem ok_DaySet___sub__ (G : Gm K mg) : OkQ P w K mg base p_DaySet___sub__ ["self", "other"] 7 none m_DaySet___sub__ := by
  obtain ⟨fd, Fd⟩ := G.fn 26 (p := p_DaySet___sub__) rfl
  obtain ⟨_, F_aligned, o_aligned⟩ := ok_aligned (P := P) (w := w) (base := base) G
  obtain ⟨_, F_DaySet___init__, o_DaySet___init__⟩ := ok_DaySet___init__ (P := P) (w := w) (base := base) G
  have kb_DaySet___init___5 : KBd K _ ["self", "start", "period", "head", "cycle"] 5 [] (0 :: ([0, 1, 2, 3] : List Nat).map (· + 1)) [] := PV.FunD.kbd0 F_DaySet___init__ (fun _ _ _ _ _ _ us ws hu hw => match us, ws, hu, hw with | [_, _, _, _, _], [], _, _ => rfl)
  refine ⟨fd, Fd, ?_⟩
  have sc := sc_DaySet___sub__
  refine fnA_mir (N := N_DaySet___sub__) (ps := ["self", "other"]) (k := 6) Fd sc none (by intro j hj; cases hj <;> decide) (by decide) b_DaySet___sub__ fun cdv A outer s H E c hg hr hc => ?_
  exact (dss_cons (ds_asg (at_all hc (by decide)) (de_callO rfl o_aligned hg hr (by decide) rfl (da_cons (de_fld (y := "DaySet") (de_var 0 (pv 0)) ((fTyp_ok (G.xf 2 rfl)).cls) (He.noat_ok (G.xf 10 rfl))) (da_cons (de_fld (y := "DaySet") (de_var 1 (pv 1)) ((fTyp_ok (G.xf 2 rfl)).cls) (He.noat_ok (G.xf 10 rfl))) da_nil))) (pg_tup rfl (pgs_cons (pg_name (i := 2) sc.nd rfl (by first | exact Or.inl rfl | exact Or.inr rfl)) (pgs_cons (pg_name (i := 3) sc.nd rfl (by first | exact Or.inl rfl | exact Or.inr rfl)) (pgs_cons (pg_name (i := 4) sc.nd rfl (by first | exact Or.inl rfl | exact Or.inr rfl)) (pgs_cons (pg_name (i := 5) sc.nd rfl (by first | exact Or.inl rfl | exact Or.inr rfl)) (pgs_cons (pg_name (i := 6) sc.nd rfl (by first | exact Or.inl rfl | exact Or.inr rfl)) (pgs_cons (pg_name (i := 7) sc.nd rfl (by first | exact Or.inl rfl | exact Or.inr rfl)) pgs_nil))))))) (tg_tup [2, 3, 4, 5, 6, 7]))
  (dss_one (ds_ret (de_app rfl (G.glo (x := "DaySet") (by decide)) (He.mkr_ok (G.xf 8 rfl)).kp (make_of (He.mkr_ok (G.xf 8 rfl)) o_DaySet___init__ hg hr (by decide) kb_DaySet___init___5) rfl (da_cons (de_var 2 (pv 2)) (da_cons (de_var 3 (pv 3)) (da_cons (de_band (de_var 4 (pv 4)) (de_not1 (de_var 6 (pv 6)))) (da_cons (de_band (de_var 5 (pv 5)) (de_not1 (de_var 7 (pv 7)))) da_nil)))) dk_nil))))
theorem ok_DaySet___xor__ (G : Gm K mg) : OkQ P w K mg base p_DaySet___xor__ ["self", "other"] 7 none m_DaySet___xor__ := by
  obtain ⟨fd, Fd⟩ := G.fn 27 (p := p_DaySet___xor__) rfl
  obtain ⟨_, F_aligned, o_aligned⟩ := ok_aligned (P := P) (w := w) (base := base) G
  obtain ⟨_, F_DaySet___init__, o_DaySet___init__⟩ := ok_DaySet___init__ (P := P) (w := w) (base := base) G
  have kb_DaySet___init___5 : KBd K _ ["self", "start", "period", "head", "cycle"] 5 [] (0 :: ([0, 1, 2, 3] : List Nat).map (· + 1)) [] := PV.FunD.kbd0 F_DaySet___init__ (fun _ _ _ _ _ _ us ws hu hw => match us, ws, hu, hw with | [_, _, _, _, _], [], _, _ => rfl)
  refine ⟨fd, Fd, ?_⟩
  have sc := sc_DaySet___xor__
  refine fnA_mir (N := N_DaySet___xor__) (ps := ["self", "other"]) (k := 6) Fd sc none (by intro j hj; cases hj <;> decide) (by decide) b_DaySet___xor__ fun cdv A outer s H E c hg hr hc => ?_
  exact (dss_cons (ds_asg (at_all hc (by decide)) (de_callO rfl o_aligned hg hr (by decide) rfl (da_cons (de_fld (y := "DaySet") (de_var 0 (pv 0)) ((fTyp_ok (G.xf 2 rfl)).cls) (He.noat_ok (G.xf 10 rfl))) (da_cons (de_fld (y := "DaySet") (de_var 1 (pv 1)) ((fTyp_ok (G.xf 2 rfl)).cls) (He.noat_ok (G.xf 10 rfl))) da_nil))) (pg_tup rfl (pgs_cons (pg_name (i := 2) sc.nd rfl (by first | exact Or.inl rfl | exact Or.inr rfl)) (pgs_cons (pg_name (i := 3) sc.nd rfl (by first | exact Or.inl rfl | exact Or.inr rfl)) (pgs_cons (pg_name (i := 4) sc.nd rfl (by first | exact Or.inl rfl | exact Or.inr rfl)) (pgs_cons (pg_name (i := 5) sc.nd rfl (by first | exact Or.inl rfl | exact Or.inr rfl)) (pgs_cons (pg_name (i := 6) sc.nd rfl (by first | exact Or.inl rfl | exact Or.inr rfl)) (pgs_cons (pg_name (i := 7) sc.nd rfl (by first | exact Or.inl rfl | exact Or.inr rfl)) pgs_nil))))))) (tg_tup [2, 3, 4, 5, 6, 7]))
  (dss_one (ds_ret (de_app rfl (G.glo (x := "DaySet") (by decide)) (He.mkr_ok (G.xf 8 rfl)).kp (make_of (He.mkr_ok (G.xf 8 rfl)) o_DaySet___init__ hg hr (by decide) kb_DaySet___init___5) rfl (da_cons (de_var 2 (pv 2)) (da_cons (de_var 3 (pv 3)) (da_cons (de_bxor (de_var 4 (pv 4)) (de_var 6 (pv 6))) (da_cons (de_bxor (de_var 5 (pv 5)) (de_var 7 (pv 7))) da_nil)))) dk_nil))))
theorem ok_DaySet___invert__ (G : Gm K mg) : OkQ P w K mg base p_DaySet___invert__ ["self"] 7 none m_DaySet___invert__ := by
  obtain ⟨fd, Fd⟩ := G.fn 28 (p := p_DaySet___invert__) rfl
  obtain ⟨_, F_mask, o_mask⟩ := ok_mask (P := P) (w := w) (base := base) G
  obtain ⟨_, F_DaySet___init__, o_DaySet___init__⟩ := ok_DaySet___init__ (P := P) (w := w) (base := base) G
  have kb_DaySet___init___5 : KBd K _ ["self", "start", "period", "head", "cycle"] 5 [] (0 :: ([0, 1, 2, 3] : List Nat).map (· + 1)) [] := PV.FunD.kbd0 F_DaySet___init__ (fun _ _ _ _ _ _ us ws hu hw => match us, ws, hu, hw with | [_, _, _, _, _], [], _, _ => rfl)
  refine ⟨fd, Fd, ?_⟩
  have sc := sc_DaySet___invert__
  refine fnA_mir (N := N_DaySet___invert__) (ps := ["self"]) (k := 6) Fd sc none (by intro j hj; cases hj <;> decide) (by decide) b_DaySet___invert__ fun cdv A outer s H E c hg hr hc => ?_
  exact (dss_cons (ds_asg (at_all hc (by decide)) (de_fld (y := "DaySet") (de_var 0 (pv 0)) ((fTyp_ok (G.xf 2 rfl)).cls) (He.noat_ok (G.xf 10 rfl))) (pg_tup rfl (pgs_cons (pg_name (i := 1) sc.nd rfl (by first | exact Or.inl rfl | exact Or.inr rfl)) (pgs_cons (pg_name (i := 2) sc.nd rfl (by first | exact Or.inl rfl | exact Or.inr rfl)) (pgs_cons (pg_name (i := 3) sc.nd rfl (by first | exact Or.inl rfl | exact Or.inr rfl)) (pgs_cons (pg_name (i := 4) sc.nd rfl (by first | exact Or.inl rfl | exact Or.inr rfl)) pgs_nil))))) (tg_tup [1, 2, 3, 4]))
  (dss_one (ds_ret (de_app rfl (G.glo (x := "DaySet") (by decide)) (He.mkr_ok (G.xf 8 rfl)).kp (make_of (He.mkr_ok (G.xf 8 rfl)) o_DaySet___init__ hg hr (by decide) kb_DaySet___init___5) rfl (da_cons (de_var 1 (pv 1)) (da_cons (de_var 2 (pv 2)) (da_cons (de_bxor (de_callO rfl o_mask hg hr (by decide) rfl (da_cons (de_var 1 (pv 1)) da_nil)) (de_var 3 (pv 3))) (da_cons (de_bxor (de_callO rfl o_mask hg hr (by decide) rfl (da_cons (de_var 2 (pv 2)) da_nil)) (de_var 4 (pv 4))) da_nil)))) dk_nil))))
theorem ok__law_sums_right (G : Gm K mg) : OkF P w K mg base d__law_sums_right ["one", "other", "begin", "end"] 8 none m__law_sums_right := by
  obtain ⟨fd, Fd⟩ := G.fn 29 (p := p__law_sums_right) rfl
  obtain ⟨_, F_DaySet_how_many, o_DaySet_how_many⟩ := ok_DaySet_how_many (P := P) (w := w) (base := base) G
  obtain ⟨_, F_DaySet___or__, o_DaySet___or__⟩ := ok_DaySet___or__ (P := P) (w := w) (base := base) G
  obtain ⟨_, F_DaySet___and__, o_DaySet___and__⟩ := ok_DaySet___and__ (P := P) (w := w) (base := base) G
  obtain ⟨_, F_DaySet___sub__, o_DaySet___sub__⟩ := ok_DaySet___sub__ (P := P) (w := w) (base := base) G
  obtain ⟨_, F_DaySet___xor__, o_DaySet___xor__⟩ := ok_DaySet___xor__ (P := P) (w := w) (base := base) G
  obtain ⟨_, F_DaySet___invert__, o_DaySet___invert__⟩ := ok_DaySet___invert__ (P := P) (w := w) (base := base) G
  have kb_DaySet_how_many_3 : KBd K _ ["self", "low", "high"] 3 [] (0 :: ([0, 1] : List Nat).map (· + 1)) [] := PV.FunD.kbd0 F_DaySet_how_many (fun _ _ _ _ _ _ us ws hu hw => match us, ws, hu, hw with | [_, _, _], [], _, _ => rfl)
  have kb_DaySet___or___2 : KBd K _ ["self", "other"] 2 [] (0 :: ([0] : List Nat).map (· + 1)) [] := PV.FunD.kbd0 F_DaySet___or__ (fun _ _ _ _ _ _ us ws hu hw => match us, ws, hu, hw with | [_, _], [], _, _ => rfl)
  have kb_DaySet___and___2 : KBd K _ ["self", "other"] 2 [] (0 :: ([0] : List Nat).map (· + 1)) [] := PV.FunD.kbd0 F_DaySet___and__ (fun _ _ _ _ _ _ us ws hu hw => match us, ws, hu, hw with | [_, _], [], _, _ => rfl)
  have kb_DaySet___sub___2 : KBd K _ ["self", "other"] 2 [] (0 :: ([0] : List Nat).map (· + 1)) [] := PV.FunD.kbd0 F_DaySet___sub__ (fun _ _ _ _ _ _ us ws hu hw => match us, ws, hu, hw with | [_, _], [], _, _ => rfl)
  have kb_DaySet___xor___2 : KBd K _ ["self", "other"] 2 [] (0 :: ([0] : List Nat).map (· + 1)) [] := PV.FunD.kbd0 F_DaySet___xor__ (fun _ _ _ _ _ _ us ws hu hw => match us, ws, hu, hw with | [_, _], [], _, _ => rfl)
  have kb_DaySet___invert___1 : KBd K _ ["self"] 1 [] (0 :: ([] : List Nat).map (· + 1)) [] := PV.FunD.kbd0 F_DaySet___invert__ (fun _ _ _ _ _ _ us ws hu hw => match us, ws, hu, hw with | [_], [], _, _ => rfl)
  refine ⟨fd, Fd, Fd.kp, G.glo (by decide), Fd.bindsN fun _ _ _ _ _ _ us hl => match us, hl with | [_,_,_,_], _ => rfl, ?_⟩
  have sc := sc__law_sums_right
  refine fnA_mir (N := N__law_sums_right) (ps := ["one", "other", "begin", "end"]) (k := 7) Fd sc none (by intro j hj; cases hj <;> decide) (by decide) b__law_sums_right fun cdv A outer s H E c hg hr hc => ?_
  exact (dss_cons (ds_par (i := 4) (j := 5) (at_ne hc (by decide)) (at_ne hc (by decide)) rfl sc.nd rfl rfl (by decide) rfl rfl (da_cons (de_meth (y := "DaySet") (de_var 0 (pv 0)) ((fTyp_ok (G.xf 2 rfl)).cls) (He.meth_ok (G.xf 5 rfl)) (run_of o_DaySet_how_many hg hr (by decide) kb_DaySet_how_many_3) rfl (da_cons (de_var 2 (pv 2)) (da_cons (de_var 3 (pv 3)) da_nil)) dk_nil) (da_cons (de_meth (y := "DaySet") (de_var 1 (pv 1)) ((fTyp_ok (G.xf 2 rfl)).cls) (He.meth_ok (G.xf 5 rfl)) (run_of o_DaySet_how_many hg hr (by decide) kb_DaySet_how_many_3) rfl (da_cons (de_var 2 (pv 2)) (da_cons (de_var 3 (pv 3)) da_nil)) dk_nil) da_nil)) (by first | rfl | with_unfolding_all rfl | kernel_rfl))
  (dss_cons (ds_par (i := 6) (j := 7) (at_ne hc (by decide)) (at_ne hc (by decide)) rfl sc.nd rfl rfl (by decide) rfl rfl (da_cons (de_meth (y := "DaySet") (de_opf (opf_bin (y := "DaySet") (fTyp_ok (G.xf 2 rfl)) (He.meth_ok (G.xf 3 rfl)).at_ (He.meth_ok (G.xf 3 rfl)).fn (run_of o_DaySet___and__ hg hr (by decide) kb_DaySet___and___2)) (de_var 0 (pv 0)) (de_var 1 (pv 1))) ((fTyp_ok (G.xf 2 rfl)).cls) (He.meth_ok (G.xf 5 rfl)) (run_of o_DaySet_how_many hg hr (by decide) kb_DaySet_how_many_3) rfl (da_cons (de_var 2 (pv 2)) (da_cons (de_var 3 (pv 3)) da_nil)) dk_nil) (da_cons (de_meth (y := "DaySet") (de_opf (opf_bin (y := "DaySet") (fTyp_ok (G.xf 2 rfl)) (He.meth_ok (G.xf 4 rfl)).at_ (He.meth_ok (G.xf 4 rfl)).fn (run_of o_DaySet___or__ hg hr (by decide) kb_DaySet___or___2)) (de_var 0 (pv 0)) (de_var 1 (pv 1))) ((fTyp_ok (G.xf 2 rfl)).cls) (He.meth_ok (G.xf 5 rfl)) (run_of o_DaySet_how_many hg hr (by decide) kb_DaySet_how_many_3) rfl (da_cons (de_var 2 (pv 2)) (da_cons (de_var 3 (pv 3)) da_nil)) dk_nil) da_nil)) (by first | rfl | with_unfolding_all rfl | kernel_rfl))
  (dss_cons (ds_if (dt_bool (dw_or (dt_cmp (opr_ne hr.units) opd_ne (de_add (de_var 7 (pv 7)) (de_var 6 (pv 6))) (de_add (de_var 4 (pv 4)) (de_var 5 (pv 5))) (nomark _)) (dw_or1 (dt_cmp (opr_ne hr.units) opd_ne (de_meth (y := "DaySet") (de_opf (opf_bin (y := "DaySet") (fTyp_ok (G.xf 2 rfl)) (He.meth_ok (G.xf 1 rfl)).at_ (He.meth_ok (G.xf 1 rfl)).fn (run_of o_DaySet___sub__ hg hr (by decide) kb_DaySet___sub___2)) (de_var 0 (pv 0)) (de_var 1 (pv 1))) ((fTyp_ok (G.xf 2 rfl)).cls) (He.meth_ok (G.xf 5 rfl)) (run_of o_DaySet_how_many hg hr (by decide) kb_DaySet_how_many_3) rfl (da_cons (de_var 2 (pv 2)) (da_cons (de_var 3 (pv 3)) da_nil)) dk_nil) (de_sub (de_var 4 (pv 4)) (de_var 6 (pv 6))) (nomark _)))))
   (dss_one (ds_ret de_bl))
   dss_nil)
  (dss_one (ds_ret (de_and (de_cmp (opr_eq hr.units) opd_eq (de_meth (y := "DaySet") (de_opf (opf_bin (y := "DaySet") (fTyp_ok (G.xf 2 rfl)) (He.meth_ok (G.xf 11 rfl)).at_ (He.meth_ok (G.xf 11 rfl)).fn (run_of o_DaySet___xor__ hg hr (by decide) kb_DaySet___xor___2)) (de_var 0 (pv 0)) (de_var 1 (pv 1))) ((fTyp_ok (G.xf 2 rfl)).cls) (He.meth_ok (G.xf 5 rfl)) (run_of o_DaySet_how_many hg hr (by decide) kb_DaySet_how_many_3) rfl (da_cons (de_var 2 (pv 2)) (da_cons (de_var 3 (pv 3)) da_nil)) dk_nil) (de_sub (de_var 7 (pv 7)) (de_var 6 (pv 6))) (nomark _)) (de_one (de_cmp (opr_eq hr.units) opd_eq (de_meth (y := "DaySet") (de_inv (y := "DaySet") (He.meth_ok (G.xf 0 rfl)).at_ (He.meth_ok (G.xf 0 rfl)).fn (run_of o_DaySet___invert__ hg hr (by decide) kb_DaySet___invert___1) (de_var 0 (pv 0))) ((fTyp_ok (G.xf 2 rfl)).cls) (He.meth_ok (G.xf 5 rfl)) (run_of o_DaySet_how_many hg hr (by decide) kb_DaySet_how_many_3) rfl (da_cons (de_var 2 (pv 2)) (da_cons (de_var 3 (pv 3)) da_nil)) dk_nil) (de_sub (de_sub (de_var 3 (pv 3)) (de_var 2 (pv 2))) (de_var 4 (pv 4))) (nomark _)))))))))
theorem ok__law_pick (G : Gm K mg) : OkF P w K mg base d__law_pick ["state", "some"] 3 (some 0) m__law_pick := by
  obtain ⟨fd, Fd⟩ := G.fn 30 (p := p__law_pick) rfl
  obtain ⟨_, F__law_take, o__law_take⟩ := ok__law_take (P := P) (w := w) (base := base) G
  refine ⟨fd, Fd, Fd.kp, G.glo (by decide), Fd.bindsN fun _ _ _ _ _ _ us hl => match us, hl with | [_,_], _ => rfl, ?_⟩
  have sc := sc__law_pick
  refine fnA_mir (N := N__law_pick) (ps := ["state", "some"]) (k := 2) Fd sc (some 0) (by intro j hj; cases hj <;> decide) (by decide) b__law_pick fun cdv A outer s H E c hg hr hc => ?_
  exact (dss_one (ds_ret (de_ix (de_var 1 (pv 1)) (de_callOS rfl o__law_take (by decide) hg hr (by decide) rfl (das_here (pv 0) (da_cons (de_callB call_len cd_len rfl (G.free (x := "len") (by decide)) bt_len (da_cons (de_var 1 (pv 1)) da_nil)) da_nil))) (fun _ _ => rfl))))
theorem ok_lowest (G : Gm K mg) : OkF P w K mg base d_lowest ["bits"] 1 none m_lowest := by
  obtain ⟨fd, Fd⟩ := G.fn 31 (p := p_lowest) rfl
  refine ⟨fd, Fd, Fd.kp, G.glo (by decide), Fd.bindsN fun _ _ _ _ _ _ us hl => match us, hl with | [_], _ => rfl, ?_⟩
  have sc := sc_lowest
  refine fnA_mir (N := N_lowest) (ps := ["bits"]) (k := 0) Fd sc none (by intro j hj; cases hj <;> decide) (by decide) b_lowest fun cdv A outer s H E c hg hr hc => ?_
  exact (dss_one (ds_ret (de_sub (de_callB call_len cd_len rfl (G.free (x := "len") (by decide)) bt_len (da_cons (de_fmtB (de_band (de_var 0 (pv 0)) (de_sub de_int (de_var 0 (pv 0))))) da_nil)) de_int)))
theorem ok_DaySet_next_from (G : Gm K mg) : OkQ P w K mg base p_DaySet_next_from ["self", "day"] 3 none m_DaySet_next_from := by
  obtain ⟨fd, Fd⟩ := G.fn 32 (p := p_DaySet_next_from) rfl
  obtain ⟨_, F_need_number, o_need_number⟩ := ok_need_number (P := P) (w := w) (base := base) G
  obtain ⟨_, F_lowest, o_lowest⟩ := ok_lowest (P := P) (w := w) (base := base) G
  refine ⟨fd, Fd, ?_⟩
  have sc := sc_DaySet_next_from
  refine fnA_mir (N := N_DaySet_next_from) (ps := ["self", "day"]) (k := 2) Fd sc none (by intro j hj; cases hj <;> decide) (by decide) b_DaySet_next_from fun cdv A outer s H E c hg hr hc => ?_
  exact (dss_cons (ds_expr (de_callO rfl o_need_number hg hr (by decide) rfl (da_cons (de_var 1 (pv 1)) (da_cons de_non da_nil))))
  (dss_cons (ds_asg (at_all hc (by decide)) (de_fld (y := "DaySet") (de_var 0 (pv 0)) ((fTyp_ok (G.xf 2 rfl)).cls) (He.noat_ok (G.xf 10 rfl))) (pg_tup rfl (pgs_cons (pg_name (i := 2) sc.nd rfl (by first | exact Or.inl rfl | exact Or.inr rfl)) (pgs_cons (pg_name (i := 3) sc.nd rfl (by first | exact Or.inl rfl | exact Or.inr rfl)) (pgs_cons (pg_name (i := 4) sc.nd rfl (by first | exact Or.inl rfl | exact Or.inr rfl)) (pgs_cons (pg_name (i := 5) sc.nd rfl (by first | exact Or.inl rfl | exact Or.inr rfl)) pgs_nil))))) (tg_tup [2, 3, 4, 5]))
  (dss_cons (ds_set (i := 1) (at_ne hc (by decide)) sc.nd rfl (by first | exact Or.inl rfl | exact Or.inr rfl) (de_callB (call_max2 rfl) cd_max rfl (G.free (x := "max") (by decide)) bt_max (da_cons (de_var 1 (pv 1)) (da_cons de_int da_nil))))
  (dss_cons (ds_if (dt_bool (dw_and (dt_cmp op_lt (opd_cmp _) (de_var 1 (pv 1)) (de_var 2 (pv 2)) (nomark _)) (dw_and1 (dt_cmp (opr_ne hr.units) opd_ne (de_shr (de_var 4 (pv 4)) (de_var 1 (pv 1))) de_int (nomark _)))))
   (dss_one (ds_ret (de_add (de_var 1 (pv 1)) (de_callO rfl o_lowest hg hr (by decide) rfl (da_cons (de_shr (de_var 4 (pv 4)) (de_var 1 (pv 1))) da_nil)))))
   dss_nil)
  (dss_cons (ds_if (dt_cmp (opr_eq hr.units) opd_eq (de_var 5 (pv 5)) de_int (nomark _))
   (dss_one (ds_ret de_non))
   dss_nil)
  (dss_cons (ds_set (i := 1) (at_ne hc (by decide)) sc.nd rfl (by first | exact Or.inl rfl | exact Or.inr rfl) (de_callB (call_max2 rfl) cd_max rfl (G.free (x := "max") (by decide)) bt_max (da_cons (de_var 1 (pv 1)) (da_cons (de_var 2 (pv 2)) da_nil))))
  (dss_cons (ds_set (i := 6) (at_ne hc (by decide)) sc.nd rfl (by first | exact Or.inl rfl | exact Or.inr rfl) (de_mod (de_sub (de_var 1 (pv 1)) (de_var 2 (pv 2))) (de_var 3 (pv 3))))
  (dss_one (ds_ret (de_if (dt_cmp (opr_ne hr.units) opd_ne (de_shr (de_var 5 (pv 5)) (de_var 6 (pv 6))) de_int (nomark _)) (de_add (de_var 1 (pv 1)) (de_callO rfl o_lowest hg hr (by decide) rfl (da_cons (de_shr (de_var 5 (pv 5)) (de_var 6 (pv 6))) da_nil))) (de_add (de_sub (de_add (de_var 1 (pv 1)) (de_var 3 (pv 3))) (de_var 6 (pv 6))) (de_callO rfl o_lowest hg hr (by decide) rfl (da_cons (de_var 5 (pv 5)) da_nil)))))))))))))
theorem ok_place_of (G : Gm K mg) : OkF P w K mg base d_place_of ["bits", "number"] 2 none m_place_of := by
  obtain ⟨fd, Fd⟩ := G.fn 33 (p := p_place_of) rfl
  obtain ⟨_, F_mask, o_mask⟩ := ok_mask (P := P) (w := w) (base := base) G
  obtain ⟨_, F_ones, o_ones⟩ := ok_ones (P := P) (w := w) (base := base) G
  refine ⟨fd, Fd, Fd.kp, G.glo (by decide), Fd.bindsN fun _ _ _ _ _ _ us hl => match us, hl with | [_,_], _ => rfl, ?_⟩
  have sc := sc_place_of
  refine fnA_mir (N := N_place_of) (ps := ["bits", "number"]) (k := 1) Fd sc none (by intro j hj; cases hj <;> decide) (by decide) b_place_of fun cdv A outer s H E c hg hr hc => ?_
  exact (dss_cons (ds_par (i := 2) (j := 3) (at_ne hc (by decide)) (at_ne hc (by decide)) rfl sc.nd rfl rfl (by decide) rfl rfl (da_cons de_int (da_cons (de_callB call_len cd_len rfl (G.free (x := "len") (by decide)) bt_len (da_cons (de_fmtB (de_var 0 (pv 0))) da_nil)) da_nil)) (by first | rfl | with_unfolding_all rfl | kernel_rfl))
  (dss_cons (ds_while (passes_of rfl) (dt_cmp op_gt (opd_cmp _) (de_sub (de_var 3 (pv 3)) (de_var 2 (pv 2))) de_int (nomark _))
   (dss_cons (ds_set (i := 4) (at_ne hc (by decide)) sc.nd rfl (by first | exact Or.inl rfl | exact Or.inr rfl) (de_div (de_add (de_var 2 (pv 2)) (de_var 3 (pv 3))) de_int))
  (dss_one (ds_if (dt_cmp op_le (opd_cmp _) (de_callO rfl o_ones hg hr (by decide) rfl (da_cons (de_band (de_var 0 (pv 0)) (de_callO rfl o_mask hg hr (by decide) rfl (da_cons (de_var 4 (pv 4)) da_nil))) da_nil)) (de_var 1 (pv 1)) (nomark _))
   (dss_one (ds_set (i := 2) (at_ne hc (by decide)) sc.nd rfl (by first | exact Or.inl rfl | exact Or.inr rfl) (de_var 4 (pv 4))))
   (dss_one (ds_set (i := 3) (at_ne hc (by decide)) sc.nd rfl (by first | exact Or.inl rfl | exact Or.inr rfl) (de_var 4 (pv 4))))))))
  (dss_one (ds_ret (de_var 2 (pv 2))))))
theorem ok_DaySet_nth (G : Gm K mg) : OkQ P w K mg base p_DaySet_nth ["self", "number"] 3 none m_DaySet_nth := by
  obtain ⟨fd, Fd⟩ := G.fn 34 (p := p_DaySet_nth) rfl
  obtain ⟨_, F_need_number, o_need_number⟩ := ok_need_number (P := P) (w := w) (base := base) G
  obtain ⟨_, F_ones, o_ones⟩ := ok_ones (P := P) (w := w) (base := base) G
  obtain ⟨_, F_place_of, o_place_of⟩ := ok_place_of (P := P) (w := w) (base := base) G
  refine ⟨fd, Fd, ?_⟩
  have sc := sc_DaySet_nth
  refine fnA_mir (N := N_DaySet_nth) (ps := ["self", "number"]) (k := 2) Fd sc none (by intro j hj; cases hj <;> decide) (by decide) b_DaySet_nth fun cdv A outer s H E c hg hr hc => ?_
  exact (dss_cons (ds_expr (de_callO rfl o_need_number hg hr (by decide) rfl (da_cons (de_var 1 (pv 1)) (da_cons de_int da_nil))))
  (dss_cons (ds_asg (at_all hc (by decide)) (de_fld (y := "DaySet") (de_var 0 (pv 0)) ((fTyp_ok (G.xf 2 rfl)).cls) (He.noat_ok (G.xf 10 rfl))) (pg_tup rfl (pgs_cons (pg_name (i := 2) sc.nd rfl (by first | exact Or.inl rfl | exact Or.inr rfl)) (pgs_cons (pg_name (i := 3) sc.nd rfl (by first | exact Or.inl rfl | exact Or.inr rfl)) (pgs_cons (pg_name (i := 4) sc.nd rfl (by first | exact Or.inl rfl | exact Or.inr rfl)) (pgs_cons (pg_name (i := 5) sc.nd rfl (by first | exact Or.inl rfl | exact Or.inr rfl)) pgs_nil))))) (tg_tup [2, 3, 4, 5]))
  (dss_cons (ds_set (i := 6) (at_ne hc (by decide)) sc.nd rfl (by first | exact Or.inl rfl | exact Or.inr rfl) (de_callO rfl o_ones hg hr (by decide) rfl (da_cons (de_var 4 (pv 4)) da_nil)))
  (dss_cons (ds_if (dt_cmp op_lt (opd_cmp _) (de_var 1 (pv 1)) (de_var 6 (pv 6)) (nomark _))
   (dss_one (ds_ret (de_callO rfl o_place_of hg hr (by decide) rfl (da_cons (de_var 4 (pv 4)) (da_cons (de_var 1 (pv 1)) da_nil)))))
   dss_nil)
  (dss_cons (ds_if (dt_cmp (opr_eq hr.units) opd_eq (de_var 5 (pv 5)) de_int (nomark _))
   (dss_one ds_never)
   dss_nil)
  (dss_cons (ds_par (i := 7) (j := 8) (at_ne hc (by decide)) (at_ne hc (by decide)) rfl sc.nd rfl rfl (by decide) rfl rfl (da_cons (de_div (de_sub (de_var 1 (pv 1)) (de_var 6 (pv 6))) (de_callO rfl o_ones hg hr (by decide) rfl (da_cons (de_var 5 (pv 5)) da_nil))) (da_cons (de_mod (de_sub (de_var 1 (pv 1)) (de_var 6 (pv 6))) (de_callO rfl o_ones hg hr (by decide) rfl (da_cons (de_var 5 (pv 5)) da_nil))) da_nil)) (by first | rfl | with_unfolding_all rfl | kernel_rfl))
  (dss_one (ds_ret (de_add (de_add (de_var 2 (pv 2)) (de_mul (de_var 7 (pv 7)) (de_var 3 (pv 3)))) (de_callO rfl o_place_of hg hr (by decide) rfl (da_cons (de_var 5 (pv 5)) (da_cons (de_var 8 (pv 8)) da_nil))))))))))))
theorem ok_DaySet___contains__ (G : Gm K mg) : OkQ P w K mg base p_DaySet___contains__ ["self", "day"] 2 none m_DaySet___contains__ := by
  obtain ⟨fd, Fd⟩ := G.fn 35 (p := p_DaySet___contains__) rfl
  obtain ⟨_, F_is_number, o_is_number⟩ := ok_is_number (P := P) (w := w) (base := base) G
  refine ⟨fd, Fd, ?_⟩
  have sc := sc_DaySet___contains__
  refine fnA_mir (N := N_DaySet___contains__) (ps := ["self", "day"]) (k := 1) Fd sc none (by intro j hj; cases hj <;> decide) (by decide) b_DaySet___contains__ fun cdv A outer s H E c hg hr hc => ?_
  exact (dss_cons (ds_if (dt_bool (dw_or (dt_not (dt_tru (de_callO rfl o_is_number hg hr (by decide) rfl (da_cons (de_var 1 (pv 1)) da_nil)))) (dw_or1 (dt_cmp op_lt (opd_cmp _) (de_var 1 (pv 1)) de_int (nomark _)))))
   (dss_one (ds_ret de_bl))
   dss_nil)
  (dss_cons (ds_asg (at_all hc (by decide)) (de_fld (y := "DaySet") (de_var 0 (pv 0)) ((fTyp_ok (G.xf 2 rfl)).cls) (He.noat_ok (G.xf 10 rfl))) (pg_tup rfl (pgs_cons (pg_name (i := 2) sc.nd rfl (by first | exact Or.inl rfl | exact Or.inr rfl)) (pgs_cons (pg_name (i := 3) sc.nd rfl (by first | exact Or.inl rfl | exact Or.inr rfl)) (pgs_cons (pg_name (i := 4) sc.nd rfl (by first | exact Or.inl rfl | exact Or.inr rfl)) (pgs_cons (pg_name (i := 5) sc.nd rfl (by first | exact Or.inl rfl | exact Or.inr rfl)) pgs_nil))))) (tg_tup [2, 3, 4, 5]))
  (dss_one (ds_ret (de_cmp (opr_eq hr.units) opd_eq (de_band (de_if (dt_cmp op_lt (opd_cmp _) (de_var 1 (pv 1)) (de_var 2 (pv 2)) (nomark _)) (de_shr (de_var 4 (pv 4)) (de_var 1 (pv 1))) (de_shr (de_var 5 (pv 5)) (de_mod (de_sub (de_var 1 (pv 1)) (de_var 2 (pv 2))) (de_var 3 (pv 3))))) de_int) de_int (nomark _))))))
theorem ok_DaySet_last_to (G : Gm K mg) : OkQ P w K mg base p_DaySet_last_to ["self", "day"] 4 none m_DaySet_last_to := by
  obtain ⟨fd, Fd⟩ := G.fn 36 (p := p_DaySet_last_to) rfl
  obtain ⟨_, F_need_number, o_need_number⟩ := ok_need_number (P := P) (w := w) (base := base) G
  obtain ⟨_, F_number_before, o_number_before⟩ := ok_number_before (P := P) (w := w) (base := base) G
  obtain ⟨_, F_DaySet_nth, o_DaySet_nth⟩ := ok_DaySet_nth (P := P) (w := w) (base := base) G
  have kb_DaySet_nth_2 : KBd K _ ["self", "number"] 2 [] (0 :: ([0] : List Nat).map (· + 1)) [] := PV.FunD.kbd0 F_DaySet_nth (fun _ _ _ _ _ _ us ws hu hw => match us, ws, hu, hw with | [_, _], [], _, _ => rfl)
  refine ⟨fd, Fd, ?_⟩
  have sc := sc_DaySet_last_to
  refine fnA_mir (N := N_DaySet_last_to) (ps := ["self", "day"]) (k := 3) Fd sc none (by intro j hj; cases hj <;> decide) (by decide) b_DaySet_last_to fun cdv A outer s H E c hg hr hc => ?_
  exact (dss_cons (ds_expr (de_callO rfl o_need_number hg hr (by decide) rfl (da_cons (de_var 1 (pv 1)) (da_cons de_non da_nil))))
  (dss_cons (ds_set (i := 2) (at_ne hc (by decide)) sc.nd rfl (by first | exact Or.inl rfl | exact Or.inr rfl) (de_callO rfl o_number_before hg hr (by decide) rfl (da_cons (de_fld (y := "DaySet") (de_var 0 (pv 0)) ((fTyp_ok (G.xf 2 rfl)).cls) (He.noat_ok (G.xf 10 rfl))) (da_cons (de_add (de_var 1 (pv 1)) de_int) da_nil))))
  (dss_one (ds_ret (de_if (dt_cmp (opr_eq hr.units) opd_eq (de_var 2 (pv 2)) de_int (nomark _)) de_non (de_meth (y := "DaySet") (de_var 0 (pv 0)) ((fTyp_ok (G.xf 2 rfl)).cls) (He.meth_ok (G.xf 13 rfl)) (run_of o_DaySet_nth hg hr (by decide) kb_DaySet_nth_2) rfl (da_cons (de_sub (de_var 2 (pv 2)) de_int) da_nil) dk_nil))))))
theorem ok_DaySet_is_finite (G : Gm K mg) : OkQ P w K mg base p_DaySet_is_finite ["self"] 1 none m_DaySet_is_finite := by
  obtain ⟨fd, Fd⟩ := G.fn 37 (p := p_DaySet_is_finite) rfl
  refine ⟨fd, Fd, ?_⟩
  have sc := sc_DaySet_is_finite
  refine fnA_mir (N := N_DaySet_is_finite) (ps := ["self"]) (k := 0) Fd sc none (by intro j hj; cases hj <;> decide) (by decide) b_DaySet_is_finite fun cdv A outer s H E c hg hr hc => ?_
  exact (dss_one (ds_ret (de_cmp (opr_eq hr.units) opd_eq (de_ix (de_fld (y := "DaySet") (de_var 0 (pv 0)) ((fTyp_ok (G.xf 2 rfl)).cls) (He.noat_ok (G.xf 10 rfl))) de_int (fun _ _ => rfl)) de_int (nomark _))))
theorem ok__law_back_right (G : Gm K mg) : OkF P w K mg base d__law_back_right ["days", "day", "number"] 5 none m__law_back_right := by
  obtain ⟨fd, Fd⟩ := G.fn 38 (p := p__law_back_right) rfl
  obtain ⟨_, F_DaySet_next_from, o_DaySet_next_from⟩ := ok_DaySet_next_from (P := P) (w := w) (base := base) G
  obtain ⟨_, F_DaySet_how_many, o_DaySet_how_many⟩ := ok_DaySet_how_many (P := P) (w := w) (base := base) G
  obtain ⟨_, F_DaySet_nth, o_DaySet_nth⟩ := ok_DaySet_nth (P := P) (w := w) (base := base) G
  obtain ⟨_, F_DaySet___contains__, o_DaySet___contains__⟩ := ok_DaySet___contains__ (P := P) (w := w) (base := base) G
  obtain ⟨_, F_DaySet_last_to, o_DaySet_last_to⟩ := ok_DaySet_last_to (P := P) (w := w) (base := base) G
  obtain ⟨_, F_DaySet_is_finite, o_DaySet_is_finite⟩ := ok_DaySet_is_finite (P := P) (w := w) (base := base) G
  have kb_DaySet_next_from_2 : KBd K _ ["self", "day"] 2 [] (0 :: ([0] : List Nat).map (· + 1)) [] := PV.FunD.kbd0 F_DaySet_next_from (fun _ _ _ _ _ _ us ws hu hw => match us, ws, hu, hw with | [_, _], [], _, _ => rfl)
  have kb_DaySet_how_many_3 : KBd K _ ["self", "low", "high"] 3 [] (0 :: ([0, 1] : List Nat).map (· + 1)) [] := PV.FunD.kbd0 F_DaySet_how_many (fun _ _ _ _ _ _ us ws hu hw => match us, ws, hu, hw with | [_, _, _], [], _, _ => rfl)
  have kb_DaySet_nth_2 : KBd K _ ["self", "number"] 2 [] (0 :: ([0] : List Nat).map (· + 1)) [] := PV.FunD.kbd0 F_DaySet_nth (fun _ _ _ _ _ _ us ws hu hw => match us, ws, hu, hw with | [_, _], [], _, _ => rfl)
  have kb_DaySet___contains___2 : KBd K _ ["self", "day"] 2 [] (0 :: ([0] : List Nat).map (· + 1)) [] := PV.FunD.kbd0 F_DaySet___contains__ (fun _ _ _ _ _ _ us ws hu hw => match us, ws, hu, hw with | [_, _], [], _, _ => rfl)
  have kb_DaySet_last_to_2 : KBd K _ ["self", "day"] 2 [] (0 :: ([0] : List Nat).map (· + 1)) [] := PV.FunD.kbd0 F_DaySet_last_to (fun _ _ _ _ _ _ us ws hu hw => match us, ws, hu, hw with | [_, _], [], _, _ => rfl)
  have bI_DaySet_is_finite : Binds K _ ["self"] [] := F_DaySet_is_finite.bindsN fun _ _ _ _ _ _ us hl => match us, hl with | [_], _ => rfl
  refine ⟨fd, Fd, Fd.kp, G.glo (by decide), Fd.bindsN fun _ _ _ _ _ _ us hl => match us, hl with | [_,_,_], _ => rfl, ?_⟩
  have sc := sc__law_back_right
  refine fnA_mir (N := N__law_back_right) (ps := ["days", "day", "number"]) (k := 4) Fd sc none (by intro j hj; cases hj <;> decide) (by decide) b__law_back_right fun cdv A outer s H E c hg hr hc => ?_
  exact (dss_cons (ds_par (i := 3) (j := 4) (at_ne hc (by decide)) (at_ne hc (by decide)) rfl sc.nd rfl rfl (by decide) rfl rfl (da_cons (de_meth (y := "DaySet") (de_var 0 (pv 0)) ((fTyp_ok (G.xf 2 rfl)).cls) (He.meth_ok (G.xf 5 rfl)) (run_of o_DaySet_how_many hg hr (by decide) kb_DaySet_how_many_3) rfl (da_cons de_int (da_cons (de_var 1 (pv 1)) da_nil)) dk_nil) (da_cons (de_meth (y := "DaySet") (de_var 0 (pv 0)) ((fTyp_ok (G.xf 2 rfl)).cls) (He.meth_ok (G.xf 12 rfl)) (run_of o_DaySet_next_from hg hr (by decide) kb_DaySet_next_from_2) rfl (da_cons (de_var 1 (pv 1)) da_nil) dk_nil) da_nil)) (by first | rfl | with_unfolding_all rfl | kernel_rfl))
  (dss_cons (ds_if (dt_cmp opr_isnot opd_isnot (de_var 4 (pv 4)) de_non (nomark _))
   (dss_cons (ds_if (dt_bool (dw_or (dt_cmp (opr_ne hr.units) opd_ne (de_meth (y := "DaySet") (de_var 0 (pv 0)) ((fTyp_ok (G.xf 2 rfl)).cls) (He.meth_ok (G.xf 13 rfl)) (run_of o_DaySet_nth hg hr (by decide) kb_DaySet_nth_2) rfl (da_cons (de_var 3 (pv 3)) da_nil) dk_nil) (de_var 4 (pv 4)) (nomark _)) (dw_or (dt_cmpf (opf_nin (y := "DaySet") (He.meth_ok (G.xf 14 rfl)).at_ (He.meth_ok (G.xf 14 rfl)).fn (run_of o_DaySet___contains__ hg hr (by decide) kb_DaySet___contains___2)) (de_var 4 (pv 4)) (de_var 0 (pv 0)) rfl) (dw_or (dt_cmp op_lt (opd_cmp _) (de_var 4 (pv 4)) (de_var 1 (pv 1)) (nomark _)) (dw_or1 (dt_cmp (opr_ne hr.units) opd_ne (de_meth (y := "DaySet") (de_var 0 (pv 0)) ((fTyp_ok (G.xf 2 rfl)).cls) (He.meth_ok (G.xf 5 rfl)) (run_of o_DaySet_how_many hg hr (by decide) kb_DaySet_how_many_3) rfl (da_cons de_int (da_cons (de_var 4 (pv 4)) da_nil)) dk_nil) (de_var 3 (pv 3)) (nomark _)))))))
   (dss_one (ds_ret de_bl))
   dss_nil)
  (dss_one (ds_if (dt_bool (dw_or (dt_cmp (opr_ne hr.units) opd_ne (de_meth (y := "DaySet") (de_var 0 (pv 0)) ((fTyp_ok (G.xf 2 rfl)).cls) (He.meth_ok (G.xf 15 rfl)) (run_of o_DaySet_last_to hg hr (by decide) kb_DaySet_last_to_2) rfl (da_cons (de_var 4 (pv 4)) da_nil) dk_nil) (de_var 4 (pv 4)) (nomark _)) (dw_or1 (dt_cmp (opr_ne hr.units) opd_ne (de_meth (y := "DaySet") (de_var 0 (pv 0)) ((fTyp_ok (G.xf 2 rfl)).cls) (He.meth_ok (G.xf 12 rfl)) (run_of o_DaySet_next_from hg hr (by decide) kb_DaySet_next_from_2) rfl (da_cons (de_var 4 (pv 4)) da_nil) dk_nil) (de_var 4 (pv 4)) (nomark _)))))
   (dss_one (ds_ret de_bl))
   dss_nil)))
   dss_nil)
  (dss_cons (ds_if (dt_cmp op_gt (opd_cmp _) (de_var 3 (pv 3)) de_int (nomark _))
   (dss_cons (ds_set (i := 5) (at_ne hc (by decide)) sc.nd rfl (by first | exact Or.inl rfl | exact Or.inr rfl) (de_meth (y := "DaySet") (de_var 0 (pv 0)) ((fTyp_ok (G.xf 2 rfl)).cls) (He.meth_ok (G.xf 15 rfl)) (run_of o_DaySet_last_to hg hr (by decide) kb_DaySet_last_to_2) rfl (da_cons (de_sub (de_var 1 (pv 1)) de_int) da_nil) dk_nil))
  (dss_one (ds_if (dt_bool (dw_or (dt_cmp (opr_ne hr.units) opd_ne (de_meth (y := "DaySet") (de_var 0 (pv 0)) ((fTyp_ok (G.xf 2 rfl)).cls) (He.meth_ok (G.xf 13 rfl)) (run_of o_DaySet_nth hg hr (by decide) kb_DaySet_nth_2) rfl (da_cons (de_sub (de_var 3 (pv 3)) de_int) da_nil) dk_nil) (de_var 5 (pv 5)) (nomark _)) (dw_or (dt_cmpf (opf_nin (y := "DaySet") (He.meth_ok (G.xf 14 rfl)).at_ (He.meth_ok (G.xf 14 rfl)).fn (run_of o_DaySet___contains__ hg hr (by decide) kb_DaySet___contains___2)) (de_var 5 (pv 5)) (de_var 0 (pv 0)) rfl) (dw_or (dt_cmp op_ge (opd_cmp _) (de_var 5 (pv 5)) (de_var 1 (pv 1)) (nomark _)) (dw_or1 (dt_cmp (opr_ne hr.units) opd_ne (de_meth (y := "DaySet") (de_var 0 (pv 0)) ((fTyp_ok (G.xf 2 rfl)).cls) (He.meth_ok (G.xf 5 rfl)) (run_of o_DaySet_how_many hg hr (by decide) kb_DaySet_how_many_3) rfl (da_cons de_int (da_cons (de_add (de_var 5 (pv 5)) de_int) da_nil)) dk_nil) (de_var 3 (pv 3)) (nomark _)))))))
   (dss_one (ds_ret de_bl))
   dss_nil)))
   dss_nil)
  (dss_cons (ds_if (dt_tru (de_prop (y := "DaySet") (de_var 0 (pv 0)) ((fTyp_ok (G.xf 2 rfl)).cls) (fProp_ok (G.xf 16 rfl)) (runI_of o_DaySet_is_finite hg hr (by decide) bI_DaySet_is_finite)))
   (dss_one (ds_ret de_bl))
   dss_nil)
  (dss_cons (ds_set (i := 6) (at_ne hc (by decide)) sc.nd rfl (by first | exact Or.inl rfl | exact Or.inr rfl) (de_meth (y := "DaySet") (de_var 0 (pv 0)) ((fTyp_ok (G.xf 2 rfl)).cls) (He.meth_ok (G.xf 13 rfl)) (run_of o_DaySet_nth hg hr (by decide) kb_DaySet_nth_2) rfl (da_cons (de_var 2 (pv 2)) da_nil) dk_nil))
  (dss_one (ds_ret (de_and (de_cmpf (opf_in (y := "DaySet") (He.meth_ok (G.xf 14 rfl)).at_ (He.meth_ok (G.xf 14 rfl)).fn (run_of o_DaySet___contains__ hg hr (by decide) kb_DaySet___contains___2)) (de_var 6 (pv 6)) (de_var 0 (pv 0)) rfl) (de_and (de_cmp (opr_eq hr.units) opd_eq (de_meth (y := "DaySet") (de_var 0 (pv 0)) ((fTyp_ok (G.xf 2 rfl)).cls) (He.meth_ok (G.xf 5 rfl)) (run_of o_DaySet_how_many hg hr (by decide) kb_DaySet_how_many_3) rfl (da_cons de_int (da_cons (de_var 6 (pv 6)) da_nil)) dk_nil) (de_var 2 (pv 2)) (nomark _)) (de_one (de_cmp (opr_eq hr.units) opd_eq (de_meth (y := "DaySet") (de_var 0 (pv 0)) ((fTyp_ok (G.xf 2 rfl)).cls) (He.meth_ok (G.xf 13 rfl)) (run_of o_DaySet_nth hg hr (by decide) kb_DaySet_nth_2) rfl (da_cons (de_add (de_var 2 (pv 2)) de_int) da_nil) dk_nil) (de_meth (y := "DaySet") (de_var 0 (pv 0)) ((fTyp_ok (G.xf 2 rfl)).cls) (He.meth_ok (G.xf 12 rfl)) (run_of o_DaySet_next_from hg hr (by decide) kb_DaySet_next_from_2) rfl (da_cons (de_add (de_var 6 (pv 6)) de_int) da_nil) dk_nil) (nomark _))))))))))))
theorem ok_law (G : Gm K mg) : OkF P w K mg base d_law ["script"] 9 none m_law := by
  obtain ⟨fd, Fd⟩ := G.fn 39 (p := p_law) rfl
  obtain ⟨_, F__law_begun, o__law_begun⟩ := ok__law_begun (P := P) (w := w) (base := base) G
  obtain ⟨_, F__law_set, o__law_set⟩ := ok__law_set (P := P) (w := w) (base := base) G
  obtain ⟨_, F__law_pattern, o__law_pattern⟩ := ok__law_pattern (P := P) (w := w) (base := base) G
  obtain ⟨_, F__law_take, o__law_take⟩ := ok__law_take (P := P) (w := w) (base := base) G
  obtain ⟨_, F__law_sums_right, o__law_sums_right⟩ := ok__law_sums_right (P := P) (w := w) (base := base) G
  obtain ⟨_, F_DaySet___invert__, o_DaySet___invert__⟩ := ok_DaySet___invert__ (P := P) (w := w) (base := base) G
  obtain ⟨_, F_DaySet___sub__, o_DaySet___sub__⟩ := ok_DaySet___sub__ (P := P) (w := w) (base := base) G
  obtain ⟨_, F_DaySet___and__, o_DaySet___and__⟩ := ok_DaySet___and__ (P := P) (w := w) (base := base) G
  obtain ⟨_, F_DaySet___or__, o_DaySet___or__⟩ := ok_DaySet___or__ (P := P) (w := w) (base := base) G
  obtain ⟨_, F_DaySet_how_many, o_DaySet_how_many⟩ := ok_DaySet_how_many (P := P) (w := w) (base := base) G
  obtain ⟨_, F__law_pick, o__law_pick⟩ := ok__law_pick (P := P) (w := w) (base := base) G
  obtain ⟨_, F__law_back_right, o__law_back_right⟩ := ok__law_back_right (P := P) (w := w) (base := base) G
  have kb_DaySet___invert___1 : KBd K _ ["self"] 1 [] (0 :: ([] : List Nat).map (· + 1)) [] := PV.FunD.kbd0 F_DaySet___invert__ (fun _ _ _ _ _ _ us ws hu hw => match us, ws, hu, hw with | [_], [], _, _ => rfl)
  have kb_DaySet___sub___2 : KBd K _ ["self", "other"] 2 [] (0 :: ([0] : List Nat).map (· + 1)) [] := PV.FunD.kbd0 F_DaySet___sub__ (fun _ _ _ _ _ _ us ws hu hw => match us, ws, hu, hw with | [_, _], [], _, _ => rfl)
  have kb_DaySet___and___2 : KBd K _ ["self", "other"] 2 [] (0 :: ([0] : List Nat).map (· + 1)) [] := PV.FunD.kbd0 F_DaySet___and__ (fun _ _ _ _ _ _ us ws hu hw => match us, ws, hu, hw with | [_, _], [], _, _ => rfl)
  have kb_DaySet___or___2 : KBd K _ ["self", "other"] 2 [] (0 :: ([0] : List Nat).map (· + 1)) [] := PV.FunD.kbd0 F_DaySet___or__ (fun _ _ _ _ _ _ us ws hu hw => match us, ws, hu, hw with | [_, _], [], _, _ => rfl)
  have kb_DaySet_how_many_3 : KBd K _ ["self", "low", "high"] 3 [] (0 :: ([0, 1] : List Nat).map (· + 1)) [] := PV.FunD.kbd0 F_DaySet_how_many (fun _ _ _ _ _ _ us ws hu hw => match us, ws, hu, hw with | [_, _, _], [], _, _ => rfl)
  refine ⟨fd, Fd, Fd.kp, G.glo (by decide), Fd.bindsN fun _ _ _ _ _ _ us hl => match us, hl with | [_], _ => rfl, ?_⟩
  have sc := sc_law
  refine fnA_mir (N := N_law) (ps := ["script"]) (k := 8) Fd sc none (by intro j hj; cases hj <;> decide) (by decide) b_law fun cdv A outer s H E c hg hr hc => ?_
  exact (dss_cons (ds_setFO (i := 1) rfl o__law_begun hg hr (by decide) rfl (at_ne hc (by decide)) sc.nd rfl (by first | exact Or.inl rfl | exact Or.inr rfl) (da_cons (de_var 0 (pv 0)) da_nil))
  (dss_cons (ds_for (passes_of rfl) rfl (at_all hc (by decide)) (di_range1 rfl (G.free (x := "range") (by decide)) (da_cons (de_add de_int (de_callB (call_min2 rfl) cd_min rfl (G.free (x := "min") (by decide)) bt_min (da_cons (de_callB call_len cd_len rfl (G.free (x := "len") (by decide)) bt_len (da_cons (de_var 0 (pv 0)) da_nil)) (da_cons de_int da_nil)))) da_nil)) (pg_name (i := 2) sc.nd rfl (by first | exact Or.inl rfl | exact Or.inr rfl)) (tg_name 2)
   (dss_cons (ds_par (i := 3) (j := 4) (at_ne hc (by decide)) (at_ne hc (by decide)) rfl sc.nd rfl rfl (by decide) rfl rfl (da_cons (de_callO rfl o__law_pattern hg hr (by decide) rfl (da_cons (de_callOS rfl o__law_set (by decide) hg hr (by decide) rfl (das_here (pv 1) (da_cons de_int da_nil))) da_nil)) (da_cons (de_callO rfl o__law_pattern hg hr (by decide) rfl (da_cons (de_callOS rfl o__law_set (by decide) hg hr (by decide) rfl (das_here (pv 1) (da_cons de_int da_nil))) da_nil)) da_nil)) (by first | rfl | with_unfolding_all rfl | kernel_rfl))
  (dss_cons (ds_set (i := 5) (at_ne hc (by decide)) sc.nd rfl (by first | exact Or.inl rfl | exact Or.inr rfl) (de_callB cr_sortedI cd_sortI rfl (G.free (x := "sorted") (by decide)) bt_sorted (da_cons (de_lst (da_cons (de_callOS rfl o__law_take (by decide) hg hr (by decide) rfl (das_here (pv 1) (da_cons de_int da_nil))) (da_cons (de_callOS rfl o__law_take (by decide) hg hr (by decide) rfl (das_here (pv 1) (da_cons (de_pow de_int de_int) da_nil))) (da_cons (de_callOS rfl o__law_take (by decide) hg hr (by decide) rfl (das_here (pv 1) (da_cons (de_pow de_int de_int) da_nil))) da_nil)))) da_nil)))
  (dss_cons (ds_for (passes_of rfl) rfl (at_all hc (by decide)) (di_zip rfl (G.free (x := "zip") (by decide)) (de_var 5 (pv 5)) (de_sl (de_var 5 (pv 5)) (do_some de_int) do_none)) (pg_tup rfl (pgs_cons (pg_name (i := 6) sc.nd rfl (by first | exact Or.inl rfl | exact Or.inr rfl)) (pgs_cons (pg_name (i := 7) sc.nd rfl (by first | exact Or.inl rfl | exact Or.inr rfl)) pgs_nil))) (tg_tup [6, 7])
   (dss_one (ds_if (dt_bool (dw_or (dt_not (dt_tru (de_callO rfl o__law_sums_right hg hr (by decide) rfl (da_cons (de_var 3 (pv 3)) (da_cons (de_var 4 (pv 4)) (da_cons (de_var 6 (pv 6)) (da_cons (de_var 7 (pv 7)) da_nil))))))) (dw_or1 (dt_not (dt_tru (de_callO rfl o__law_sums_right hg hr (by decide) rfl (da_cons (de_var 4 (pv 4)) (da_cons (de_var 3 (pv 3)) (da_cons (de_var 6 (pv 6)) (da_cons (de_add (de_var 7 (pv 7)) de_int) da_nil))))))))))
   (dss_one (ds_ret de_bl))
   dss_nil)))
  (dss_one (ds_for (passes_of rfl) rfl (at_all hc (by decide)) (di_list (de_lst (da_cons (de_var 3 (pv 3)) (da_cons (de_var 4 (pv 4)) (da_cons (de_opf (opf_bin (y := "DaySet") (fTyp_ok (G.xf 2 rfl)) (He.meth_ok (G.xf 4 rfl)).at_ (He.meth_ok (G.xf 4 rfl)).fn (run_of o_DaySet___or__ hg hr (by decide) kb_DaySet___or___2)) (de_var 3 (pv 3)) (de_var 4 (pv 4))) (da_cons (de_opf (opf_bin (y := "DaySet") (fTyp_ok (G.xf 2 rfl)) (He.meth_ok (G.xf 3 rfl)).at_ (He.meth_ok (G.xf 3 rfl)).fn (run_of o_DaySet___and__ hg hr (by decide) kb_DaySet___and___2)) (de_var 3 (pv 3)) (de_var 4 (pv 4))) (da_cons (de_opf (opf_bin (y := "DaySet") (fTyp_ok (G.xf 2 rfl)) (He.meth_ok (G.xf 1 rfl)).at_ (He.meth_ok (G.xf 1 rfl)).fn (run_of o_DaySet___sub__ hg hr (by decide) kb_DaySet___sub___2)) (de_var 3 (pv 3)) (de_var 4 (pv 4))) (da_cons (de_inv (y := "DaySet") (He.meth_ok (G.xf 0 rfl)).at_ (He.meth_ok (G.xf 0 rfl)).fn (run_of o_DaySet___invert__ hg hr (by decide) kb_DaySet___invert___1) (de_var 3 (pv 3))) da_nil)))))))) (pg_name (i := 8) sc.nd rfl (by first | exact Or.inl rfl | exact Or.inr rfl)) (tg_name 8)
   (dss_cons (ds_set (i := 9) (at_ne hc (by decide)) sc.nd rfl (by first | exact Or.inl rfl | exact Or.inr rfl) (de_lst (da_cons (de_meth (y := "DaySet") (de_var 8 (pv 8)) ((fTyp_ok (G.xf 2 rfl)).cls) (He.meth_ok (G.xf 5 rfl)) (run_of o_DaySet_how_many hg hr (by decide) kb_DaySet_how_many_3) rfl (da_cons de_int (da_cons (de_ix (de_var 5 (pv 5)) de_int (fun _ _ => rfl)) da_nil)) dk_nil) (da_cons (de_meth (y := "DaySet") (de_var 8 (pv 8)) ((fTyp_ok (G.xf 2 rfl)).cls) (He.meth_ok (G.xf 5 rfl)) (run_of o_DaySet_how_many hg hr (by decide) kb_DaySet_how_many_3) rfl (da_cons (de_ix (de_var 5 (pv 5)) de_int (fun _ _ => rfl)) (da_cons (de_ix (de_var 5 (pv 5)) de_int (fun _ _ => rfl)) da_nil)) dk_nil) (da_cons (de_meth (y := "DaySet") (de_var 8 (pv 8)) ((fTyp_ok (G.xf 2 rfl)).cls) (He.meth_ok (G.xf 5 rfl)) (run_of o_DaySet_how_many hg hr (by decide) kb_DaySet_how_many_3) rfl (da_cons (de_ix (de_var 5 (pv 5)) de_int (fun _ _ => rfl)) (da_cons (de_ix (de_var 5 (pv 5)) de_int (fun _ _ => rfl)) da_nil)) dk_nil) da_nil)))))
  (dss_cons (ds_if (dt_cmp (opr_ne hr.units) opd_ne (de_callB (cr_sum rfl) cd_sum rfl (G.free (x := "sum") (by decide)) bt_sum (da_cons (de_var 9 (pv 9)) da_nil)) (de_meth (y := "DaySet") (de_var 8 (pv 8)) ((fTyp_ok (G.xf 2 rfl)).cls) (He.meth_ok (G.xf 5 rfl)) (run_of o_DaySet_how_many hg hr (by decide) kb_DaySet_how_many_3) rfl (da_cons de_int (da_cons (de_ix (de_var 5 (pv 5)) de_int (fun _ _ => rfl)) da_nil)) dk_nil) (nomark _))
   (dss_one (ds_ret de_bl))
   dss_nil)
  (dss_one (ds_for (passes_of rfl) rfl (at_all hc (by decide)) (di_list (de_add (de_var 5 (pv 5)) (de_lst (da_cons (de_add (de_ix (de_var 5 (pv 5)) de_int (fun _ _ => rfl)) de_int) da_nil)))) (pg_name (i := 10) sc.nd rfl (by first | exact Or.inl rfl | exact Or.inr rfl)) (tg_name 10)
   (dss_one (ds_if (dt_not (dt_tru (de_callO rfl o__law_back_right hg hr (by decide) rfl (da_cons (de_var 8 (pv 8)) (da_cons (de_var 10 (pv 10)) (da_cons (de_callOS rfl o__law_pick (by decide) hg hr (by decide) rfl (das_here (pv 1) (da_cons (de_lst (da_cons (de_callOS rfl o__law_take (by decide) hg hr (by decide) rfl (das_here (pv 1) (da_cons de_int da_nil))) (da_cons (de_callOS rfl o__law_take (by decide) hg hr (by decide) rfl (das_here (pv 1) (da_cons (de_pow de_int de_int) da_nil))) da_nil))) da_nil))) da_nil))))))
   (dss_one (ds_ret de_bl))
   dss_nil))))))))))))
  (dss_one (ds_ret de_bl))))
end
/-! ### the draws -/
def Gd (b : Nat) (S : LSt) : Prop := 0 ≤ S.turn ∧ S.turn + b ≤ 10000000000000
theorem Gd.mono {a b : Nat} {S : LSt} (h : Gd b S) (hab : a ≤ b) : Gd a S := ⟨h.1, by have := h.2; omega⟩
theorem mx_inner (S : LSt) (t f p : Int) (hp : 0 < p) (hp2 : p < 4294967296) : ∀ (cs : List Int) (b : Int) (x : Sl), b.natAbs < 18446744073709551616 → ∃ b' x', forD (tgN 5) (sSet 4 (dOp gMod (dCall gInt (dCons (dOp gAdd (dOp gAdd (dOp gMul (dV 4) (dC (.int 48271))) (dV 5)) (dV 1)) dNil)) (dV 3))) (cs.map D.int) [.st S, .p (.int t), .p (.int f), .p (.int p), .p (.int b), x] = .nx [.st S, .p (.int t), .p (.int f), .p (.int p), .p (.int b'), x'] ∧ b'.natAbs < 18446744073709551616
  | [], b, x, h => ⟨b, x, rfl, h⟩
  | c :: cs, b, x, h => by
    have hm := Int.emod_nonneg (b * 48271 + c + t) (show p ≠ 0 by omega)
    have hm2 := Int.emod_lt_of_pos (b * 48271 + c + t) hp
    obtain ⟨b', x', h1, h2⟩ := mx_inner S t f p hp hp2 cs ((b * 48271 + c + t) % p) (.p (.int c)) (by omega)
    refine ⟨b', x', ?_, h2⟩
    rw [← h1]
    refine forD_nx (δ1 := [.st S, .p (.int t), .p (.int f), .p (.int p), .p (.int b), .p (.int c)]) rfl ?_
    simp [sSet, dOp, dCall, dCons, dNil, dV, dC, ev_mul, ev_add, ev_int, ev_mod, hp]
def mxBody : PV.Env → SRes := (sSeq (sSet 4 (dOp gAdd (dOp gMul (dC (.int 61441)) (dV 1)) (dOp gDiv (dV 3) (dC (.int 19)))))
  (sSeq (sFor (iStC 0) (tgN 5)
   (sSet 4 (dOp gMod (dCall gInt (dCons (dOp gAdd (dOp gAdd (dOp gMul (dV 4) (dC (.int 48271))) (dV 5)) (dV 1)) dNil)) (dV 3))))
  (sSet 2 (dOp gAdd (dOp gMul (dV 2) (dC (.int 2147483647))) (dOp gMod (dCall gInt (dCons (dOp gPow (dV 4) (dC (.int 5))) dNil)) (dV 3))))))
theorem mx_body (S : LSt) (t f p : Int) (hp : 0 < p) (hp2 : p < 4294967296) (ht : 0 ≤ t) (ht2 : t ≤ 10000000000000) (x y : Sl) : ∃ f' b' x', mxBody [.st S, .p (.int t), .p (.int f), .p (.int p), x, y] = .nx [.st S, .p (.int t), .p (.int f'), .p (.int p), .p (.int b'), x'] := by
  have h1 : sSet 4 (dOp gAdd (dOp gMul (dC (.int 61441)) (dV 1)) (dOp gDiv (dV 3) (dC (.int 19)))) [.st S, .p (.int t), .p (.int f), .p (.int p), x, y] = .nx [.st S, .p (.int t), .p (.int f), .p (.int p), .p (.int (61441 * t + p / 19)), y] := by
    simp [sSet, dOp, dV, dC, ev_mul, ev_add, ev_divL]
  have hb : (61441 * t + p / 19).natAbs < 18446744073709551616 := by omega
  obtain ⟨b', x', h2, h3⟩ := mx_inner S t f p hp hp2 S.cells (61441 * t + p / 19) y hb
  refine ⟨f * 2147483647 + b' ^ 5 % p, b', x', ?_⟩
  unfold mxBody sSeq
  rw [h1, SRes.seq_nx]
  have h4 : sFor (iStC 0) (tgN 5) (sSet 4 (dOp gMod (dCall gInt (dCons (dOp gAdd (dOp gAdd (dOp gMul (dV 4) (dC (.int 48271))) (dV 5)) (dV 1)) dNil)) (dV 3))) [.st S, .p (.int t), .p (.int f), .p (.int p), .p (.int (61441 * t + p / 19)), y] = .nx [.st S, .p (.int t), .p (.int f), .p (.int p), .p (.int b'), x'] := h2
  rw [h4, SRes.seq_nx]
  simp [sSet, dOp, dCall, dCons, dNil, dV, dC, ev_mul, ev_add, ev_int, ev_mod, ev_pow, h3, hp]
theorem e_mixed (S : LSt) (h : Gd 1 S) : ∃ v : Int, m__law_mixed [] (.st S) = some (.p (.int v), .st { S with turn := S.turn + 1 }) := by
  obtain ⟨h1, h2⟩ := h
  have h2' : S.turn + 1 ≤ 10000000000000 := h2
  let S' : LSt := { S with turn := S.turn + 1 }
  obtain ⟨f1, b1, x1, e1⟩ := mx_body S' (S.turn + 1) 0 2147483629 (by omega) (by omega) (by omega) h2' .emp .emp
  obtain ⟨f2, b2, x2, e2⟩ := mx_body S' (S.turn + 1) f1 2147483587 (by omega) (by omega) (by omega) h2' (.p (.int b1)) x1
  obtain ⟨f3, b3, x3, e3⟩ := mx_body S' (S.turn + 1) f2 2147483579 (by omega) (by omega) (by omega) h2' (.p (.int b2)) x2
  obtain ⟨f4, b4, x4, e4⟩ := mx_body S' (S.turn + 1) f3 2147483563 (by omega) (by omega) (by omega) h2' (.p (.int b3)) x3
  refine ⟨f4, ?_⟩
  have hb : b__law_mixed [.st S, .emp, .emp, .emp, .emp, .emp] = .rt (.int f4) [.st S', .p (.int (S.turn + 1)), .p (.int f4), .p (.int 2147483563), .p (.int b4), x4] := by
    have q1 : sPar [1, 2] (dCons (dOp gAdd (dStI 0 .turn) (dC (.int 1))) (dCons (dC (.int 0)) dNil)) [.st S, .emp, .emp, .emp, .emp, .emp] = .nx [.st S, .p (.int (S.turn + 1)), .p (.int 0), .emp, .emp, .emp] := by
      simp [sPar, tgsN, dOp, dCons, dNil, dStI, StK.get, dC, ev_add]
    have q2 : sStPut 0 .turn (dV 1) [.st S, .p (.int (S.turn + 1)), .p (.int 0), .emp, .emp, .emp] = .nx [.st S', .p (.int (S.turn + 1)), .p (.int 0), .emp, .emp, .emp] := rfl
    have q3 : sFor (iLst (dSeq .lst (dCons (dC (.int 2147483629)) (dCons (dC (.int 2147483587)) (dCons (dC (.int 2147483579)) (dCons (dC (.int 2147483563)) dNil)))))) (tgN 3) mxBody [.st S', .p (.int (S.turn + 1)), .p (.int 0), .emp, .emp, .emp] = .nx [.st S', .p (.int (S.turn + 1)), .p (.int f4), .p (.int 2147483563), .p (.int b4), x4] := by
      rw [sFor_ok (l := [.int 2147483629, .int 2147483587, .int 2147483579, .int 2147483563]) (δ1 := [.st S', .p (.int (S.turn + 1)), .p (.int 0), .emp, .emp, .emp]) (by simp [iLst, dSeq, dCons, dC, dNil, gLstOf])]
      rw [forD_nx rfl e1, forD_nx rfl e2, forD_nx rfl e3, forD_nx rfl e4]
      rfl
    exact (seq_nx q1).trans ((seq_nx q2).trans ((seq_nx q3).trans rfl))
  unfold m__law_mixed fnMir
  rw [show mkEnv (some 0) [] (.st S) 6 = [.st S, .emp, .emp, .emp, .emp, .emp] from rfl, hb]
  rfl
theorem e_take (n : Int) (S : LSt) (b : Nat) (h : Gd (b + 1) S) (hn : 0 < n) (hn2 : n < 1000000000000000000000000000000000000000000000000000000000000) : ∃ (v : Int) (S' : LSt), m__law_take [.int n] (.st S) = some (.p (.int v), .st S') ∧ 0 ≤ v ∧ v < n ∧ Gd b S' := by
  have tail : ∀ S1 : LSt, Gd b S1 → ∃ (v : Int) (S' : LSt), (sSeq (sSet 2 (dOp gMod (dCall gInt (dCons (dStI 0 .rest) dNil)) (dV 1)))
  (sSeq (sStPut 0 .rest (dOp gDiv (dStI 0 .rest) (dV 1)))
  (sRet (dV 2)))) [.st S1, .p (.int n), .emp] = .rt (.int v) [.st S', .p (.int n), .p (.int v)] ∧ 0 ≤ v ∧ v < n ∧ Gd b S' := fun S1 g => by
    refine ⟨S1.rest % n, { S1 with rest := S1.rest / n }, ?_, Int.emod_nonneg _ (by omega), Int.emod_lt_of_pos _ hn, g⟩
    simp [sSeq, sSet, sStPut, sRet, dOp, dCall, dCons, dNil, dStI, StK.get, StK.put, dV, ev_int, ev_mod, ev_divL, hn, hn2]
  have main : ∃ S1 : LSt, (sIf (dTst (dOp (gEq false) (dStI 0 .rest) (dC (.int 0)))) (sStPut 0 .rest (dIf (bStW 0) (dStPop 0) (dCallS 1 0 0 m__law_mixed (dHere 0 dNil)))) sNext) [.st S, .p (.int n), .emp] = .nx [.st S1, .p (.int n), .emp] ∧ Gd b S1 := by
    obtain ⟨wd, cl, rs, tn⟩ := S
    by_cases hr : rs = 0
    · cases wd with
      | cons x r =>
        refine ⟨⟨r, cl, x, tn⟩, ?_, ⟨h.1, by have := h.2; dsimp only at this ⊢; omega⟩⟩
        simp [sIf, dTst, dOp, dStI, StK.get, dC, ev_eq, hr, sStPut, dIf, bStW, dStPop, StK.put]
      | nil =>
        obtain ⟨v, hv⟩ := e_mixed ⟨[], cl, rs, tn⟩ (h.mono (by omega))
        refine ⟨⟨[], cl, v, tn + 1⟩, ?_, ⟨by have := h.1; dsimp only at this ⊢; omega, by have := h.2; dsimp only at this ⊢; omega⟩⟩
        simp [sIf, dTst, dOp, dStI, StK.get, dC, ev_eq, hr, sStPut, dIf, bStW, dCallS, dHere, dNil, StK.put]
        rw [hr] at hv
        simp [hv]
    · refine ⟨⟨wd, cl, rs, tn⟩, ?_, h.mono (by omega)⟩
      simp [sIf, dTst, dOp, dStI, StK.get, dC, ev_eq, hr, sNext]
  obtain ⟨S1, h1, g1⟩ := main
  obtain ⟨v, S', h2, h3, h4, h5⟩ := tail S1 g1
  refine ⟨v, S', ?_, h3, h4, h5⟩
  unfold m__law_take fnMir
  rw [show mkEnv (some 0) [.int n] (.st S) 3 = [.st S, .p (.int n), .emp] from rfl]
  unfold b__law_take
  rw [show (sSeq (sIf (dTst (dOp (gEq false) (dStI 0 .rest) (dC (.int 0)))) (sStPut 0 .rest (dIf (bStW 0) (dStPop 0) (dCallS 1 0 0 m__law_mixed (dHere 0 dNil)))) sNext) (sSeq (sSet 2 (dOp gMod (dCall gInt (dCons (dStI 0 .rest) dNil)) (dV 1))) (sSeq (sStPut 0 .rest (dOp gDiv (dStI 0 .rest) (dV 1))) (sRet (dV 2))))) [.st S, .p (.int n), .emp] = .rt (.int v) [.st S', .p (.int n), .p (.int v)] from by
    show (sIf _ _ _ _).seq _ = _
    rw [h1, SRes.seq_nx, h2]]
  rfl

theorem e_pick (l : List D) (S : LSt) (b : Nat) (h : Gd (b + 1) S) (h0 : l ≠ []) (hl : l.length < 1000000000) : ∃ (d : D) (S' : LSt), d ∈ l ∧ m__law_pick [.lst l] (.st S) = some (.p d, .st S') ∧ Gd b S' := by
  have hp : 0 < l.length := List.length_pos_iff.mpr h0
  obtain ⟨v, S', t, a, c, g⟩ := e_take (l.length : Int) S b h (by omega) (by omega)
  have hv : v.toNat < l.length := by omega
  refine ⟨l[v.toNat], S', List.getElem_mem hv, ?_, g⟩
  have q : dCallS 2 0 0 m__law_take (dHere 0 (dCons (dCall gLen (dCons (dV 1) dNil)) dNil)) [.st S, .p (.lst l)] = .ok (.int v) [.st S', .p (.lst l)] := by
    simp [dCallS, dHere, ev_lenL, t, dCall, dCons, dNil, dV]
  have e : gIx (.lst l) (.int v) = some l[v.toNat] := by
    show (ixN l.length v).bind (fun j => l[j]?) = _
    unfold ixN
    rw [if_pos a, if_pos (by omega)]
    show l[v.toNat]? = _
    exact List.getElem?_eq_getElem hv
  exact fnMir_rt (δ := [.st S', .p (.lst l)]) (sRet_ok (dOp_ok rfl q e)) rfl

/-! ### mask -/
theorem e_mask (n : Nat) (h : n ≤ 30000000) : m_mask [dI n] .emp = some (.p (dI (2 ^ n - 1)), .emp) := by
  refine fnMir_rt (δ := [pI n]) (sRet_ok (dOp_ok (dOp_ok (x := dI 1) (y := dI n) rfl rfl (PD.g_shl (n := 1) n (by omega) (by omega) (by omega))) rfl ?_)) rfl
  rw [Nat.one_shiftLeft]
  exact n_sub (b := 1) Nat.one_le_two_pow
/-! ### repeat -/
theorem w_repeat (b size times : Nat) (hb : b < 2 ^ size) (hs : 0 < size) (hz : size * times ≤ 20000000) : ∀ (k fo hv : Nat) (x5 : Sl), times - hv = k → 0 < hv → hv ≤ times → (∀ i, fo.testBit i = (decide (i < size * hv) && b.testBit (i % size))) →
    ∃ n' x5', ∃ n, whileN t_repeat_1 y_repeat_2 n [pI b, pI size, pI times, pI fo, pI hv, x5] = .nx [pI b, pI size, pI times, pI n', pI times, x5'] ∧ n' = PD.ofB (size * times) fun i => b.testBit (i % size) := by
  intro k
  induction k using Nat.strongRecOn with
  | ind k ih =>
    intro fo hv x5 hk h0 h1 hf
    by_cases hlt : hv < times
    · have hm1 : size * hv ≤ size * times := Nat.mul_le_mul_left _ h1
      let mo := min hv (times - hv)
      have hmo : 0 < mo ∧ mo ≤ hv ∧ hv + mo ≤ times := by show 0 < min hv (times - hv) ∧ min hv (times - hv) ≤ hv ∧ hv + min hv (times - hv) ≤ times; omega
      have hm2 : size * mo ≤ size * hv := Nat.mul_le_mul_left _ hmo.2.1
      have hm3 : size * (hv + mo) ≤ size * times := Nat.mul_le_mul_left _ hmo.2.2
      rw [Nat.mul_add] at hm3
      let f2 := fo ||| (fo &&& (2 ^ (size * mo) - 1)) <<< (size * hv)
      have hf2 : ∀ i, f2.testBit i = (decide (i < size * (hv + mo)) && b.testBit (i % size)) := fun i => by
        show (fo ||| (fo &&& (2 ^ (size * mo) - 1)) <<< (size * hv)).testBit i = _
        rw [Nat.testBit_or, Nat.testBit_shiftLeft, Nat.testBit_and, PD.bit_mask, hf, hf, Nat.mul_add]
        by_cases c1 : i < size * hv
        · rw [decide_eq_true c1, decide_eq_false (show ¬ i ≥ size * hv by omega), decide_eq_true (show i < size * hv + size * mo by omega)]
          simp
        · have e : (i - size * hv) % size = i % size := by
            have := Nat.add_mul_mod_self_left (i - size * hv) size hv
            rw [Nat.sub_add_cancel (by omega)] at this
            exact this.symm
          rw [decide_eq_false c1, decide_eq_true (show i ≥ size * hv by omega), e]
          by_cases c2 : i - size * hv < size * mo
          · rw [decide_eq_true c2, decide_eq_true (show i - size * hv < size * hv by omega), decide_eq_true (show i < size * hv + size * mo by omega)]
            simp
          · rw [decide_eq_false c2, decide_eq_false (show ¬ i < size * hv + size * mo by omega)]
            simp
      obtain ⟨n', x5', n, q1, q2⟩ := ih (times - (hv + mo)) (by omega) f2 (hv + mo) (pI mo) rfl (by omega) hmo.2.2 hf2
      have fl : (fo &&& (2 ^ (size * mo) - 1)) < 2 ^ (size * mo) := PD.and_lt
      have t1 : t_repeat_1 [pI b, pI size, pI times, pI fo, pI hv, x5] = .ok true [pI b, pI size, pI times, pI fo, pI hv, x5] := tB (dOp_ok (x := dI hv) (y := dI times) rfl rfl ((n_lt _ _).trans (by rw [decide_eq_true hlt])))
      have b1 : y_repeat_2 [pI b, pI size, pI times, pI fo, pI hv, x5] = .nx [pI b, pI size, pI times, pI f2, pI (hv + mo), pI mo] := by
        refine sq [pI b, pI size, pI times, pI fo, pI hv, pI mo] (sE (cB (aC (x := dI hv) rfl (a1 (dOp_ok (x := dI times) (y := dI hv) rfl rfl (n_sub h1)))) (n_min _ _)) rfl) ?_
        refine sq [pI b, pI size, pI times, pI f2, pI hv, pI mo] (sE (dOp_ok (x := dI fo) rfl (dOp_ok (x := dI (fo &&& (2 ^ (size * mo) - 1))) (dOp_ok (x := dI fo) rfl (cF (a1 (dOp_ok (x := dI size) (y := dI mo) rfl rfl (n_mul (by have := Nat.le_mul_of_pos_right size (show 0 < times by omega); omega)))) rfl (e_mask _ (by omega))) (PD.g_and _ _)) (dOp_ok (x := dI size) (y := dI hv) rfl rfl (n_mul (by have := Nat.le_mul_of_pos_right size (show 0 < times by omega); omega))) (PD.g_shl _ fl (by omega) (by omega))) (PD.g_or _ _)) rfl) ?_
        exact sE (dOp_ok (x := dI hv) (y := dI mo) rfl rfl (n_add _ _)) rfl
      obtain ⟨m, q3⟩ := wh_turn t1 b1 ⟨n, q1⟩
      exact ⟨n', x5', m, q3, q2⟩
    · have e : hv = times := by omega
      subst e
      obtain ⟨m, q⟩ := wh_end (t := t_repeat_1) (b := y_repeat_2) (δ := [pI b, pI size, pI hv, pI fo, pI hv, x5]) (tB (dOp_ok (x := dI hv) (y := dI hv) rfl rfl ((n_lt _ _).trans (by rw [decide_eq_false (by omega)]))))
      exact ⟨fo, x5, m, q, PD.eq_ofB hf⟩
theorem e_repeat (b size times : Nat) (hb : b < 2 ^ size) (hs : 0 < size) (ht : 0 < times) (hz : size * times ≤ 20000000) : m_repeat [dI b, dI size, dI times] .emp = some (.p (dI (PD.ofB (size * times) fun i => b.testBit (i % size))), .emp) := by
  obtain ⟨n', x5', n, q1, rfl⟩ := w_repeat b size times hb hs hz (times - 1) b 1 .emp rfl (by omega) (by omega) fun i => by
    rw [Nat.mul_one]
    by_cases h : i < size
    · rw [decide_eq_true h, Nat.mod_eq_of_lt h, Bool.true_and]
    · rw [decide_eq_false h, PD.bit_high hb (by omega)]; rfl
  refine fnMir_rt (δ := [pI b, pI size, pI times, pI (PD.ofB (size * times) fun i => b.testBit (i % size)), pI times, x5']) ?_ rfl
  refine sq [pI b, pI size, pI times, pI b, .emp, .emp] (sE rfl rfl) ?_
  refine sq [pI b, pI size, pI times, pI b, pI 1, .emp] (sE rfl rfl) ?_
  exact sq _ (wh_of ⟨n, q1⟩) (sRet_ok rfl)

/-! ### prime_divisors -/
theorem w_div (x0 x1 : Sl) (dv : Nat) (hd : 2 ≤ dv) (hdz : dv ≤ 20000000) : ∀ (l : Nat), 0 < l → ∃ l', (∃ n, whileN t_prime_divisors_1 y_prime_divisors_2 n [x0, x1, pI l, pI dv] = .nx [x0, x1, pI l', pI dv]) ∧ 0 < l' ∧ l' ∣ l ∧ ¬ dv ∣ l' ∧ ∀ r, PD.Pr r → r ∣ l → r ∣ l' ∨ r ∣ dv := by
  intro l
  induction l using Nat.strongRecOn with
  | ind l ih =>
    intro hl
    have tt : ∀ b, decide (l % dv = 0) = b → t_prime_divisors_1 [x0, x1, pI l, pI dv] = .ok b [x0, x1, pI l, pI dv] := fun b e => tB (dOp_ok (x := dI (l % dv)) (y := dI 0) (dOp_ok (x := dI l) (y := dI dv) rfl rfl (n_mod (by omega))) rfl ((n_eq _ _).trans (by rw [e])))
    by_cases h : l % dv = 0
    · have hdvd := Nat.dvd_of_mod_eq_zero h
      obtain ⟨k, hk⟩ := hdvd
      have e : l / dv = k := by rw [hk, Nat.mul_div_cancel_left _ (by omega)]
      have hk0 : 0 < k := by
        rcases Nat.eq_zero_or_pos k with z | z
        · rw [z] at hk; omega
        · exact z
      have hlt : k < l := by rw [hk]; exact Nat.lt_of_lt_of_le (show k < 2 * k by omega) (Nat.mul_le_mul_right k hd)
      obtain ⟨l', q1, q2, q3, q4, q5⟩ := ih k hlt hk0
      refine ⟨l', wh_turn (δ2 := [x0, x1, pI k, pI dv]) (tt true (decide_eq_true h)) (sE (dOp_ok (x := dI l) (y := dI dv) rfl rfl ((n_div (by omega) (by omega)).trans (by rw [e]))) rfl) q1, q2, Nat.dvd_trans q3 ⟨dv, by rw [hk, Nat.mul_comm]⟩, q4, fun r hr hrl => ?_⟩
      rw [hk] at hrl
      rcases PD.pr_euclid hr hrl with z | z
      · exact .inr z
      · exact q5 r hr z
    · exact ⟨l, wh_end (tt false (decide_eq_false h)), hl, Nat.dvd_refl l, fun z => h (Nat.mod_eq_zero_of_dvd z), fun r _ hr => .inl hr⟩
abbrev lI (L : List Nat) : D := .lst (L.map dI)
theorem lI_add (L : List Nat) (x : Nat) (h : L.length < 16000000) : gAdd (lI L) (.lst [dI x]) = some (lI (L ++ [x])) := by
  refine (if_pos (by rw [List.length_map]; show L.length + 1 ≤ _; omega)).trans ?_
  show some (D.lst (L.map dI ++ [dI x])) = some (D.lst ((L ++ [x]).map dI))
  simp
structure PInv (N : Nat) (L : List Nat) (l dv : Nat) : Prop where
  d2 : 2 ≤ dv
  dz : dv ≤ N + 2
  l0 : 0 < l
  lN : l ≤ N
  no : ∀ d, 2 ≤ d → d < dv → ¬ d ∣ l
  pr : ∀ r, PD.Pr r → r ∣ N → r ∈ L ∨ r ∣ l
  ge : ∀ x ∈ L, 2 ≤ x
  len : L.length ≤ dv
theorem w_prime (N : Nat) (hN : N ≤ 10000000) : ∀ (k : Nat) (L : List Nat) (l dv : Nat), N + 2 - dv = k → PInv N L l dv →
    ∃ L' l' dv', (∃ n, whileN t_prime_divisors_3 y_prime_divisors_4 n [pI N, .p (lI L), pI l, pI dv] = .nx [pI N, .p (lI L'), pI l', pI dv']) ∧ PInv N L' l' dv' ∧ l' < dv' * dv' := by
  intro k
  induction k using Nat.strongRecOn with
  | ind k ih =>
    intro L l dv hk I
    have hd2 := I.d2
    have hdz := I.dz
    have hl0 := I.l0
    have hlN := I.lN
    have tt : ∀ b, decide (dv * dv ≤ l) = b → t_prime_divisors_3 [pI N, .p (lI L), pI l, pI dv] = .ok b [pI N, .p (lI L), pI l, pI dv] := fun b e => tB (dOp_ok (x := dI (dv * dv)) (y := dI l) (dOp_ok (x := dI dv) (y := dI dv) rfl rfl (n_mul (by omega))) rfl ((n_le _ _).trans (by rw [e])))
    by_cases hb : dv * dv ≤ l
    · have hle : dv ≤ l := Nat.le_trans (Nat.le_mul_of_pos_left dv (by omega)) hb
      have step : ∃ L' l', y_prime_divisors_4 [pI N, .p (lI L), pI l, pI dv] = .nx [pI N, .p (lI L'), pI l', pI (dv + 1)] ∧ PInv N L' l' (dv + 1) := by
        have ti : ∀ b, decide (l % dv = 0) = b → dTst (dOp (gEq false) (dOp gMod (dV 2) (dV 3)) (dC (.int 0))) [pI N, .p (lI L), pI l, pI dv] = .ok b [pI N, .p (lI L), pI l, pI dv] := fun b e => tB (dOp_ok (x := dI (l % dv)) (y := dI 0) (dOp_ok (x := dI l) (y := dI dv) rfl rfl (n_mod (by omega))) rfl ((n_eq _ _).trans (by rw [e])))
        by_cases h : l % dv = 0
        · obtain ⟨l', q1, q2, q3, q4, q5⟩ := w_div (pI N) (.p (lI (L ++ [dv]))) dv hd2 (by omega) l hl0
          refine ⟨L ++ [dv], l', ?_, ⟨by omega, by omega, q2, Nat.le_trans (Nat.le_of_dvd hl0 q3) hlN, fun d h1 h2 h3 => ?_, fun r hr hrN => ?_, fun x hx => ?_, by rw [List.length_append]; have := I.len; simp; omega⟩⟩
          · refine sq [pI N, .p (lI (L ++ [dv])), pI l', pI dv] ?_ (sE (dOp_ok (x := dI dv) (y := dI 1) rfl rfl (n_add _ _)) rfl)
            refine (iY (ti true (decide_eq_true h))).trans ?_
            exact sq [pI N, .p (lI (L ++ [dv])), pI l, pI dv] (sE (dOp_ok (x := lI L) (y := .lst [dI dv]) rfl rfl (lI_add L dv (by have := I.len; omega))) rfl) (wh_of q1)
          · by_cases e : d = dv
            · subst e; exact q4 h3
            · exact I.no d h1 (by omega) (Nat.dvd_trans h3 q3)
          · rcases I.pr r hr hrN with z | z
            · exact .inl (List.mem_append_left _ z)
            · rcases q5 r hr z with z2 | z2
              · exact .inr z2
              · have h1 := Nat.le_of_dvd (by omega) z2
                have h2 : ¬ r < dv := fun hlt => I.no r hr.1 hlt z
                exact .inl (List.mem_append_right _ (by rw [show r = dv by omega]; exact List.mem_singleton_self _))
          · rcases List.mem_append.mp hx with z | z
            · exact I.ge x z
            · rw [List.mem_singleton.mp z]; exact hd2
        · refine ⟨L, l, ?_, ⟨by omega, by omega, hl0, hlN, fun d h1 h2 h3 => ?_, I.pr, I.ge, by have := I.len; omega⟩⟩
          · refine sq [pI N, .p (lI L), pI l, pI dv] (iN (ti false (decide_eq_false h))) ?_
            exact sE (dOp_ok (x := dI dv) (y := dI 1) rfl rfl (n_add _ _)) rfl
          · by_cases e : d = dv
            · subst e; exact h (Nat.mod_eq_zero_of_dvd h3)
            · exact I.no d h1 (by omega) h3
      obtain ⟨L1, l1, s1, I1⟩ := step
      obtain ⟨L', l', dv', q, I', e⟩ := ih (N + 2 - (dv + 1)) (by omega) L1 l1 (dv + 1) rfl I1
      exact ⟨L', l', dv', wh_turn (tt true (decide_eq_true hb)) s1 q, I', e⟩
    · exact ⟨L, l, dv, wh_end (tt false (decide_eq_false hb)), I, by omega⟩
theorem e_primes (N : Nat) (h0 : 0 < N) (hN : N ≤ 10000000) : ∃ L, m_prime_divisors [dI N] .emp = some (.p (lI L), .emp) ∧ PD.Full N L ∧ ∀ x ∈ L, 2 ≤ x := by
  obtain ⟨L, l, dv, q, I, e⟩ := w_prime N hN N [] N 2 (by omega) ⟨by omega, by omega, h0, Nat.le_refl N, fun d h1 h2 => by omega, fun r _ hr => .inr hr, fun x hx => (by cases hx), by simp⟩
  have hdz := I.dz
  refine ⟨L ++ (if 1 < l then [l] else []), fnMir_rt (δ := [pI N, .p (lI L), pI l, pI dv]) ?_ rfl, fun r hr hrN => ?_, fun x hx => ?_⟩
  · refine sq [pI N, .p (lI []), .emp, .emp] (sE rfl rfl) ?_
    refine sq [pI N, .p (lI []), pI N, .emp] (sE rfl rfl) ?_
    refine sq [pI N, .p (lI []), pI N, pI 2] (sE rfl rfl) ?_
    refine sq [pI N, .p (lI L), pI l, pI dv] (wh_of q) ?_
    by_cases h : 1 < l
    · rw [if_pos h]
      exact sRet_ok (dOp_ok (x := lI L) (y := .lst [dI l]) rfl ((dY (tB (dOp_ok (x := dI l) (y := dI 1) rfl rfl ((n_gt _ _).trans (by rw [decide_eq_true h]))))).trans rfl) (lI_add L l (by have := I.len; omega)))
    · rw [if_neg h, List.append_nil]
      refine sRet_ok (dOp_ok (x := lI L) (y := .lst []) rfl ((dN (tB (dOp_ok (x := dI l) (y := dI 1) rfl rfl ((n_gt _ _).trans (by rw [decide_eq_false h]))))).trans rfl) ?_)
      refine (if_pos (by rw [List.length_map]; have := I.len; show L.length + 0 ≤ _; omega)).trans ?_
      rw [List.append_nil]
  · rcases I.pr r hr hrN with z | z
    · exact List.mem_append_left _ z
    · have hr2 := hr.1
      have hle := Nat.le_of_dvd I.l0 z
      rw [if_pos (by omega)]
      refine List.mem_append_right _ ?_
      obtain ⟨k, hk⟩ := z
      have hrd : dv ≤ r := Nat.le_of_not_lt fun hlt => I.no r hr2 hlt ⟨k, hk⟩
      have : k = 1 := by
        rcases Nat.lt_or_ge k 2 with c | c
        · have : k ≠ 0 := fun z => by rw [z] at hk; have := I.l0; omega
          omega
        · have hkd : dv ≤ k := Nat.le_of_not_lt fun hlt => I.no k c hlt ⟨r, by rw [hk, Nat.mul_comm]⟩
          have := Nat.mul_le_mul hrd hkd
          omega
      rw [this, Nat.mul_one] at hk
      rw [hk]; exact List.mem_singleton_self _
  · rcases List.mem_append.mp hx with z | z
    · exact I.ge x z
    · by_cases h : 1 < l
      · rw [if_pos h] at z; rw [List.mem_singleton.mp z]; exact h
      · rw [if_neg h] at z; cases z
/-! ### shortest -/
structure SInv (p0 c0 p c : Nat) : Prop where
  pz : 0 < p
  pd : p ∣ p0
  cz : c < 2 ^ p
  eq : PD.cyc p c = PD.cyc p0 c0
theorem rep_iff {p c size r : Nat} (hp : p = size * r) (hs : 0 < size) (hr : 0 < r) (hc : c < 2 ^ p) : (PD.ofB (size * r) fun i => (c &&& (2 ^ size - 1)).testBit (i % size)) = c ↔ PD.Per (PD.cyc p c) size := by
  have hsz : ∀ i, (c &&& (2 ^ size - 1)).testBit (i % size) = c.testBit (i % size) := fun i => by
    rw [Nat.testBit_and, PD.bit_mask, decide_eq_true (Nat.mod_lt _ hs), Bool.and_true]
  have hdv : size ∣ p := ⟨r, hp⟩
  have hp0 : 0 < p := by rw [hp]; exact Nat.mul_pos hs hr
  constructor
  · intro e
    have key : ∀ i, PD.cyc p c i = c.testBit (i % size) := fun i => by
      have h1 : (PD.ofB (size * r) fun i => (c &&& (2 ^ size - 1)).testBit (i % size)).testBit (i % p) = c.testBit (i % p) := by rw [e]
      rw [PD.ofB_bit, decide_eq_true (by rw [← hp]; exact Nat.mod_lt _ hp0), Bool.true_and, hsz, Nat.mod_mod_of_dvd _ hdv] at h1
      exact h1.symm
    exact ⟨hs, fun i => by rw [key, key, Nat.add_mod_right]⟩
  · intro h
    refine (PD.eq_ofB fun i => ?_).symm
    by_cases hi : i < size * r
    · rw [decide_eq_true hi, Bool.true_and, hsz]
      have := h.mod i
      unfold PD.cyc at this
      rw [Nat.mod_eq_of_lt (show i < p by omega), Nat.mod_eq_of_lt (Nat.lt_of_lt_of_le (Nat.mod_lt _ hs) (Nat.le_of_dvd hp0 hdv))] at this
      exact this.symm
    · rw [decide_eq_false hi, Bool.false_and]
      exact PD.bit_high hc (by omega)
theorem w_short (p0 c0 r : Nat) (hr : 2 ≤ r) (hz : p0 ≤ 10000000) (h0 : 0 < p0) (x3 : Sl) : ∀ (p c : Nat) (x3 : Sl), SInv p0 c0 p c →
    ∃ p' c' x3', (∃ n, whileN t_shortest_1 y_shortest_2 n [pI p, pI c, pI r, x3] = .nx [pI p', pI c', pI r, x3']) ∧ SInv p0 c0 p' c' ∧ p' ∣ p ∧ (r ∣ p' → ¬ PD.Per (PD.cyc p0 c0) (p' / r)) := by
  intro p
  induction p using Nat.strongRecOn with
  | ind p ih =>
    intro c x3 I
    have hp0 := I.pz
    have hple : p ≤ p0 := Nat.le_of_dvd h0 I.pd
    have rb : r < 1000000000000 ∨ 1000000000000 ≤ r := by omega
    have tt : ∀ b, decide (p % r = 0) = b → t_shortest_1 [pI p, pI c, pI r, x3] = .ok b [pI p, pI c, pI r, x3] := fun b e => tB (dOp_ok (x := dI (p % r)) (y := dI 0) (dOp_ok (x := dI p) (y := dI r) rfl rfl (n_mod (by omega))) rfl ((n_eq _ _).trans (by rw [e])))
    by_cases h : p % r = 0
    · obtain ⟨size, hs⟩ := Nat.dvd_of_mod_eq_zero h
      have e1 : p / r = size := by rw [hs, Nat.mul_div_cancel_left _ (by omega)]
      have hs0 : 0 < size := by
        rcases Nat.eq_zero_or_pos size with z | z
        · rw [z] at hs; omega
        · exact z
      have hrle : r ≤ p := by rw [hs]; exact Nat.le_mul_of_pos_right r hs0
      have hsle : size ≤ p := by rw [hs]; exact Nat.le_mul_of_pos_left size (by omega)
      have hps : p = size * r := by rw [hs, Nat.mul_comm]
      have er := e_repeat (c &&& (2 ^ size - 1)) size r PD.and_lt hs0 (by omega) (by omega)
      have tb : ∀ b, (!decide ((PD.ofB (size * r) fun i => (c &&& (2 ^ size - 1)).testBit (i % size)) = c)) = b → dTst (dOp (gEq true) (dCallF 3 m_repeat [] (dCons (dOp (gBit Builtin.bitAnd) (dV 1) (dCallF 1 m_mask [] (dCons (dV 3) dNil))) (dCons (dV 3) (dCons (dV 2) dNil)))) (dV 1)) [pI p, pI c, pI r, pI size] = .ok b [pI p, pI c, pI r, pI size] := fun b e =>
        tB (dOp_ok (x := dI _) (y := dI c) (cF (aC (x := dI _) (dOp_ok (x := dI c) (y := dI _) rfl (cF (a1 (x := dI size) rfl) rfl (e_mask size (by omega))) (PD.g_and _ _)) (aC (x := dI size) rfl (a1 (x := dI r) rfl))) rfl er) rfl ((n_ne _ _).trans (by rw [e])))
      have s1 : sSet 3 (dOp gDiv (dV 0) (dV 2)) [pI p, pI c, pI r, x3] = .nx [pI p, pI c, pI r, pI size] := sE (dOp_ok (x := dI p) (y := dI r) rfl rfl ((n_div (by omega) (by omega)).trans (by rw [e1]))) rfl
      by_cases hq : (PD.ofB (size * r) fun i => (c &&& (2 ^ size - 1)).testBit (i % size)) = c
      · have hP : PD.Per (PD.cyc p c) size := (rep_iff hps hs0 (by omega) I.cz).mp hq
        have hd : size ∣ p := ⟨r, hps⟩
        have I2 : SInv p0 c0 size (c &&& (2 ^ size - 1)) := ⟨hs0, Nat.dvd_trans hd I.pd, PD.and_lt, (funext (PD.cyc_cut hP hd hp0)).trans I.eq⟩
        have hlt : size < p := by rw [hps]; exact Nat.lt_of_lt_of_le (show size < size * 2 by omega) (Nat.mul_le_mul_left size hr)
        obtain ⟨p', c', x3', q1, q2, q3, q4⟩ := ih size hlt _ (pI size) I2
        refine ⟨p', c', x3', wh_turn (δ2 := [pI size, pI (c &&& (2 ^ size - 1)), pI r, pI size]) (tt true (decide_eq_true h)) ?_ q1, q2, Nat.dvd_trans q3 hd, q4⟩
        refine sq [pI p, pI c, pI r, pI size] s1 ?_
        refine sq [pI p, pI c, pI r, pI size] (iN (tb false (by rw [decide_eq_true hq]; rfl))) ?_
        exact sP (aC (x := dI size) rfl (a1 (x := dI (c &&& (2 ^ size - 1))) (dOp_ok (x := dI c) (y := dI (2 ^ size - 1)) rfl (cF (a1 (x := dI size) rfl) rfl (e_mask size (by omega))) (PD.g_and _ _)))) rfl
      · refine ⟨p, c, pI size, wh_break (tt true (decide_eq_true h)) ?_, I, Nat.dvd_refl p, fun _ hP => hq ((rep_iff hps hs0 (by omega) I.cz).mpr (by rw [I.eq, ← e1]; exact hP))⟩
        refine sq [pI p, pI c, pI r, pI size] s1 ?_
        unfold sSeq
        rw [iY (tb true (by rw [decide_eq_false hq]; rfl))]
        rfl
    · exact ⟨p, c, x3, wh_end (tt false (decide_eq_false h)), I, Nat.dvd_refl p, fun z => absurd (Nat.mod_eq_zero_of_dvd z) h⟩
theorem f_short (p0 c0 : Nat) (hz : p0 ≤ 10000000) (h0 : 0 < p0) : ∀ (L D : List Nat) (p c : Nat) (x2 x3 : Sl), (∀ x ∈ L, 2 ≤ x) → (∀ x ∈ D, 2 ≤ x) → SInv p0 c0 p c → (∀ r ∈ D, r ∣ p → ¬ PD.Per (PD.cyc p0 c0) (p / r)) →
    ∃ p' c' x2' x3', forD (tgN 2) y_shortest_3 (L.map dI) [pI p, pI c, x2, x3] = .nx [pI p', pI c', x2', x3'] ∧ SInv p0 c0 p' c' ∧ ∀ r ∈ D ++ L, r ∣ p' → ¬ PD.Per (PD.cyc p0 c0) (p' / r) := by
  intro L
  induction L with
  | nil => intro D p c x2 x3 _ _ I h; exact ⟨p, c, x2, x3, rfl, I, by rw [List.append_nil]; exact h⟩
  | cons r L ih =>
    intro D p c x2 x3 hL hD I h
    obtain ⟨p1, c1, x3', q1, I1, d1, t1⟩ := w_short p0 c0 r (hL r (List.mem_cons_self)) hz h0 x3 p c x3 I
    obtain ⟨p', c', x2', x3'', q2, I2, t2⟩ := ih (D ++ [r]) p1 c1 (pI r) x3' (fun x hx => hL x (List.mem_cons_of_mem _ hx)) (fun x hx => by
        rcases List.mem_append.mp hx with z | z
        · exact hD x z
        · rw [List.mem_singleton.mp z]; exact hL r List.mem_cons_self) I1 (fun x hx => by
        rcases List.mem_append.mp hx with z | z
        · exact PD.tried_mono I1.pz d1 I.pz (by have := hD x z; omega) (h x z)
        · rw [List.mem_singleton.mp z]; exact t1)
    refine ⟨p', c', x2', x3'', ?_, I2, by rw [List.append_assoc] at t2; exact t2⟩
    rw [List.map_cons]
    exact (forD_nx (δ1 := [pI p, pI c, pI r, x3]) rfl (wh_of q1)).trans q2
theorem e_short (p0 c0 : Nat) (hz : p0 ≤ 10000000) (h0 : 0 < p0) (hc : c0 < 2 ^ p0) : ∃ p c, m_shortest [dI p0, dI c0] .emp = some (.p (.tup [dI p, dI c]), .emp) ∧ SInv p0 c0 p c ∧ ∀ q, PD.Per (PD.cyc p0 c0) q → p ∣ q := by
  obtain ⟨L, q1, q2, q3⟩ := e_primes p0 h0 hz
  obtain ⟨p, c, x2, x3, q4, I, t⟩ := f_short p0 c0 hz h0 L [] p0 c0 .emp .emp q3 (fun x hx => by cases hx) ⟨h0, Nat.dvd_refl _, hc, rfl⟩ (fun x hx => by cases hx)
  refine ⟨p, c, fnMir_rt (δ := [pI p, pI c, x2, x3]) ?_ rfl, I, PD.least_of (I.eq ▸ PD.cyc_per I.pz) I.pd h0 q2 t⟩
  refine sq [pI p, pI c, x2, x3] ?_ rfl
  refine (sFor_ok (l := L.map dI) (δ1 := [pI p0, pI c0, .emp, .emp]) ?_).trans q4
  have e1 : dCallF 1 m_prime_divisors [] (dCons (dV 0) dNil) [pI p0, pI c0, .emp, .emp] = .ok (lI L) [pI p0, pI c0, .emp, .emp] := cF (a1 (x := dI p0) rfl) rfl q1
  show iLst _ [pI p0, pI c0, .emp, .emp] = _
  unfold iLst
  rw [e1]
  rfl

/-! ### places -/
abbrev plc (n : Nat) : List Nat := (List.range (PD.blen n)).filter n.testBit
theorem low_sz (n : Nat) : (PD.lowS n).length ≤ PD.blen n + 1 := by
  unfold PD.lowS
  split
  · simp
  · rw [List.length_map, List.length_range]; omega
theorem low_get (n i : Nat) (h : i < (PD.lowS n).length) : (PD.lowS n).toArray.getD i 0 = PD.sg (n.testBit i) := by
  unfold PD.lowS at h ⊢
  by_cases hn : n = 0
  · subst hn
    rw [if_pos rfl] at h ⊢
    have : i = 0 := by simpa using h
    subst this; rfl
  · rw [if_neg hn] at h ⊢
    rw [List.length_map, List.length_range] at h
    rw [Array.getD_eq_getD_getElem?, List.getElem?_toArray, List.getElem?_map, List.getElem?_range h]
    rfl
theorem low_items (n : Nat) : ((enumS ⟨(PD.lowS n).toArray⟩).filter fun d => match d with | .tup [_, .str x] => decide (x = "1") | _ => false).map (fun d => match d with | .tup [a, _] => a | _ => .non) = (plc n).map dI := by
  have e : enumS ⟨(PD.lowS n).toArray⟩ = (List.range (PD.lowS n).length).map fun i => D.tup [dI i, .str (sgn (PD.sg (n.testBit i)))] := by
    unfold enumS
    rw [List.size_toArray]
    refine List.map_congr_left fun i hi => ?_
    rw [low_get n i (List.mem_range.mp hi)]
  rw [e, List.filter_map, List.map_map]
  have e2 : ((fun d : D => match d with | .tup [_, .str x] => decide (x = "1") | _ => false) ∘ fun i : Nat => D.tup [dI i, .str (sgn (PD.sg (n.testBit i)))]) = n.testBit := by
    funext i
    show decide (sgn (PD.sg (n.testBit i)) = "1") = n.testBit i
    cases n.testBit i <;> decide
  rw [e2]
  have e3 : ((fun d : D => match d with | .tup [a, _] => a | _ => .non) ∘ fun i : Nat => D.tup [dI i, .str (sgn (PD.sg (n.testBit i)))]) = dI := rfl
  rw [e3]
  unfold plc PD.lowS
  by_cases hn : n = 0
  · subst hn; rfl
  · rw [if_neg hn, List.length_map, List.length_range]
/-! ### canonical -/
abbrev fD (F : PD.Fm) : D := .tup [dI F.s, dI F.p, dI F.h, dI F.c]
abbrev oD (F : PD.Fm) : D := .obj "DaySet" ["core"] [fD F]
theorem e_len (n : Nat) (h0 : n ≠ 0) (h : PD.blen n ≤ 15000000) {δ : PV.Env} {i : Nat} (hi : δ[i]? = some (pI n)) : dCall gLen (dCons (dFmtB (dV i)) dNil) δ = .ok (dI (PD.blen n)) δ := by
  have e0 : dV i δ = .ok (dI n) δ := by unfold dV; rw [hi]
  have e1 : dFmtB (dV i) δ = .ok (.str (binS n)) δ := by
    unfold dFmtB
    rw [e0, R.bind_ok]
    refine (if_pos ⟨by omega, ?_⟩).trans (by rw [Int.toNat_natCast])
    rw [Int.toNat_natCast, PD.binS_len (by omega)]; omega
  refine cB (a1 e1) ?_
  refine (if_pos (by rw [PD.binS_len (by omega)]; omega)).trans ?_
  rw [PD.binS_len (by omega)]
theorem e_canon (F : PD.Fm) (w : F.Wf) (hs : F.s ≤ 10000000) (hp : F.p ≤ 10000000) : ∃ G, m_canonical [dI F.s, dI F.p, dI F.h, dI F.c] .emp = some (.p (fD G), .emp) ∧ PD.Can F.mem G := by
  obtain ⟨p, c, q1, I, hl⟩ := e_short F.p F.c hp w.p w.c
  have hpp : p ≤ F.p := Nat.le_of_dvd w.p I.pd
  let F' : PD.Fm := ⟨F.s, p, F.h, c⟩
  have w' : F'.Wf := ⟨I.pz, w.h, I.cz⟩
  have em : F'.mem = F.mem := by
    funext d
    show (if d < F.s then F.h.testBit d else c.testBit ((d - F.s) % p)) = (if d < F.s then F.h.testBit d else F.c.testBit ((d - F.s) % F.p))
    have := congrFun I.eq (d - F.s)
    unfold PD.cyc at this
    rw [this]
  refine ⟨PD.fin F', ?_, em ▸ PD.fin_can w' (fun q hq => hl q (by rw [← I.eq]; exact hq))⟩
  have ule : PD.blen (PD.unl F') ≤ F.s := PD.fin_le (F := F')
  refine fnMir_rt (δ := [pI F.s, pI p, pI F.h, pI c, pI (PD.kn F'), pI (PD.unl F'), pI (PD.blen (PD.unl F'))]) ?_ rfl
  refine sq [pI F.s, pI p, pI F.h, pI c, .emp, .emp, .emp] (sA (d := .tup [dI p, dI c]) (cF (aC (x := dI F.p) rfl (a1 (x := dI F.c) rfl)) rfl q1) rfl) ?_
  refine sq [pI F.s, pI p, pI F.h, pI c, pI (PD.kn F'), .emp, .emp] (sE (dOp_ok (x := dI F.h) (y := dI (c <<< F.s)) rfl (dOp_ok (x := dI c) (y := dI F.s) rfl rfl (PD.g_shl _ I.cz (by omega) (by omega))) (PD.g_or _ _)) rfl) ?_
  refine sq [pI F.s, pI p, pI F.h, pI c, pI (PD.kn F'), pI (PD.unl F'), .emp] (sE (dOp_ok (x := dI (PD.kn F' ^^^ PD.kn F' >>> p)) (y := dI (2 ^ F.s - 1)) (dOp_ok (x := dI (PD.kn F')) (y := dI (PD.kn F' >>> p)) rfl (dOp_ok (x := dI (PD.kn F')) (y := dI p) rfl rfl (PD.g_shr _ _)) (PD.g_xor _ _)) (cF (a1 (x := dI F.s) rfl) rfl (e_mask _ (by omega))) (PD.g_and _ _)) rfl) ?_
  refine sq [pI F.s, pI p, pI F.h, pI c, pI (PD.kn F'), pI (PD.unl F'), pI (PD.blen (PD.unl F'))] ?_ ?_
  · by_cases hz : PD.unl F' = 0
    · have t : dTst (dOp (gEq true) (dV 5) (dC (.int 0))) [pI F.s, pI p, pI F.h, pI c, pI (PD.kn F'), pI (PD.unl F'), .emp] = .ok false [pI F.s, pI p, pI F.h, pI c, pI (PD.kn F'), pI (PD.unl F'), .emp] := tB (dOp_ok (x := dI (PD.unl F')) (y := dI 0) rfl rfl ((n_ne _ _).trans (by rw [decide_eq_true hz]; rfl)))
      refine sE (d := dI 0) ((dN t).trans rfl) ?_
      rw [show PD.blen (PD.unl F') = 0 from if_pos hz]
      rfl
    · have t : dTst (dOp (gEq true) (dV 5) (dC (.int 0))) [pI F.s, pI p, pI F.h, pI c, pI (PD.kn F'), pI (PD.unl F'), .emp] = .ok true [pI F.s, pI p, pI F.h, pI c, pI (PD.kn F'), pI (PD.unl F'), .emp] := tB (dOp_ok (x := dI (PD.unl F')) (y := dI 0) rfl rfl ((n_ne _ _).trans (by rw [decide_eq_false hz]; rfl)))
      exact sE (δ1 := [pI F.s, pI p, pI F.h, pI c, pI (PD.kn F'), pI (PD.unl F'), .emp]) (d := dI (PD.blen (PD.unl F'))) ((dY t).trans (e_len (PD.unl F') hz (by omega) rfl)) rfl
  · refine sRet_ok (sT (l := [dI (PD.blen (PD.unl F')), dI p, dI (PD.kn F' &&& (2 ^ PD.blen (PD.unl F') - 1)), dI (PD.kn F' >>> PD.blen (PD.unl F') &&& (2 ^ p - 1))]) ?_ (by show 4 ≤ 16000000; omega))
    refine aK rfl (aK rfl (aK ?_ (a1 ?_)))
    · exact dOp_ok (x := dI (PD.kn F')) (y := dI _) rfl (cF (a1 (x := dI _) rfl) rfl (e_mask _ (by omega))) (PD.g_and _ _)
    · exact dOp_ok (x := dI (PD.kn F' >>> PD.blen (PD.unl F'))) (y := dI (2 ^ p - 1)) (dOp_ok (x := dI (PD.kn F')) (y := dI (PD.blen (PD.unl F'))) rfl rfl (PD.g_shr _ _)) (cF (a1 (x := dI p) rfl) rfl (e_mask _ (by omega))) (PD.g_and _ _)
theorem e_make (F : PD.Fm) (w : F.Wf) (hs : F.s ≤ 10000000) (hp : F.p ≤ 10000000) : ∃ G, makeD "DaySet" m_DaySet___init__ [dI F.s, dI F.p, dI F.h, dI F.c] = some (oD G) ∧ PD.Can F.mem G := by
  obtain ⟨G, q, c⟩ := e_canon F w hs hp
  refine ⟨G, ?_, c⟩
  have e1 : dCallF 4 m_canonical [] (dCons (dV 1) (dCons (dV 2) (dCons (dV 3) (dCons (dV 4) dNil)))) [.ob "DaySet" [] [], pI F.s, pI F.p, pI F.h, pI F.c] = .ok (fD G) [.ob "DaySet" [] [], pI F.s, pI F.p, pI F.h, pI F.c] := cF (aC (x := dI F.s) rfl (aC (x := dI F.p) rfl (aC (x := dI F.h) rfl (a1 (x := dI F.c) rfl)))) rfl q
  have e2 : b_DaySet___init__ [.ob "DaySet" [] [], pI F.s, pI F.p, pI F.h, pI F.c] = .nx [.ob "DaySet" ["core"] [fD G], pI F.s, pI F.p, pI F.h, pI F.c] := by
    unfold b_DaySet___init__ sFldO dOb
    rw [e1]
    rfl
  have e3 : m_DaySet___init__ [dI F.s, dI F.p, dI F.h, dI F.c] (.ob "DaySet" [] []) = some (.p .non, .ob "DaySet" ["core"] [fD G]) := fnMir_nx (δ := [.ob "DaySet" ["core"] [fD G], pI F.s, pI F.p, pI F.h, pI F.c]) e2 rfl
  unfold makeD
  rw [e3]
  rfl

/-! ### greatest_divisor, window, stretched, aligned -/
theorem w_gcd : ∀ (b a : Nat), ∃ g, (∃ n, whileN t_greatest_divisor_1 y_greatest_divisor_2 n [pI a, pI b] = .nx [pI g, pI 0]) ∧ g = Nat.gcd a b := by
  intro b
  induction b using Nat.strongRecOn with
  | ind b ih =>
    intro a
    have tt : ∀ z, (!decide (b = 0)) = z → t_greatest_divisor_1 [pI a, pI b] = .ok z [pI a, pI b] := fun z e => tB (dOp_ok (x := dI b) (y := dI 0) rfl rfl ((n_ne _ _).trans (by rw [e])))
    by_cases h : b = 0
    · subst h; exact ⟨a, wh_end (tt false rfl), by simp⟩
    · obtain ⟨g, q, e⟩ := ih (a % b) (Nat.mod_lt _ (by omega)) b
      refine ⟨g, wh_turn (δ2 := [pI b, pI (a % b)]) (tt true (by rw [decide_eq_false h]; rfl)) (sP (aC (x := dI b) rfl (a1 (x := dI (a % b)) (dOp_ok (x := dI a) (y := dI b) rfl rfl (n_mod (by omega))))) rfl) q, ?_⟩
      rw [e, Nat.gcd_comm b, ← Nat.gcd_rec, Nat.gcd_comm]
theorem e_gcd (a b : Nat) : m_greatest_divisor [dI a, dI b] .emp = some (.p (dI (Nat.gcd a b)), .emp) := by
  obtain ⟨g, q, rfl⟩ := w_gcd b a
  exact fnMir_rt (δ := [pI (Nat.gcd a b), pI 0]) (sq [pI (Nat.gcd a b), pI 0] (wh_of q) rfl) rfl
theorem e_window (F : PD.Fm) (w : F.Wf) (n : Nat) (hs : F.s ≤ 5000000) (hp : F.p ≤ 5000000) (hn : n ≤ 9000000) : m_window [fD F, dI n] .emp = some (.p (dI (PD.ofB n F.mem)), .emp) := by
  have hp0 := w.p
  have s0 : sAsg (tgT [2, 3, 4, 5]) (dV 0) [.p (fD F), pI n, .emp, .emp, .emp, .emp, .emp] = .nx [.p (fD F), pI n, pI F.s, pI F.p, pI F.h, pI F.c, .emp] := sA (d := fD F) rfl rfl
  have tt : ∀ z, decide (n ≤ F.s) = z → dTst (dOp gLe (dV 1) (dV 2)) [.p (fD F), pI n, pI F.s, pI F.p, pI F.h, pI F.c, .emp] = .ok z [.p (fD F), pI n, pI F.s, pI F.p, pI F.h, pI F.c, .emp] := fun z e => tB (oK (dI n) (dI F.s) rfl rfl ((n_le _ _).trans (by rw [e])))
  by_cases h : n ≤ F.s
  · have e : F.h &&& (2 ^ n - 1) = PD.ofB n F.mem := PD.eq_ofB fun i => by
      rw [Nat.testBit_and, PD.bit_mask]
      by_cases hi : i < n
      · unfold PD.Fm.mem; rw [if_pos (by omega)]; simp [hi]
      · simp [hi]
    refine fnMir_rt (δ := [.p (fD F), pI n, pI F.s, pI F.p, pI F.h, pI F.c, .emp]) ?_ rfl
    refine sq _ s0 ?_
    rw [← e]
    refine seq_rt ?_
    refine (iY (tt true (decide_eq_true h))).trans ?_
    exact sRet_ok (oK (dI F.h) (dI (2 ^ n - 1)) rfl (cF (a1 (x := dI n) rfl) rfl (e_mask n (by omega))) (PD.g_and _ _))
  · let t := (n - F.s + F.p - 1) / F.p
    have ht1 : F.p * t ≤ n - F.s + F.p - 1 := Nat.mul_div_le _ _
    have ht2 : n - F.s ≤ F.p * t := by
      have h1 := Nat.div_add_mod (n - F.s + F.p - 1) F.p
      have h2 := Nat.mod_lt (n - F.s + F.p - 1) hp0
      have h3 : F.p * ((n - F.s + F.p - 1) / F.p) = F.p * t := rfl
      omega
    have ht0 : 0 < t := by
      rcases Nat.eq_zero_or_pos t with z | z
      · rw [z] at ht2; omega
      · exact z
    let r := PD.ofB (F.p * t) fun i => F.c.testBit (i % F.p)
    have hr : r < 2 ^ (F.p * t) := PD.ofB_lt _ _
    have e : (F.h ||| r <<< F.s) &&& (2 ^ n - 1) = PD.ofB n F.mem := PD.eq_ofB fun i => by
      rw [Nat.testBit_and, PD.bit_mask, Nat.testBit_or, Nat.testBit_shiftLeft]
      by_cases hi : i < n
      · rw [decide_eq_true hi, Bool.and_true, Bool.true_and]
        unfold PD.Fm.mem
        by_cases hsi : i < F.s
        · rw [if_pos hsi, decide_eq_false (by omega), Bool.false_and, Bool.or_false]
        · rw [if_neg hsi, PD.bit_high w.h (by omega), Bool.false_or, decide_eq_true (by omega), Bool.true_and, PD.ofB_bit, decide_eq_true (by omega), Bool.true_and]
      · simp [hi]
    refine fnMir_rt (δ := [.p (fD F), pI n, pI F.s, pI F.p, pI F.h, pI F.c, pI t]) ?_ rfl
    refine sq _ s0 ?_
    rw [← e]
    refine sq _ (iN (tt false (decide_eq_false h))) ?_
    refine sq [.p (fD F), pI n, pI F.s, pI F.p, pI F.h, pI F.c, pI t] (sE (oK (dI (n - F.s + F.p - 1)) (dI F.p) (oK (dI (n - F.s + F.p)) (dI 1) (oK (dI (n - F.s)) (dI F.p) (oK (dI n) (dI F.s) rfl rfl (n_sub (by omega))) rfl (n_add _ _)) rfl (n_sub (by omega))) rfl (n_div hp0 (by omega))) rfl) ?_
    exact sRet_ok (oK (dI (F.h ||| r <<< F.s)) (dI (2 ^ n - 1)) (oK (dI F.h) (dI (r <<< F.s)) rfl (oK (dI r) (dI F.s) (cF (aK (x := dI F.c) rfl (aK (x := dI F.p) rfl (a1 (x := dI t) rfl))) rfl (e_repeat F.c F.p t w.c hp0 ht0 (by omega))) rfl (PD.g_shl _ hr (by omega) (by omega))) (PD.g_or _ _)) (cF (a1 (x := dI n) rfl) rfl (e_mask n (by omega))) (PD.g_and _ _))
theorem e_stretched (F : PD.Fm) (w : F.Wf) (S P : Nat) (hs : F.s ≤ 5000000) (hp : F.p ≤ 5000000) (hn : S + P ≤ 9000000) : m_stretched [fD F, dI S, dI P] .emp = some (.p (.tup [dI (PD.ofB S F.mem), dI (PD.ofB P fun i => F.mem (S + i))]), .emp) := by
  let k := PD.ofB (S + P) F.mem
  have e1 : k &&& (2 ^ S - 1) = PD.ofB S F.mem := PD.eq_ofB fun i => by
    rw [Nat.testBit_and, PD.bit_mask, PD.ofB_bit]
    by_cases hi : i < S
    · rw [decide_eq_true (by omega), decide_eq_true hi, Bool.true_and, Bool.and_true]
    · simp [hi]
  have e2 : k >>> S = PD.ofB P fun i => F.mem (S + i) := PD.eq_ofB fun i => by
    rw [Nat.testBit_shiftRight, PD.ofB_bit]
    congr 1
    exact decide_eq_decide.mpr (by omega)
  refine fnMir_rt (δ := [.p (fD F), pI S, pI P, pI k]) ?_ rfl
  refine sq [.p (fD F), pI S, pI P, pI k] (sE (cF (aK (x := fD F) rfl (a1 (x := dI (S + P)) (oK (dI S) (dI P) rfl rfl (n_add _ _)))) rfl (e_window F w (S + P) hs hp hn)) rfl) ?_
  rw [← e1, ← e2]
  exact sRet_ok (sT (aK (oK (dI k) (dI (2 ^ S - 1)) rfl (cF (a1 (x := dI S) rfl) rfl (e_mask S (by omega))) (PD.g_and _ _)) (a1 (oK (dI k) (dI S) rfl rfl (PD.g_shr _ _)))) (by show 2 ≤ 16000000; omega))
theorem gIx4 (a b c d : D) : gIx (.tup [a, b, c, d]) (.int 0) = some a ∧ gIx (.tup [a, b, c, d]) (.int 1) = some b ∧ gIx (.tup [a, b, c, d]) (.int 2) = some c ∧ gIx (.tup [a, b, c, d]) (.int 3) = some d := ⟨rfl, rfl, rfl, rfl⟩
def Sml (F : PD.Fm) : Prop := F.s ≤ 2000 ∧ F.p ≤ 2000
abbrev lc (F G : PD.Fm) : Nat := F.p * G.p / Nat.gcd F.p G.p
abbrev ms (F G : PD.Fm) : Nat := max F.s G.s
theorem lc_l (F G : PD.Fm) (hF : 0 < F.p) (hG : 0 < G.p) : ∃ k, 0 < k ∧ lc F G = F.p * k := ⟨G.p / Nat.gcd F.p G.p, Nat.div_pos (Nat.le_of_dvd hG (Nat.gcd_dvd_right _ _)) (Nat.gcd_pos_of_pos_left _ hF), Nat.mul_div_assoc _ (Nat.gcd_dvd_right _ _)⟩
theorem lc_r (F G : PD.Fm) (hF : 0 < F.p) (hG : 0 < G.p) : ∃ k, 0 < k ∧ lc F G = G.p * k := by
  obtain ⟨k, h1, h2⟩ := lc_l G F hG hF
  exact ⟨k, h1, by unfold lc at *; rw [Nat.mul_comm, Nat.gcd_comm]; exact h2⟩
theorem lc_le (F G : PD.Fm) (hF : Sml F) (hG : Sml G) : lc F G ≤ 4000000 := Nat.le_trans (Nat.div_le_self _ _) (Nat.mul_le_mul hF.2 hG.2)
abbrev alD (F G : PD.Fm) : D := .tup [dI (ms F G), dI (lc F G), dI (PD.ofB (ms F G) F.mem), dI (PD.ofB (lc F G) fun i => F.mem (ms F G + i)), dI (PD.ofB (ms F G) G.mem), dI (PD.ofB (lc F G) fun i => G.mem (ms F G + i))]
theorem e_aligned (F G : PD.Fm) (wF : F.Wf) (wG : G.Wf) (sF : Sml F) (sG : Sml G) : m_aligned [fD F, fD G] .emp = some (.p (alD F G), .emp) := by
  have hl := lc_le F G sF sG
  have h1 := sF.1
  have h2 := sF.2
  have h3 := sG.1
  have h4 := sG.2
  have hg : 0 < Nat.gcd F.p G.p := Nat.gcd_pos_of_pos_left _ wF.p
  have hg2 : Nat.gcd F.p G.p ≤ F.p := Nat.le_of_dvd wF.p (Nat.gcd_dvd_left _ _)
  have hm : ms F G ≤ 2000 := by show max F.s G.s ≤ 2000; omega
  refine fnMir_rt (δ := [.p (fD F), .p (fD G), pI (ms F G), pI (lc F G)]) ?_ rfl
  refine sq [.p (fD F), .p (fD G), pI (ms F G), .emp] (sE (cB (aK (x := dI F.s) (oK (fD F) (dI 0) rfl rfl rfl) (a1 (x := dI G.s) (oK (fD G) (dI 0) rfl rfl rfl))) (n_max _ _)) rfl) ?_
  refine sq [.p (fD F), .p (fD G), pI (ms F G), pI (lc F G)] (sE (oK (dI (F.p * G.p)) (dI (Nat.gcd F.p G.p)) (oK (dI F.p) (dI G.p) (oK (fD F) (dI 1) rfl rfl rfl) (oK (fD G) (dI 1) rfl rfl rfl) (n_mul (by omega))) (cF (aK (x := dI F.p) (oK (fD F) (dI 1) rfl rfl rfl) (a1 (x := dI G.p) (oK (fD G) (dI 1) rfl rfl rfl))) rfl (e_gcd _ _)) (n_div hg (by omega))) rfl) ?_
  have c1 : dCallF 3 m_stretched [] (dCons (dV 0) (dCons (dV 2) (dCons (dV 3) dNil))) [.p (fD F), .p (fD G), pI (ms F G), pI (lc F G)] = .ok _ _ := cF (aK (x := fD F) rfl (aK (x := dI (ms F G)) rfl (a1 (x := dI (lc F G)) rfl))) rfl (e_stretched F wF (ms F G) (lc F G) (by omega) (by omega) (by omega))
  have c2 : dCallF 3 m_stretched [] (dCons (dV 1) (dCons (dV 2) (dCons (dV 3) dNil))) [.p (fD F), .p (fD G), pI (ms F G), pI (lc F G)] = .ok _ _ := cF (aK (x := fD G) rfl (aK (x := dI (ms F G)) rfl (a1 (x := dI (lc F G)) rfl))) rfl (e_stretched G wG (ms F G) (lc F G) (by omega) (by omega) (by omega))
  refine sRet_ok (sT (aK (x := dI (ms F G)) rfl (aK (x := dI (lc F G)) rfl ?_)) (by show 6 ≤ 16000000; omega))
  unfold dStar
  rw [c1, R.bind_ok]
  dsimp only
  rw [c2, R.bind_ok]
  rfl
/-! ### the operators -/
theorem dFl {i : Nat} {δ : PV.Env} {F : PD.Fm} (h : δ[i]? = some (.p (oD F))) : dFld "DaySet" "core" (dV i) δ = .ok (fD F) δ := by
  have e : dV i δ = .ok (oD F) δ := by unfold dV; rw [h]
  unfold dFld
  rw [e, R.bind_ok]
  rfl
theorem apD {n m : Nat} {ix : List Nat} {MD : List D → Option D} {f : PV.Env → R (List D)} {δ : PV.Env} {ds : List D} {d : D} (h : f δ = .ok ds δ) (hn : ds.length = n) (hm : m = 0) (hM : MD (pick ix (ds ++ [] ++ [])) = some d) : dApp n m ix [] MD f dNil δ = .ok d δ := by
  subst hm
  unfold dApp
  rw [h, R.bind_ok]
  show (if ds.length = n ∧ ([] : List D).length = 0 then _ else _) = _
  rw [if_pos ⟨hn, rfl⟩, hM]
theorem mD {M : Mir} {ds : List D} {d : D} {s : Sl} (h : M ds .emp = some (.p d, s)) : mirD M ds = some d := by unfold mirD; rw [h]
theorem ep_l {F G : PD.Fm} (wF : F.Wf) (wG : G.Wf) : PD.EP F.mem (ms F G) (lc F G) := by
  obtain ⟨k, h1, h2⟩ := lc_l F G wF.p wG.p
  rw [h2]
  exact wF.ep.up (Nat.le_max_left _ _) h1
theorem ep_r {F G : PD.Fm} (wF : F.Wf) (wG : G.Wf) : PD.EP G.mem (ms F G) (lc F G) := by
  obtain ⟨k, h1, h2⟩ := lc_r F G wF.p wG.p
  rw [h2]
  exact wG.ep.up (Nat.le_max_right _ _) h1
theorem e_or {f g : Nat → Bool} {F G : PD.Fm} (cF' : PD.Can f F) (cG' : PD.Can g G) (sF : Sml F) (sG : Sml G) : ∃ R, mirD m_DaySet___or__ [oD F, oD G] = some (oD R) ∧ PD.Can (fun d => (f d || g d)) R := by
  have wF := cF'.wf
  have wG := cG'.wf
  obtain rfl := cF'.eq
  obtain rfl := cG'.eq
  have hl := lc_le F G sF sG
  have hm : ms F G ≤ 2000 := by have := sF.1; have := sG.1; show max F.s G.s ≤ 2000; omega
  have ep : PD.EP (fun d => (F.mem d || G.mem d)) (ms F G) (lc F G) := PD.EP.op (fun a b => a || b) (ep_l wF wG) (ep_r wF wG)
  let T := PD.mk (ms F G) (lc F G) fun d => (F.mem d || G.mem d)
  obtain ⟨R, q, c⟩ := e_make T (PD.mk_wf ep.1) (by show ms F G ≤ _; omega) (by show lc F G ≤ _; omega)
  rw [PD.mk_mem ep] at c
  refine ⟨R, ?_, c⟩
  have e1 : ((PD.ofB (ms F G) F.mem) ||| (PD.ofB (ms F G) G.mem)) = PD.ofB (ms F G) fun d => (F.mem d || G.mem d) := PD.eq_ofB fun i => by
    simp only [Nat.testBit_or, PD.ofB_bit]
    by_cases hi : i < ms F G
    · simp only [decide_eq_true hi, Bool.true_and]
    · simp [hi]
  have e2 : ((PD.ofB (lc F G) fun i => F.mem (ms F G + i)) ||| (PD.ofB (lc F G) fun i => G.mem (ms F G + i))) = PD.ofB (lc F G) fun i => (fun d => (F.mem d || G.mem d)) (ms F G + i) := PD.eq_ofB fun i => by
    simp only [Nat.testBit_or, PD.ofB_bit]
    by_cases hi : i < lc F G
    · simp only [decide_eq_true hi, Bool.true_and]
    · simp [hi]
  have q2 : makeD "DaySet" m_DaySet___init__ [dI (ms F G), dI (lc F G), dI ((PD.ofB (ms F G) F.mem) ||| (PD.ofB (ms F G) G.mem)), dI ((PD.ofB (lc F G) fun i => F.mem (ms F G + i)) ||| (PD.ofB (lc F G) fun i => G.mem (ms F G + i)))] = some (oD R) := by rw [e1, e2]; exact q
  refine mD (s := .emp) (fnMir_rt (δ := [.p (oD F), .p (oD G), pI (ms F G), pI (lc F G), pI (PD.ofB (ms F G) F.mem), pI (PD.ofB (lc F G) fun i => F.mem (ms F G + i)), pI (PD.ofB (ms F G) G.mem), pI (PD.ofB (lc F G) fun i => G.mem (ms F G + i))]) ?_ rfl)
  refine sq [.p (oD F), .p (oD G), pI (ms F G), pI (lc F G), pI (PD.ofB (ms F G) F.mem), pI (PD.ofB (lc F G) fun i => F.mem (ms F G + i)), pI (PD.ofB (ms F G) G.mem), pI (PD.ofB (lc F G) fun i => G.mem (ms F G + i))] (sA (d := alD F G) (cF (aK (x := fD F) (dFl rfl) (a1 (x := fD G) (dFl rfl))) rfl (e_aligned F G wF wG sF sG)) rfl) ?_
  exact sRet_ok (apD (aK (x := dI (ms F G)) rfl (aK (x := dI (lc F G)) rfl (aK (x := dI ((PD.ofB (ms F G) F.mem) ||| (PD.ofB (ms F G) G.mem))) (oK (dI (PD.ofB (ms F G) F.mem)) (dI (PD.ofB (ms F G) G.mem)) rfl rfl (PD.g_or _ _)) (a1 (x := dI ((PD.ofB (lc F G) fun i => F.mem (ms F G + i)) ||| (PD.ofB (lc F G) fun i => G.mem (ms F G + i)))) (oK (dI (PD.ofB (lc F G) fun i => F.mem (ms F G + i))) (dI (PD.ofB (lc F G) fun i => G.mem (ms F G + i))) rfl rfl (PD.g_or _ _)))))) rfl rfl q2)
theorem e_and {f g : Nat → Bool} {F G : PD.Fm} (cF' : PD.Can f F) (cG' : PD.Can g G) (sF : Sml F) (sG : Sml G) : ∃ R, mirD m_DaySet___and__ [oD F, oD G] = some (oD R) ∧ PD.Can (fun d => (f d && g d)) R := by
  have wF := cF'.wf
  have wG := cG'.wf
  obtain rfl := cF'.eq
  obtain rfl := cG'.eq
  have hl := lc_le F G sF sG
  have hm : ms F G ≤ 2000 := by have := sF.1; have := sG.1; show max F.s G.s ≤ 2000; omega
  have ep : PD.EP (fun d => (F.mem d && G.mem d)) (ms F G) (lc F G) := PD.EP.op (fun a b => a && b) (ep_l wF wG) (ep_r wF wG)
  let T := PD.mk (ms F G) (lc F G) fun d => (F.mem d && G.mem d)
  obtain ⟨R, q, c⟩ := e_make T (PD.mk_wf ep.1) (by show ms F G ≤ _; omega) (by show lc F G ≤ _; omega)
  rw [PD.mk_mem ep] at c
  refine ⟨R, ?_, c⟩
  have e1 : ((PD.ofB (ms F G) F.mem) &&& (PD.ofB (ms F G) G.mem)) = PD.ofB (ms F G) fun d => (F.mem d && G.mem d) := PD.eq_ofB fun i => by
    simp only [Nat.testBit_and, PD.ofB_bit]
    by_cases hi : i < ms F G
    · simp only [decide_eq_true hi, Bool.true_and]
    · simp [hi]
  have e2 : ((PD.ofB (lc F G) fun i => F.mem (ms F G + i)) &&& (PD.ofB (lc F G) fun i => G.mem (ms F G + i))) = PD.ofB (lc F G) fun i => (fun d => (F.mem d && G.mem d)) (ms F G + i) := PD.eq_ofB fun i => by
    simp only [Nat.testBit_and, PD.ofB_bit]
    by_cases hi : i < lc F G
    · simp only [decide_eq_true hi, Bool.true_and]
    · simp [hi]
  have q2 : makeD "DaySet" m_DaySet___init__ [dI (ms F G), dI (lc F G), dI ((PD.ofB (ms F G) F.mem) &&& (PD.ofB (ms F G) G.mem)), dI ((PD.ofB (lc F G) fun i => F.mem (ms F G + i)) &&& (PD.ofB (lc F G) fun i => G.mem (ms F G + i)))] = some (oD R) := by rw [e1, e2]; exact q
  refine mD (s := .emp) (fnMir_rt (δ := [.p (oD F), .p (oD G), pI (ms F G), pI (lc F G), pI (PD.ofB (ms F G) F.mem), pI (PD.ofB (lc F G) fun i => F.mem (ms F G + i)), pI (PD.ofB (ms F G) G.mem), pI (PD.ofB (lc F G) fun i => G.mem (ms F G + i))]) ?_ rfl)
  refine sq [.p (oD F), .p (oD G), pI (ms F G), pI (lc F G), pI (PD.ofB (ms F G) F.mem), pI (PD.ofB (lc F G) fun i => F.mem (ms F G + i)), pI (PD.ofB (ms F G) G.mem), pI (PD.ofB (lc F G) fun i => G.mem (ms F G + i))] (sA (d := alD F G) (cF (aK (x := fD F) (dFl rfl) (a1 (x := fD G) (dFl rfl))) rfl (e_aligned F G wF wG sF sG)) rfl) ?_
  exact sRet_ok (apD (aK (x := dI (ms F G)) rfl (aK (x := dI (lc F G)) rfl (aK (x := dI ((PD.ofB (ms F G) F.mem) &&& (PD.ofB (ms F G) G.mem))) (oK (dI (PD.ofB (ms F G) F.mem)) (dI (PD.ofB (ms F G) G.mem)) rfl rfl (PD.g_and _ _)) (a1 (x := dI ((PD.ofB (lc F G) fun i => F.mem (ms F G + i)) &&& (PD.ofB (lc F G) fun i => G.mem (ms F G + i)))) (oK (dI (PD.ofB (lc F G) fun i => F.mem (ms F G + i))) (dI (PD.ofB (lc F G) fun i => G.mem (ms F G + i))) rfl rfl (PD.g_and _ _)))))) rfl rfl q2)
theorem e_xor {f g : Nat → Bool} {F G : PD.Fm} (cF' : PD.Can f F) (cG' : PD.Can g G) (sF : Sml F) (sG : Sml G) : ∃ R, mirD m_DaySet___xor__ [oD F, oD G] = some (oD R) ∧ PD.Can (fun d => (f d != g d)) R := by
  have wF := cF'.wf
  have wG := cG'.wf
  obtain rfl := cF'.eq
  obtain rfl := cG'.eq
  have hl := lc_le F G sF sG
  have hm : ms F G ≤ 2000 := by have := sF.1; have := sG.1; show max F.s G.s ≤ 2000; omega
  have ep : PD.EP (fun d => (F.mem d != G.mem d)) (ms F G) (lc F G) := PD.EP.op (fun a b => a != b) (ep_l wF wG) (ep_r wF wG)
  let T := PD.mk (ms F G) (lc F G) fun d => (F.mem d != G.mem d)
  obtain ⟨R, q, c⟩ := e_make T (PD.mk_wf ep.1) (by show ms F G ≤ _; omega) (by show lc F G ≤ _; omega)
  rw [PD.mk_mem ep] at c
  refine ⟨R, ?_, c⟩
  have e1 : ((PD.ofB (ms F G) F.mem) ^^^ (PD.ofB (ms F G) G.mem)) = PD.ofB (ms F G) fun d => (F.mem d != G.mem d) := PD.eq_ofB fun i => by
    simp only [Nat.testBit_xor, PD.ofB_bit]
    by_cases hi : i < ms F G
    · simp only [decide_eq_true hi, Bool.true_and]
    · simp [hi]
  have e2 : ((PD.ofB (lc F G) fun i => F.mem (ms F G + i)) ^^^ (PD.ofB (lc F G) fun i => G.mem (ms F G + i))) = PD.ofB (lc F G) fun i => (fun d => (F.mem d != G.mem d)) (ms F G + i) := PD.eq_ofB fun i => by
    simp only [Nat.testBit_xor, PD.ofB_bit]
    by_cases hi : i < lc F G
    · simp only [decide_eq_true hi, Bool.true_and]
    · simp [hi]
  have q2 : makeD "DaySet" m_DaySet___init__ [dI (ms F G), dI (lc F G), dI ((PD.ofB (ms F G) F.mem) ^^^ (PD.ofB (ms F G) G.mem)), dI ((PD.ofB (lc F G) fun i => F.mem (ms F G + i)) ^^^ (PD.ofB (lc F G) fun i => G.mem (ms F G + i)))] = some (oD R) := by rw [e1, e2]; exact q
  refine mD (s := .emp) (fnMir_rt (δ := [.p (oD F), .p (oD G), pI (ms F G), pI (lc F G), pI (PD.ofB (ms F G) F.mem), pI (PD.ofB (lc F G) fun i => F.mem (ms F G + i)), pI (PD.ofB (ms F G) G.mem), pI (PD.ofB (lc F G) fun i => G.mem (ms F G + i))]) ?_ rfl)
  refine sq [.p (oD F), .p (oD G), pI (ms F G), pI (lc F G), pI (PD.ofB (ms F G) F.mem), pI (PD.ofB (lc F G) fun i => F.mem (ms F G + i)), pI (PD.ofB (ms F G) G.mem), pI (PD.ofB (lc F G) fun i => G.mem (ms F G + i))] (sA (d := alD F G) (cF (aK (x := fD F) (dFl rfl) (a1 (x := fD G) (dFl rfl))) rfl (e_aligned F G wF wG sF sG)) rfl) ?_
  exact sRet_ok (apD (aK (x := dI (ms F G)) rfl (aK (x := dI (lc F G)) rfl (aK (x := dI ((PD.ofB (ms F G) F.mem) ^^^ (PD.ofB (ms F G) G.mem))) (oK (dI (PD.ofB (ms F G) F.mem)) (dI (PD.ofB (ms F G) G.mem)) rfl rfl (PD.g_xor _ _)) (a1 (x := dI ((PD.ofB (lc F G) fun i => F.mem (ms F G + i)) ^^^ (PD.ofB (lc F G) fun i => G.mem (ms F G + i)))) (oK (dI (PD.ofB (lc F G) fun i => F.mem (ms F G + i))) (dI (PD.ofB (lc F G) fun i => G.mem (ms F G + i))) rfl rfl (PD.g_xor _ _)))))) rfl rfl q2)
theorem e_sub {f g : Nat → Bool} {F G : PD.Fm} (cF' : PD.Can f F) (cG' : PD.Can g G) (sF : Sml F) (sG : Sml G) : ∃ R, mirD m_DaySet___sub__ [oD F, oD G] = some (oD R) ∧ PD.Can (fun d => (f d && !g d)) R := by
  have wF := cF'.wf
  have wG := cG'.wf
  obtain rfl := cF'.eq
  obtain rfl := cG'.eq
  have hl := lc_le F G sF sG
  have hm : ms F G ≤ 2000 := by have := sF.1; have := sG.1; show max F.s G.s ≤ 2000; omega
  have ep : PD.EP (fun d => (F.mem d && !G.mem d)) (ms F G) (lc F G) := PD.EP.op (fun a b => a && !b) (ep_l wF wG) (ep_r wF wG)
  let T := PD.mk (ms F G) (lc F G) fun d => (F.mem d && !G.mem d)
  obtain ⟨R, q, c⟩ := e_make T (PD.mk_wf ep.1) (by show ms F G ≤ _; omega) (by show lc F G ≤ _; omega)
  rw [PD.mk_mem ep] at c
  refine ⟨R, ?_, c⟩
  have e1 : ((PD.ofB (ms F G) F.mem) ^^^ ((PD.ofB (ms F G) F.mem) &&& (PD.ofB (ms F G) G.mem))) = PD.ofB (ms F G) fun d => (F.mem d && !G.mem d) := PD.eq_ofB fun i => by
    simp only [Nat.testBit_xor, Nat.testBit_and, PD.ofB_bit]
    by_cases hi : i < ms F G
    · simp only [decide_eq_true hi, Bool.true_and]
      cases F.mem i <;> cases G.mem i <;> rfl
    · simp [hi]
  have e2 : ((PD.ofB (lc F G) fun i => F.mem (ms F G + i)) ^^^ ((PD.ofB (lc F G) fun i => F.mem (ms F G + i)) &&& (PD.ofB (lc F G) fun i => G.mem (ms F G + i)))) = PD.ofB (lc F G) fun i => (fun d => (F.mem d && !G.mem d)) (ms F G + i) := PD.eq_ofB fun i => by
    simp only [Nat.testBit_xor, Nat.testBit_and, PD.ofB_bit]
    by_cases hi : i < lc F G
    · simp only [decide_eq_true hi, Bool.true_and]
      cases F.mem (ms F G + i) <;> cases G.mem (ms F G + i) <;> rfl
    · simp [hi]
  have q2 : makeD "DaySet" m_DaySet___init__ [dI (ms F G), dI (lc F G), dI ((PD.ofB (ms F G) F.mem) ^^^ ((PD.ofB (ms F G) F.mem) &&& (PD.ofB (ms F G) G.mem))), dI ((PD.ofB (lc F G) fun i => F.mem (ms F G + i)) ^^^ ((PD.ofB (lc F G) fun i => F.mem (ms F G + i)) &&& (PD.ofB (lc F G) fun i => G.mem (ms F G + i))))] = some (oD R) := by rw [e1, e2]; exact q
  refine mD (s := .emp) (fnMir_rt (δ := [.p (oD F), .p (oD G), pI (ms F G), pI (lc F G), pI (PD.ofB (ms F G) F.mem), pI (PD.ofB (lc F G) fun i => F.mem (ms F G + i)), pI (PD.ofB (ms F G) G.mem), pI (PD.ofB (lc F G) fun i => G.mem (ms F G + i))]) ?_ rfl)
  refine sq [.p (oD F), .p (oD G), pI (ms F G), pI (lc F G), pI (PD.ofB (ms F G) F.mem), pI (PD.ofB (lc F G) fun i => F.mem (ms F G + i)), pI (PD.ofB (ms F G) G.mem), pI (PD.ofB (lc F G) fun i => G.mem (ms F G + i))] (sA (d := alD F G) (cF (aK (x := fD F) (dFl rfl) (a1 (x := fD G) (dFl rfl))) rfl (e_aligned F G wF wG sF sG)) rfl) ?_
  exact sRet_ok (apD (aK (x := dI (ms F G)) rfl (aK (x := dI (lc F G)) rfl (aK (x := dI ((PD.ofB (ms F G) F.mem) ^^^ ((PD.ofB (ms F G) F.mem) &&& (PD.ofB (ms F G) G.mem)))) (oK (dI (PD.ofB (ms F G) F.mem)) (.int (Builtin.bitNot ((PD.ofB (ms F G) G.mem) : Nat))) rfl rfl (PD.g_less _ _)) (a1 (x := dI ((PD.ofB (lc F G) fun i => F.mem (ms F G + i)) ^^^ ((PD.ofB (lc F G) fun i => F.mem (ms F G + i)) &&& (PD.ofB (lc F G) fun i => G.mem (ms F G + i))))) (oK (dI (PD.ofB (lc F G) fun i => F.mem (ms F G + i))) (.int (Builtin.bitNot ((PD.ofB (lc F G) fun i => G.mem (ms F G + i)) : Nat))) rfl rfl (PD.g_less _ _)))))) rfl rfl q2)
theorem e_inv {f : Nat → Bool} {F : PD.Fm} (cF' : PD.Can f F) (sF : Sml F) : ∃ R, mirD m_DaySet___invert__ [oD F] = some (oD R) ∧ PD.Can (fun d => !f d) R := by
  have wF := cF'.wf
  obtain rfl := cF'.eq
  have h1 := sF.1
  have h2 := sF.2
  let T : PD.Fm := ⟨F.s, F.p, (2 ^ F.s - 1) ^^^ F.h, (2 ^ F.p - 1) ^^^ F.c⟩
  have wT : T.Wf := ⟨wF.p, PD.lt_of_bits fun i (hi : F.s ≤ i) => by rw [Nat.testBit_xor, PD.bit_mask, PD.bit_high wF.h hi, decide_eq_false (by omega)]; rfl, PD.lt_of_bits fun i (hi : F.p ≤ i) => by rw [Nat.testBit_xor, PD.bit_mask, PD.bit_high wF.c hi, decide_eq_false (by omega)]; rfl⟩
  have eT : T.mem = fun d => !F.mem d := by
    funext d
    show (if d < F.s then ((2 ^ F.s - 1) ^^^ F.h).testBit d else ((2 ^ F.p - 1) ^^^ F.c).testBit ((d - F.s) % F.p)) = !F.mem d
    unfold PD.Fm.mem
    by_cases hd : d < F.s
    · rw [if_pos hd, if_pos hd, Nat.testBit_xor, PD.bit_mask, decide_eq_true hd]; cases F.h.testBit d <;> rfl
    · rw [if_neg hd, if_neg hd, Nat.testBit_xor, PD.bit_mask, decide_eq_true (Nat.mod_lt _ wF.p)]; cases F.c.testBit ((d - F.s) % F.p) <;> rfl
  obtain ⟨R, q, c⟩ := e_make T wT (by show F.s ≤ _; omega) (by show F.p ≤ _; omega)
  rw [eT] at c
  refine ⟨R, ?_, c⟩
  refine mD (s := .emp) (fnMir_rt (δ := [.p (oD F), pI F.s, pI F.p, pI F.h, pI F.c]) ?_ rfl)
  refine sq [.p (oD F), pI F.s, pI F.p, pI F.h, pI F.c] (sA (d := fD F) (dFl rfl) rfl) ?_
  exact sRet_ok (apD (aK (x := dI F.s) rfl (aK (x := dI F.p) rfl (aK (x := dI T.h) (oK (dI (2 ^ F.s - 1)) (dI F.h) (cF (a1 (x := dI F.s) rfl) rfl (e_mask _ (by omega))) rfl (PD.g_xor _ _)) (a1 (x := dI T.c) (oK (dI (2 ^ F.p - 1)) (dI F.c) (cF (a1 (x := dI F.p) rfl) rfl (e_mask _ (by omega))) rfl (PD.g_xor _ _)))))) rfl rfl q)

/-! ### ==, truth, within, told -/
theorem isiO (F : PD.Fm) {i : Nat} {δ : PV.Env} (h : δ[i]? = some (.p (oD F))) : dIsiC "DaySet" [] (dV i) δ = .ok (.bl true) δ := by
  have e : dV i δ = .ok (oD F) δ := by unfold dV; rw [h]
  unfold dIsiC
  rw [e, R.bind_ok]
  rfl
theorem gEqF (F G : PD.Fm) : gEq false (fD F) (fD G) = some (.bl (decide (F = G))) := by
  have e := ev_eqTs [(F.s : Int), F.p, F.h, F.c] [(G.s : Int), G.p, G.h, G.c]
  show (gEqB (fD F) (fD G)).map (fun b => D.bl b) = _
  rw [show gEqB (fD F) (fD G) = some (decide ([(F.s : Int), F.p, F.h, F.c] = [(G.s : Int), G.p, G.h, G.c])) from e]
  show some (D.bl _) = _
  congr 2
  refine decide_eq_decide.mpr ⟨fun h => ?_, fun h => by rw [h]⟩
  obtain ⟨a, b, c, d⟩ := F
  obtain ⟨a', b', c', d'⟩ := G
  simp only [List.cons.injEq, Int.natCast_inj, and_true] at h
  obtain ⟨rfl, rfl, rfl, rfl⟩ := h
  rfl
def some_ (F : PD.Fm) : Bool := !decide (F.h = 0 ∧ F.c = 0)
open Classical in
noncomputable def sub_ (f g : Nat → Bool) : Bool := decide (∀ d, f d = true → g d = true)
theorem some_iff {f : Nat → Bool} {F : PD.Fm} (c : PD.Can f F) : some_ F = true ↔ ∃ d, f d = true := by
  unfold some_
  constructor
  · intro h
    refine Classical.byContradiction fun hn => ?_
    have : F.h = 0 ∧ F.c = 0 := (PD.can_false c).mpr fun d => by
      cases e : f d with
      | false => rfl
      | true => exact absurd ⟨d, e⟩ hn
    rw [decide_eq_true this] at h
    cases h
  · rintro ⟨d, hd⟩
    rw [decide_eq_false fun z => by have := (PD.can_false c).mp z d; rw [this] at hd; cases hd]
    rfl
open Classical in
theorem less_sub {f g : Nat → Bool} {R : PD.Fm} (c : PD.Can (fun d => f d && !g d) R) : (!some_ R) = sub_ f g := by
  unfold sub_
  by_cases h : ∀ d, f d = true → g d = true
  · rw [decide_eq_true h]
    have : ¬ some_ R = true := fun z => by
      obtain ⟨d, hd⟩ := (some_iff c).mp z
      simp only [Bool.and_eq_true, Bool.not_eq_true'] at hd
      have := h d hd.1
      rw [hd.2] at this; cases this
    simpa using this
  · rw [decide_eq_false h]
    have : some_ R = true := (some_iff c).mpr (Classical.byContradiction fun hn => h fun d hd => by
      cases e : g d with
      | true => rfl
      | false => exact absurd ⟨d, by simp [hd, e]⟩ hn)
    rw [this]; rfl
theorem g2 {MD : List D → Option D} {F G R : PD.Fm} (h : MD [oD F, oD G] = some (oD R)) : gObj2 "DaySet" MD (oD F) (oD G) = some (oD R) := ifS (c := ("DaySet" : PySem.Str) = "DaySet" ∧ ("DaySet" : PySem.Str) = "DaySet") ⟨rfl, rfl⟩ h
theorem g1 {MD : List D → Option D} {F R : PD.Fm} (h : MD [oD F] = some (oD R)) : gObj1 "DaySet" MD (oD F) = some (oD R) := ifS (c := ("DaySet" : PySem.Str) = "DaySet") rfl h
/-- bounded -/
structure Sm2 (F : PD.Fm) : Prop where
  wf : F.Wf
  sm : Sml F
theorem Sm2.h {F : PD.Fm} (s : Sm2 F) : F.h < 2 ^ 10000000 := Nat.lt_of_lt_of_le s.wf.h (Nat.pow_le_pow_right (by omega) (by have := s.sm.1; omega))
theorem Sm2.c {F : PD.Fm} (s : Sm2 F) : F.c < 2 ^ 10000000 := Nat.lt_of_lt_of_le s.wf.c (Nat.pow_le_pow_right (by omega) (by have := s.sm.2; omega))
abbrev tD (F : PD.Fm) : D := .tup [dI F.s, dI F.p, .lst ((plc F.h).map dI), .lst ((plc F.c).map fun i => dI (F.s + i))]
theorem plc_len {n k : Nat} (h : n < 2 ^ k) : (plc n).length ≤ k := by
  unfold plc
  exact Nat.le_trans (List.length_filter_le _ _) (by rw [List.length_range]; exact PD.blen_le h)
theorem tD_py (F : PD.Fm) (s : Sm2 F) : gEq false (tD F) (tD F) = some (.bl true) := by
  have e1 : ∀ l : List Nat, D.py (.lst (l.map dI)) = some (.list (l.map fun i : Nat => PyData.int (i : Int))) := fun l => by
    have := D.pys_ints (l.map fun i : Nat => (i : Int))
    rw [List.map_map, List.map_map] at this
    show (D.pys _).map _ = _
    rw [show D.pys (l.map dI) = some (l.map fun i : Nat => PyData.int (i : Int)) from this]
    rfl
  let A := plc F.h
  let B := (plc F.c).map fun i => F.s + i
  have hB : ((plc F.c).map fun i => dI (F.s + i)) = B.map dI := by show _ = ((plc F.c).map fun i => F.s + i).map dI; rw [List.map_map]; rfl
  let p : PyData := .tuple [.int F.s, .int F.p, .list (A.map fun i : Nat => PyData.int (i : Int)), .list (B.map fun i : Nat => PyData.int (i : Int))]
  have hp : (tD F).py = some p := by
    show (D.pys [dI F.s, dI F.p, .lst (A.map dI), .lst ((plc F.c).map fun i => dI (F.s + i))]).map _ = _
    rw [hB]
    have : D.pys [dI F.s, dI F.p, .lst (A.map dI), .lst (B.map dI)] = some [.int F.s, .int F.p, .list (A.map fun i : Nat => PyData.int (i : Int)), .list (B.map fun i : Nat => PyData.int (i : Int))] := by
      simp only [D.pys, D.py]
      have a := e1 A
      have b := e1 B
      simp only [D.py] at a b
      rw [a, b]
      rfl
    rw [this]
    rfl
  have lay : ∀ l : List Nat, PyData.canLayAll0 (l.map fun i : Nat => PyData.int (i : Int)) = true := fun l => by
    have := canLayAll0_ints (l.map fun i : Nat => (i : Int))
    rwa [List.map_map] at this
  have dep : ∀ l : List Nat, PyData.depthAll (l.map fun i : Nat => PyData.int (i : Int)) = 0 := fun l => by
    have := PV.depthAll_ints (l.map fun i : Nat => (i : Int))
    rwa [List.map_map] at this
  have cl : p.canLay0 = true := by
    show PyData.canLayAll0 [.int F.s, .int F.p, .list (A.map fun i : Nat => PyData.int (i : Int)), .list (B.map fun i : Nat => PyData.int (i : Int))] = true
    simp [PyData.canLayAll0, PyData.canLay0, lay A, lay B]
  have sh : SeqAt.shaped p = true := by
    unfold SeqAt.shaped
    simp [p, PyData.canLay0, PyData.canLayAll0, PyData.depth, PyData.depthAll, lay A, lay B, dep A, dep B]
  show (gEqB (tD F) (tD F)).map (fun b => D.bl b) = _
  have : gEqB (tD F) (tD F) = some true := by
    show (match (tD F).py, (tD F).py with
      | some p, some q => if SeqAt.shaped p = true ∧ SeqAt.shaped q = true then some (PyData.eqv p q) else none
      | _, _ => none) = _
    rw [hp]
    show (if _ then some (PyData.eqv p p) else none) = _
    rw [if_pos ⟨sh, sh⟩, eqv_refl p cl]
  rw [this]
  rfl
/-! ### whole expressions over day sets -/
def Ev (S P : Nat) (δ : PV.Env) (fe : PV.Env → R D) (f : Nat → Bool) : Prop := PD.EP f S P ∧ ∃ R, fe δ = .ok (oD R) δ ∧ PD.Can f R
def Small (S P : Nat) : Prop := S ≤ 2000 ∧ P ≤ 2000
theorem sml_of {S P : Nat} (sm : Small S P) {f : Nat → Bool} {R : PD.Fm} (ep : PD.EP f S P) (c : PD.Can f R) : Sml R := by
  obtain ⟨h1, h2⟩ := c.least _ _ ep
  have := Nat.le_of_dvd ep.1 h1
  exact ⟨by have := sm.1; omega, by have := sm.2; omega⟩
theorem sm2_of {S P : Nat} (sm : Small S P) {f : Nat → Bool} {R : PD.Fm} (ep : PD.EP f S P) (c : PD.Can f R) : Sm2 R := ⟨c.wf, sml_of sm ep c⟩
section
variable {S P : Nat} {δ : PV.Env} {fa fb : PV.Env → R D} {f g : Nat → Bool}
theorem Ev.var {i : Nat} {R : PD.Fm} (ep : PD.EP f S P) (c : PD.Can f R) (h : δ[i]? = some (.p (oD R))) : Ev S P δ (dV i) f := ⟨ep, R, vE h, c⟩
theorem Ev.or (sm : Small S P) (a : Ev S P δ fa f) (b : Ev S P δ fb g) : Ev S P δ (dOp (gObj2 "DaySet" (mirD m_DaySet___or__)) fa fb) fun d => f d || g d := by
  obtain ⟨ea, A, ha, ca⟩ := a
  obtain ⟨eb, B, hb, cb⟩ := b
  obtain ⟨R, q, c⟩ := e_or ca cb (sml_of sm ea ca) (sml_of sm eb cb)
  exact ⟨ea.op (fun a b => a || b) eb, R, oK _ _ ha hb (g2 q), c⟩
theorem Ev.and (sm : Small S P) (a : Ev S P δ fa f) (b : Ev S P δ fb g) : Ev S P δ (dOp (gObj2 "DaySet" (mirD m_DaySet___and__)) fa fb) fun d => f d && g d := by
  obtain ⟨ea, A, ha, ca⟩ := a
  obtain ⟨eb, B, hb, cb⟩ := b
  obtain ⟨R, q, c⟩ := e_and ca cb (sml_of sm ea ca) (sml_of sm eb cb)
  exact ⟨ea.op (fun a b => a && b) eb, R, oK _ _ ha hb (g2 q), c⟩
theorem Ev.xor (sm : Small S P) (a : Ev S P δ fa f) (b : Ev S P δ fb g) : Ev S P δ (dOp (gObj2 "DaySet" (mirD m_DaySet___xor__)) fa fb) fun d => f d != g d := by
  obtain ⟨ea, A, ha, ca⟩ := a
  obtain ⟨eb, B, hb, cb⟩ := b
  obtain ⟨R, q, c⟩ := e_xor ca cb (sml_of sm ea ca) (sml_of sm eb cb)
  exact ⟨ea.op (fun a b => a != b) eb, R, oK _ _ ha hb (g2 q), c⟩
theorem Ev.sub (sm : Small S P) (a : Ev S P δ fa f) (b : Ev S P δ fb g) : Ev S P δ (dOp (gObj2 "DaySet" (mirD m_DaySet___sub__)) fa fb) fun d => f d && !g d := by
  obtain ⟨ea, A, ha, ca⟩ := a
  obtain ⟨eb, B, hb, cb⟩ := b
  obtain ⟨R, q, c⟩ := e_sub ca cb (sml_of sm ea ca) (sml_of sm eb cb)
  exact ⟨ea.op (fun a b => a && !b) eb, R, oK _ _ ha hb (g2 q), c⟩
theorem Ev.inv (sm : Small S P) (a : Ev S P δ fa f) : Ev S P δ (dUnF (gObj1 "DaySet" (mirD m_DaySet___invert__)) fa) fun d => !f d := by
  obtain ⟨ea, A, ha, ca⟩ := a
  obtain ⟨R, q, c⟩ := e_inv ca (sml_of sm ea ca)
  exact ⟨ea.not, R, unF ha (g1 q), c⟩
theorem Ev.eq (a : Ev S P δ fa f) (h : f = g) : Ev S P δ fa g := h ▸ a
open Classical in
theorem sub_t {f g : Nat → Bool} (h : ∀ d, f d = true → g d = true) : sub_ f g = true := decide_eq_true h
open Classical in
theorem sub_f {f g : Nat → Bool} (h : ¬ ∀ d, f d = true → g d = true) : sub_ f g = false := decide_eq_false h
/-- lists of pairs of one set each -/
def Tw (S P : Nat) (d : D) : Prop := ∃ f R, PD.EP f S P ∧ PD.Can f R ∧ d = .tup [oD R, oD R]
def Pl (S P : Nat) (δ : PV.Env) (fe : PV.Env → R (List D)) (n : Nat) : Prop := ∃ L, fe δ = .ok L δ ∧ (∀ d ∈ L, Tw S P d) ∧ L.length = n
def PlV (S P : Nat) (δ : PV.Env) (fe : PV.Env → R D) (n : Nat) : Prop := ∃ L, fe δ = .ok (.lst L) δ ∧ (∀ d ∈ L, Tw S P d) ∧ L.length = n
theorem Pl.nil : Pl S P δ dNil 0 := ⟨[], rfl, fun d hd => (by cases hd), rfl⟩
theorem Pl.cons {rest : PV.Env → R (List D)} {n : Nat} (a : Ev S P δ fa f) (b : Ev S P δ fb g) (h : f = g) (r : Pl S P δ rest n) : Pl S P δ (dCons (dSeq .tup (dCons fa (dCons fb dNil))) rest) (n + 1) := by
  subst h
  obtain ⟨ea, A, ha, ca⟩ := a
  obtain ⟨eb, B, hb, cb⟩ := b
  obtain rfl := ca.uniq cb
  obtain ⟨L, hL, t, hn⟩ := r
  refine ⟨.tup [oD A, oD A] :: L, aK (sT (aK ha (a1 hb)) (by show 2 ≤ 16000000; omega)) hL, fun d hd => ?_, by rw [List.length_cons, hn]⟩
  rcases List.mem_cons.mp hd with z | z
  · exact ⟨f, A, ea, ca, z⟩
  · exact t d z
theorem Pl.lst {rest : PV.Env → R (List D)} {n : Nat} (r : Pl S P δ rest n) (hn : n ≤ 100) : PlV S P δ (dSeq .lst rest) n := by
  obtain ⟨L, hL, t, hn⟩ := r
  exact ⟨L, sT hL (by omega), t, hn⟩
theorem PlV.add {ga gb : PV.Env → R D} {n m : Nat} (a : PlV S P δ ga n) (b : PlV S P δ gb m) (h : n + m ≤ 100) : PlV S P δ (dOp gAdd ga gb) (n + m) := by
  obtain ⟨L, hL, t, hn⟩ := a
  obtain ⟨M, hM, u, hm⟩ := b
  refine ⟨L ++ M, oK _ _ hL hM (if_pos (by omega)), fun d hd => ?_, by rw [List.length_append, hn, hm]⟩
  rcases List.mem_append.mp hd with z | z
  · exact t d z
  · exact u d z
end
/-! ### two sets -/
theorem can_eq {f g : Nat → Bool} {A B : PD.Fm} (a : PD.Can f A) (b : PD.Can g B) : A = B ↔ f = g := ⟨fun h => by rw [← a.eq, ← b.eq, h], fun h => by subst h; exact a.uniq b⟩
theorem eq_sub1 {f g : Nat → Bool} {M A : PD.Fm} (c : PD.Can (fun d => f d && g d) M) (a : PD.Can f A) : decide (M = A) = sub_ f g := by
  by_cases h : ∀ d, f d = true → g d = true
  · rw [sub_t h, decide_eq_true]
    refine (can_eq c a).mpr (funext fun d => ?_)
    show (f d && g d) = f d
    cases e : f d with
    | false => rfl
    | true => rw [h d e]; rfl
  · rw [sub_f h, decide_eq_false]
    intro e
    refine h fun d hd => ?_
    have := congrFun ((can_eq c a).mp e) d
    simp only [hd, Bool.true_and] at this
    exact this
theorem eq_sub2 {f g : Nat → Bool} {M A : PD.Fm} (c : PD.Can (fun d => f d || g d) M) (a : PD.Can g A) : decide (M = A) = sub_ f g := by
  by_cases h : ∀ d, f d = true → g d = true
  · rw [sub_t h, decide_eq_true]
    refine (can_eq c a).mpr (funext fun d => ?_)
    show (f d || g d) = g d
    cases e : f d with
    | false => rfl
    | true => rw [h d e]; rfl
  · rw [sub_f h, decide_eq_false]
    intro e
    refine h fun d hd => ?_
    have := congrFun ((can_eq c a).mp e) d
    simp only [hd, Bool.true_or] at this
    exact this.symm
theorem eq_both {f g : Nat → Bool} {A B : PD.Fm} (a : PD.Can f A) (b : PD.Can g B) : decide (A = B) = (sub_ f g && sub_ g f) := by
  by_cases h : ∀ d, f d = true → g d = true
  · by_cases h2 : ∀ d, g d = true → f d = true
    · rw [sub_t h, sub_t h2, decide_eq_true]; rfl
      refine (can_eq a b).mpr (funext fun d => ?_)
      cases e : f d with
      | true => exact (h d e).symm
      | false => cases e2 : g d with
        | false => rfl
        | true => rw [h2 d e2] at e; cases e
    · rw [sub_t h, sub_f h2, decide_eq_false]; rfl
      intro e; exact h2 fun d hd => by rw [(can_eq a b).mp e]; exact hd
  · rw [sub_f h, decide_eq_false]; rfl
    intro e; exact h fun d hd => by rw [← (can_eq a b).mp e]; exact hd
theorem eq_odd {f g : Nat → Bool} {A B O : PD.Fm} (a : PD.Can f A) (b : PD.Can g B) (c : PD.Can (fun d => f d != g d) O) : decide (A = B) = !some_ O := by
  by_cases h : A = B
  · rw [decide_eq_true h]
    have : ¬ some_ O = true := fun z => by
      obtain ⟨d, hd⟩ := (some_iff c).mp z
      rw [(can_eq a b).mp h] at hd
      simp at hd
    rw [show some_ O = false by simpa using this]; rfl
  · rw [decide_eq_false h]
    have : some_ O = true := (some_iff c).mpr (Classical.byContradiction fun hn => h ((can_eq a b).mpr (funext fun d => by
      cases e : (f d != g d) with
      | true => exact absurd ⟨d, e⟩ hn
      | false => simpa using e)))
    rw [this]; rfl
/-! ### in, span, the models -/
theorem e_isnum (i : Int) : m_is_number [.int i] .emp = some (.p (.bl true), .emp) :=
  fnMir_rt (δ := [.p (.int i)]) (sRet_ok ((andY (δ1 := [.p (.int i)]) rfl).trans (notV (b := false) rfl))) rfl
theorem bit_one (x k : Nat) : decide (x >>> k &&& 1 = 1) = x.testBit k := by
  rw [Nat.and_one_is_mod, Nat.shiftRight_eq_div_pow, Nat.testBit_eq_decide_div_mod_eq]
theorem e_contains (F : PD.Fm) (w : F.Wf) (n : Nat) : mirD m_DaySet___contains__ [oD F, dI n] = some (.bl (F.mem n)) := by
  refine mD (s := .emp) (fnMir_rt (δ := [.p (oD F), pI n, pI F.s, pI F.p, pI F.h, pI F.c]) ?_ rfl)
  refine sq [.p (oD F), pI n, .emp, .emp, .emp, .emp] (iN (orT (a := false) (b := false) (notT (b := true) (truV (x := .bl true) (cF (a1 (x := dI n) rfl) rfl (e_isnum n)) rfl)) (tB (oK (dI n) (dI 0) rfl rfl ((n_lt _ _).trans (by rw [decide_eq_false (by omega)])))))) ?_
  refine sq [.p (oD F), pI n, pI F.s, pI F.p, pI F.h, pI F.c] (sA (d := fD F) (dFl rfl) rfl) ?_
  have tt : ∀ z, decide (n < F.s) = z → dTst (dOp gLt (dV 1) (dV 2)) [.p (oD F), pI n, pI F.s, pI F.p, pI F.h, pI F.c] = .ok z [.p (oD F), pI n, pI F.s, pI F.p, pI F.h, pI F.c] := fun z e => tB (oK (dI n) (dI F.s) rfl rfl ((n_lt _ _).trans (by rw [e])))
  unfold PD.Fm.mem
  by_cases h : n < F.s
  · rw [if_pos h, ← bit_one]
    exact sRet_ok (oK (dI (F.h >>> n &&& 1)) (dI 1) (oK (dI (F.h >>> n)) (dI 1) ((dY (tt true (decide_eq_true h))).trans (oK (dI F.h) (dI n) rfl rfl (PD.g_shr _ _))) rfl (PD.g_and _ _)) rfl (n_eq _ _))
  · rw [if_neg h, ← bit_one]
    exact sRet_ok (oK (dI (F.c >>> ((n - F.s) % F.p) &&& 1)) (dI 1) (oK (dI (F.c >>> ((n - F.s) % F.p))) (dI 1) ((dN (tt false (decide_eq_false h))).trans (oK (dI F.c) (dI ((n - F.s) % F.p)) rfl (oK (dI (n - F.s)) (dI F.p) (oK (dI n) (dI F.s) rfl rfl (n_sub (by omega))) rfl (n_mod w.p)) (PD.g_shr _ _))) rfl (PD.g_and _ _)) rfl (n_eq _ _))
theorem g_in {f : Nat → Bool} {F : PD.Fm} (c : PD.Can f F) (n : Nat) : gIn false "DaySet" (mirD m_DaySet___contains__) (dI n) (oD F) = some (.bl (f n)) := by
  refine ifS (c := ("DaySet" : PySem.Str) = "DaySet") (a := match mirD m_DaySet___contains__ [oD F, dI n] with | some (.bl b) => some (D.bl (if false = true then !b else b)) | _ => none) rfl ?_
  rw [e_contains F c.wf n, c.eq]
  rfl
theorem gEqL5 (a b c d e : Bool) : gEq false (.lst [.bl a, .bl b, .bl c, .bl d, .bl e]) (.lst [.bl a, .bl b, .bl c, .bl d, .bl e]) = some (.bl true) := by
  cases a <;> cases b <;> cases c <;> cases d <;> cases e <;> rfl
theorem apDD {n : Nat} {ix : List Nat} {dd : List D} {MD : List D → Option D} {f : PV.Env → R (List D)} {δ : PV.Env} {ds : List D} {d : D} (h : f δ = .ok ds δ) (hn : ds.length = n) (hM : MD (pick ix (ds ++ [] ++ dd)) = some d) : dApp n 0 ix dd MD f dNil δ = .ok d δ := by
  unfold dApp
  rw [h, R.bind_ok]
  show (if ds.length = n ∧ ([] : List D).length = 0 then _ else _) = _
  rw [if_pos ⟨hn, rfl⟩, hM]
abbrev bL (l : List Bool) : D := .lst (l.map .bl)
def hasM (h c : List Bool) (d : Nat) : Bool := if d < h.length then h.getD d false else c.getD ((d - h.length) % c.length) false
theorem hasM_ep (h c : List Bool) (hc : 0 < c.length) : PD.EP (hasM h c) h.length c.length := ⟨hc, fun d hd => by
  unfold hasM
  rw [if_neg (by omega), if_neg (by omega), show d + c.length - h.length = d - h.length + c.length by omega, Nat.add_mod_right]⟩
theorem ixB (l : List Bool) (n : Nat) (h : n < l.length) : gIx (bL l) (dI n) = some (.bl (l.getD n false)) := by
  show atI (l.map PV.D.bl) (n : Int) = _
  unfold atI ixN
  rw [if_pos (show (0 : Int) ≤ (n : Int) by omega), if_pos (by rw [List.length_map]; omega), Int.toNat_natCast]
  show (l.map PV.D.bl)[n]? = _
  rw [List.getElem?_map, List.getElem?_eq_getElem h]
  simp [List.getElem?_eq_getElem h]
theorem lenB (l : List Bool) : gLen [bL l] = some (dI l.length) := by
  show some (PV.D.int ((l.map PV.D.bl).length : Nat)) = _
  rw [List.length_map]
/-! ### bits_of, pattern -/
def hasK (i : Nat) (a : List (L2.Key × D)) : Bool := a.any fun p => decide (p.1 = Sum.inl (i : Int))
theorem hasK_put (i n : Nat) (v : D) (a : List (L2.Key × D)) : hasK i (putD a (.inl (n : Int)) v) = (hasK i a || decide (i = n)) := by
  unfold putD
  split
  · rename_i h
    unfold hasK
    have e : ((a.map fun kv => if kv.1 = (Sum.inl (n : Int) : L2.Key) then (kv.1, v) else kv).any fun p => decide (p.1 = Sum.inl (i : Int))) = a.any fun p => decide (p.1 = Sum.inl (i : Int)) := by
      rw [List.any_map]
      congr 1
      funext p
      show decide ((if p.1 = (Sum.inl (n : Int) : L2.Key) then (p.1, v) else p).1 = _) = _
      split <;> rfl
    rw [e]
    by_cases hin : i = n
    · subst hin; rw [h]; rfl
    · rw [decide_eq_false hin, Bool.or_false]
  · unfold hasK
    rw [List.any_append]
    congr 1
    show (decide ((Sum.inl (n : Int) : L2.Key) = Sum.inl (i : Int)) || false) = _
    rw [Bool.or_false]
    refine decide_eq_decide.mpr ⟨fun h => ?_, fun h => by rw [h]⟩
    injection h with h
    omega
theorem hasKey_eq (i : Nat) : ∀ a : List (L2.Key × D), hasKey (.inl (i : Int)) (a.map fun p => kD p.1) = hasK i a
  | [] => rfl
  | p :: a => by
    have ih := hasKey_eq i a
    show (decide (keyD (kD p.1) = some (.inl (i : Int))) || hasKey _ _) = _
    rw [ih]
    show _ = (decide (p.1 = Sum.inl (i : Int)) || hasK i a)
    congr 1
    have e : keyD (kD p.1) = some p.1 := by cases p.1 <;> rfl
    rw [e]
    exact decide_eq_decide.mpr ⟨fun h => by injection h, fun h => by rw [h]⟩
theorem dc_loop {x0 x2 x3 x4 : Sl} : ∀ (l : List Nat) (acc : List (L2.Key × D)), ∃ kvs, dcLoop (tgN 1) bYes (dV 1) (dC (.bl true)) [1] (l.map dI) [x0, .emp, x2, x3, x4] acc = .ok kvs [x0, .emp, x2, x3, x4] ∧ ∀ i, hasK i kvs = (hasK i acc || decide (i ∈ l))
  | [], acc => ⟨acc, rfl, fun i => by simp⟩
  | n :: l, acc => by
    obtain ⟨kvs, q, h⟩ := dc_loop (x0 := x0) (x2 := x2) (x3 := x3) (x4 := x4) l (putD acc (.inl (n : Int)) (.bl true))
    refine ⟨kvs, ?_, fun i => ?_⟩
    · rw [List.map_cons]
      exact q
    · rw [h, hasK_put]
      by_cases e : i = n
      · subst e; simp
      · simp [e]
theorem maxI_le : ∀ (l : List Nat) (z : Nat), ∃ m : Nat, (l.map fun n : Nat => (n : Int)).foldl max (z : Int) = (m : Int) ∧ z ≤ m ∧ (∀ x ∈ l, x ≤ m) ∧ (m = z ∨ m ∈ l)
  | [], z => ⟨z, rfl, Nat.le_refl _, fun x hx => (by cases hx), .inl rfl⟩
  | n :: l, z => by
    obtain ⟨m, h1, h2, h3, h4⟩ := maxI_le l (max z n)
    refine ⟨m, ?_, by omega, fun x hx => ?_, ?_⟩
    · rw [List.map_cons, List.foldl_cons, ← h1]
      congr 1
      omega
    · rcases List.mem_cons.mp hx with e | e
      · omega
      · exact h3 x e
    · rcases h4 with e | e
      · by_cases hz : z ≤ n
        · exact .inr (by rw [e, Nat.max_eq_right hz]; exact List.mem_cons_self)
        · exact .inl (by omega)
      · exact .inr (List.mem_cons_of_mem _ e)
theorem rng_dI (n : Nat) (h : n ≤ 1000000000) : gRange1 [dI n] = some ((List.range n).map dI) := by
  simp only [gRange1]
  rw [if_pos (by omega), Int.toNat_natCast]
  refine congrArg some (List.map_congr_left fun i _ => ?_)
  exact congrArg PV.D.int (Int.zero_add _)
theorem strs_sg (l : List Nat) : D.strs (l.map fun c => D.str (sgn c)) = some (l.map sgn) := by
  induction l with
  | nil => rfl
  | cons c l ih => rw [List.map_cons, D.strs, ih]; rfl
theorem sum_len (l : List Nat) : ((l.map sgn).map (·.length)).sum = l.length := by
  induction l with
  | nil => rfl
  | cons c l ih =>
    rw [List.map_cons, List.map_cons, List.sum_cons, ih, List.length_cons]
    show 1 + _ = _
    omega
theorem e_bits (l : List Nat) (h0 : l ≠ []) (hl : l.length ≤ 10000) (hb : ∀ x ∈ l, x < 1000000) : m_bits_of [lI l] .emp = some (.p (dI (PD.ofB 1000000 fun i => decide (i ∈ l))), .emp) := by
  obtain ⟨kvs, q1, hk⟩ := dc_loop (x0 := .p (lI l)) (x2 := .emp) (x3 := .emp) (x4 := .emp) l []
  obtain ⟨n, r, rfl⟩ : ∃ n r, l = n :: r := by cases l with
    | nil => exact absurd rfl h0
    | cons n r => exact ⟨n, r, rfl⟩
  obtain ⟨m, m1, m2, m3, m4⟩ := maxI_le r n
  have hm : m < 1000000 := by
    rcases m4 with e | e
    · rw [e]; exact hb n List.mem_cons_self
    · exact hb m (List.mem_cons_of_mem _ e)
  have hml : ∀ x ∈ n :: r, x ≤ m := fun x hx => by
    rcases List.mem_cons.mp hx with e | e
    · omega
    · exact m3 x e
  let T : D := .dct (kvs.map fun p => kD p.1) (kvs.map (·.2))
  let f : Nat → Bool := fun i => decide (i ∈ n :: r)
  let G : List Nat := (List.range (m + 1)).map fun i => PD.sg (f i)
  let Sg : D := .lst (G.map fun c => .str (sgn c))
  have s1 : sSet 2 (dDc (iLst (dV 0)) (tgN 1) bYes (dV 1) (dC (.bl true)) [1]) [.p (lI (n :: r)), .emp, .emp, .emp, .emp] = .nx [.p (lI (n :: r)), .emp, .p T, .emp, .emp] := by
    refine sE (d := T) (δ1 := [.p (lI (n :: r)), .emp, .emp, .emp, .emp]) ?_ rfl
    unfold dDc
    rw [iL (f := dV 0) (δ := [.p (lI (n :: r)), .emp, .emp, .emp, .emp]) (l := (n :: r).map dI) rfl, R.bind_ok]
    show (dcLoop _ _ _ _ _ _ [.p (lI (n :: r)), .emp, .emp, .emp, .emp] []).bind _ = _
    rw [q1, R.bind_ok, if_pos ⟨by rw [List.length_map]; omega, rfl⟩]
    rfl
  have mx : dBK gMaxD (dCons (dV 0) dNil) (dCons (dC (.int 0)) dNil) [.p (lI (n :: r)), .emp, .p T, .emp, .emp] = .ok (dI m) [.p (lI (n :: r)), .emp, .p T, .emp, .emp] := by
    have e : gMaxD [lI (n :: r)] [.int 0] = some (dI m) := by
      show (D.ints ((n :: r).map dI)).map (maxI (.int 0)) = _
      have := D.ints_map ((n :: r).map fun k : Nat => (k : Int))
      rw [List.map_map] at this
      rw [show D.ints ((n :: r).map dI) = _ from this]
      show some (PV.D.int ((r.map fun k : Nat => (k : Int)).foldl max (n : Int))) = _
      rw [m1]
    show (match gMaxD [lI (n :: r)] [.int 0] with | some z => R.ok z _ | none => .bad) = _
    rw [e]
  have s2 : sSet 4 (dLc (iCall gRange1 (dCons (dOp gAdd (dBK gMaxD (dCons (dV 0) dNil) (dCons (dC (.int 0)) dNil)) (dC (.int 1))) dNil)) (tgN 3) bYes (dIf (dTst (dOp gInDk (dV 3) (dV 2))) (dC (.str "1")) (dC (.str "0"))) [3]) [.p (lI (n :: r)), .emp, .p T, .emp, .emp] = .nx [.p (lI (n :: r)), .emp, .p T, .emp, .p Sg] := by
    have it : iCall gRange1 (dCons (dOp gAdd (dBK gMaxD (dCons (dV 0) dNil) (dCons (dC (.int 0)) dNil)) (dC (.int 1))) dNil) [.p (lI (n :: r)), .emp, .p T, .emp, .emp] = .ok ((List.range (m + 1)).map dI) [.p (lI (n :: r)), .emp, .p T, .emp, .emp] := by
      have e9 : dCons (dOp gAdd (dBK gMaxD (dCons (dV 0) dNil) (dCons (dC (.int 0)) dNil)) (dC (.int 1))) dNil [.p (lI (n :: r)), .emp, .p T, .emp, .emp] = .ok [dI (m + 1)] [.p (lI (n :: r)), .emp, .p T, .emp, .emp] := a1 (oK (dI m) (dI 1) mx rfl (n_add _ _))
      unfold iCall
      rw [e9, R.bind_ok]
      rw [rng_dI (m + 1) (by omega)]
    have z := lcE (g := tgN 3) (t := bYes) (e := dIf (dTst (dOp gInDk (dV 3) (dV 2))) (dC (.str "1")) (dC (.str "0"))) (vs := [3]) (δw := [.p (lI (n :: r)), .emp, .p T, .emp, .emp]) (δ' := [.p (lI (n :: r)), .emp, .p T, .emp, .emp]) (fun _ => true) (fun d => match d with | .int i => .str (sgn (PD.sg (f i.toNat))) | _ => .non)
      it rfl rfl rfl rfl (by rw [List.length_map, List.length_range]; omega) (fun d hd => by
        obtain ⟨i, _, rfl⟩ := List.mem_map.mp hd
        refine ⟨[.p (lI (n :: r)), .emp, .p T, pI i, .emp], rfl, rfl, fun _ => ?_, rfl⟩
        have ev : gInDk (dI i) T = some (.bl (f i)) := by
          show some (PV.D.bl (hasKey (.inl (i : Int)) (kvs.map fun p => kD p.1))) = _
          rw [hasKey_eq, hk]
          show some (PV.D.bl (false || decide (i ∈ n :: r))) = _
          rw [Bool.false_or]
        have tt : dTst (dOp gInDk (dV 3) (dV 2)) [.p (lI (n :: r)), .emp, .p T, pI i, .emp] = .ok (f i) [.p (lI (n :: r)), .emp, .p T, pI i, .emp] := tB (oK (dI i) T rfl rfl ev)
        show dIf _ _ _ _ = .ok (.str (sgn (PD.sg (f ((i : Int).toNat))))) _
        rw [Int.toNat_natCast]
        cases h : f i with
        | true => rw [h] at tt; exact (dY tt).trans rfl
        | false => rw [h] at tt; exact (dN tt).trans rfl)
    refine sE (d := Sg) (δ1 := [.p (lI (n :: r)), .emp, .p T, .emp, .emp]) (z.trans ?_) rfl
    rw [List.filter_eq_self.mpr (fun _ _ => rfl), List.map_map]
    show R.ok (PV.D.lst _) _ = R.ok (PV.D.lst (G.map fun c => PV.D.str (sgn c))) _
    rw [List.map_map]
    rfl
  refine fnMir_rt (δ := [.p (lI (n :: r)), .emp, .p T, .emp, .p Sg]) ?_ rfl
  refine sq _ s1 (sq _ s2 (sRet_ok ?_))
  have gl : G.length = m + 1 := by rw [List.length_map, List.length_range]
  have rv : dSlS (dV 4) dNo dNo (dPart (dUn gNeg (dC (.int 1)))) [.p (lI (n :: r)), .emp, .p T, .emp, .p Sg] = .ok (.lst (G.reverse.map fun c => .str (sgn c))) [.p (lI (n :: r)), .emp, .p T, .emp, .p Sg] := by
    show (match gSlS Sg none none (some (-1)) with | some z => R.ok z _ | none => .bad) = _
    have e : gSlS Sg none none (some (-1)) = some (.lst (G.map fun c => D.str (sgn c)).reverse) := by
      refine (if_pos ⟨by decide, ?_⟩).trans (by rw [PD.pick_rev])
      unfold slIdx
      rw [PySem.W.krv_bounds]
      show (sliceRange (((G.map fun c => PV.D.str (sgn c)).length : Nat) - 1) (-1) (-1)).length ≤ _
      rw [PySem.W.krv_sliceRange, List.length_map, List.length_range, List.length_map]
      omega
    rw [e, List.map_reverse]
  have jn : dJoin (dC (.str "")) (dSlS (dV 4) dNo dNo (dPart (dUn gNeg (dC (.int 1))))) [.p (lI (n :: r)), .emp, .p T, .emp, .p Sg] = .ok (.str ⟨G.reverse.toArray⟩) [.p (lI (n :: r)), .emp, .p T, .emp, .p Sg] := by
    unfold dJoin
    rw [show dC (.str "") [.p (lI (n :: r)), .emp, .p T, .emp, .p Sg] = .ok (.str "") [.p (lI (n :: r)), .emp, .p T, .emp, .p Sg] from rfl, R.bind_ok, rv, R.bind_ok]
    dsimp only
    rw [strs_sg]
    dsimp only
    rw [if_pos (by
      rw [sum_len, List.length_map, List.length_reverse, gl]
      show m + 1 + (m + 1) * 0 ≤ 16000000
      omega)]
    rw [show (G.reverse.map sgn) = G.reverse.map fun c => (⟨#[c]⟩ : PySem.Str) from rfl, PD.join_sg]
  refine cB (xs := [.str ⟨G.reverse.toArray⟩, .int 2]) (aK jn (a1 rfl)) ?_
  have n1 : PD.ofB (m + 1) f = PD.ofB 1000000 f := PD.eq_ofB fun i => by
    rw [PD.ofB_bit]
    by_cases h : f i = true
    · have := hml i (of_decide_eq_true h)
      rw [h, decide_eq_true (by omega), decide_eq_true (by omega)]
    · rw [show f i = false by simpa using h, Bool.and_false, Bool.and_false]
  have h1 : (⟨G.reverse.toArray⟩ : PySem.Str).cps.toList ≠ [] := fun z => by
    have z : G.reverse = [] := z
    have := congrArg List.length z
    rw [List.length_reverse, gl] at this
    cases this
  have h2 : ((⟨G.reverse.toArray⟩ : PySem.Str).cps.toList.all fun c => c == 48 || c == 49) = true := by
    show (G.reverse.all fun c => c == 48 || c == 49) = true
    rw [List.all_eq_true]
    intro x hx
    obtain ⟨i, _, rfl⟩ := List.mem_map.mp (List.mem_reverse.mp hx)
    cases f i <;> rfl
  refine (if_pos ⟨rfl, h1, h2⟩).trans ?_
  show some (PV.D.int ((num01 G.reverse : Nat) : Int)) = _
  rw [PD.num01_ofB f (m + 1), n1]
/-- the places of the truths -/
abbrev ones_ (l : List Bool) : List Nat := (List.range l.length).filter fun i => l.getD i false
theorem e_ones (l : List Bool) (hl : l.length ≤ 10000) {δ : PV.Env} {i : Nat} (hi : δ[i]? = some (.p (bL l))) (h3 : δ[3]? = some .emp) (h4 : δ[4]? = some .emp) : dLc (iEnL (dV i)) (tgT [3, 4]) (dTru (dV 4)) (dV 3) [3, 4] δ = .ok (lI (ones_ l)) δ := by
  have l3 : 3 < δ.length := (List.getElem?_eq_some_iff.mp h3).1
  have l4 : 4 < δ.length := (List.getElem?_eq_some_iff.mp h4).1
  have e3 : δ.set 3 .emp = δ := by
    apply List.ext_getElem?; intro k
    by_cases hk : 3 = k
    · subst hk; rw [List.getElem?_set_self l3, h3]
    · rw [List.getElem?_set_ne hk]
  have e4 : δ.set 4 .emp = δ := by
    apply List.ext_getElem?; intro k
    by_cases hk : 4 = k
    · subst hk; rw [List.getElem?_set_self l4, h4]
    · rw [List.getElem?_set_ne hk]
  have w0 : wipeE δ [3, 4] = δ := by show (δ.set 4 .emp).set 3 .emp = δ; rw [e4, e3]
  have r0 : restE δ δ [3, 4] = δ := by
    show (δ.set 4 (match δ[4]? with | some (Sl.p d) => Sl.p d | _ => Sl.emp)).set 3 (match δ[3]? with | some (Sl.p d) => Sl.p d | _ => Sl.emp) = δ
    rw [h3, h4]
    show (δ.set 4 .emp).set 3 .emp = δ
    rw [e4, e3]
  have it : iEnL (dV i) δ = .ok (enumL (l.map .bl)) δ := by
    unfold iEnL
    rw [vE hi, R.bind_ok]
    rfl
  have ee : enumL (l.map PV.D.bl) = (List.range l.length).map fun k => D.tup [dI k, .bl (l.getD k false)] := by
    unfold enumL
    rw [List.length_map]
    refine List.map_congr_left fun k hk => ?_
    have hk := List.mem_range.mp hk
    congr 3
    simp [List.getElem?_eq_getElem hk]
  have z := lcE (g := tgT [3, 4]) (t := dTru (dV 4)) (e := dV 3) (vs := [3, 4]) (δw := δ) (δ' := δ) (fun d => match d with | .tup [_, .bl b] => b | _ => false) (fun d => match d with | .tup [a, _] => a | _ => .non) it w0 r0 w0 rfl (by rw [ee, List.length_map, List.length_range]; omega) (fun d hd => by
    rw [ee] at hd
    obtain ⟨k, _, rfl⟩ := List.mem_map.mp hd
    refine ⟨(δ.set 3 (pI k)).set 4 (.p (.bl (l.getD k false))), rfl, ?_, fun _ => ?_, ?_⟩
    · exact truV (x := .bl (l.getD k false)) (vE (by rw [List.getElem?_set_self (by rw [List.length_set]; exact l4)])) rfl
    · exact vE (by rw [List.getElem?_set_ne (by omega), List.getElem?_set_self l3])
    · show (((δ.set 3 (pI k)).set 4 (.p (.bl (l.getD k false)))).set 4 .emp).set 3 .emp = δ
      rw [List.set_set, List.set_comm _ _ (by omega), List.set_set, e3, e4])
  refine z.trans ?_
  rw [ee, List.filter_map, List.map_map]
  rfl
theorem ones_bits (l : List Bool) (hl : l.length ≤ 10000) : PD.ofB 1000000 (fun i => decide (i ∈ ones_ l)) = PD.ofB l.length fun i => l.getD i false := PD.eq_ofB fun i => by
  rw [PD.ofB_bit]
  by_cases h : i < l.length
  · rw [decide_eq_true (by omega), Bool.true_and, decide_eq_true h, Bool.true_and]
    by_cases hb : l.getD i false = true
    · rw [hb, decide_eq_true]; exact List.mem_filter.mpr ⟨List.mem_range.mpr h, hb⟩
    · rw [show l.getD i false = false by simpa using hb, decide_eq_false]; exact fun z => hb (List.mem_filter.mp z).2
  · rw [decide_eq_false h, Bool.false_and, decide_eq_false (fun z => h (List.mem_range.mp (List.mem_filter.mp z).1)), Bool.and_false]
theorem e_truths (l : List Bool) (hl : l.length ≤ 10000) : m_are_truths [bL l] .emp = some (.p (.bl true), .emp) := by
  refine fnMir_rt (δ := [.p (bL l), .emp]) (sRet_ok ((andY (δ1 := [.p (bL l), .emp]) rfl).trans ?_)) rfl
  have z := lcE (f := iLst (dV 0)) (g := tgN 1) (t := bYes) (e := dIsi "bool" (dV 1)) (vs := [1]) (δ := [.p (bL l), .emp]) (δ1 := [.p (bL l), .emp]) (δw := [.p (bL l), .emp]) (δ' := [.p (bL l), .emp]) (items := l.map .bl) (fun _ => true) (fun _ => .bl true) (iL rfl) rfl rfl rfl rfl (by rw [List.length_map]; omega) (fun d hd => by
    obtain ⟨b, _, rfl⟩ := List.mem_map.mp hd
    exact ⟨[.p (bL l), .p (.bl b)], rfl, rfl, fun _ => rfl, rfl⟩)
  refine cB (a1 z) ?_
  rw [List.filter_eq_self.mpr (fun _ _ => rfl), List.map_map]
  show (D.bls _).map _ = _
  have : D.bls (l.map ((fun _ => D.bl true) ∘ D.bl)) = some (l.map fun _ => true) := by
    clear z hl
    induction l with
    | nil => rfl
    | cons b l ih => rw [List.map_cons]; show (D.bls _).map _ = _; rw [ih]; rfl
  rw [this]
  show some (D.bl ((l.map fun _ => true).all id)) = _
  rw [List.all_map]
  have : l.all (id ∘ fun _ => true) = true := List.all_eq_true.mpr fun _ _ => rfl
  rw [this]
theorem apL {i n : Nat} {y : PySem.Str} {ix : List Nat} {dd : List D} {MD : List D → Option D} {f : PV.Env → R (List D)} {δ : PV.Env} {ds : List D} {d : D} (hi : δ[i]? = some (.p (.cls y))) (h : f δ = .ok ds δ) (hn : ds.length = n) (hM : MD (pick ix (ds ++ [] ++ dd)) = some d) : dAppL i y n 0 ix dd MD f dNil δ = .ok d δ := by
  unfold dAppL
  rw [hi]
  dsimp only
  rw [if_pos rfl]
  exact apDD h hn hM
theorem cmD {n : Nat} {y : PySem.Str} {ix : List Nat} {dd : List D} {MD : List D → Option D} {f : PV.Env → R (List D)} {δ : PV.Env} {ds : List D} {d : D} (h : f δ = .ok ds δ) (hn : ds.length = n) (hM : MD (.cls y :: pick ix (ds ++ [] ++ dd)) = some d) : dCMeth y n 0 ix dd MD (dC (.cls y)) f dNil δ = .ok d δ := by
  unfold dCMeth
  rw [show dC (.cls y) δ = .ok (.cls y) δ from rfl, R.bind_ok]
  dsimp only
  rw [if_pos rfl]
  exact apDD (MD := fun a => MD (.cls y :: a)) h hn hM
theorem e_pattern (h c : List Bool) (hh : h.length ≤ 2000) (hc0 : 0 < c.length) (hc : c.length ≤ 2000) : ∃ R, m__law_pattern [.tup [bL h, bL c]] .emp = some (.p (oD R), .emp) ∧ PD.Can (hasM h c) R := by
  let T := PD.mk h.length c.length (hasM h c)
  have ep := hasM_ep h c hc0
  obtain ⟨R, q, cR⟩ := e_make T (PD.mk_wf hc0) (by show h.length ≤ _; omega) (by show c.length ≤ _; omega)
  rw [PD.mk_mem ep] at cR
  refine ⟨R, ?_, cR⟩
  have th : T.h = PD.ofB h.length fun i => h.getD i false := PD.ofB_congr fun i hi => by unfold hasM; rw [if_pos hi]
  have tc : T.c = PD.ofB c.length fun i => c.getD i false := PD.ofB_congr fun i hi => by
    show hasM h c (h.length + i) = _
    unfold hasM
    rw [if_neg (by omega), Nat.add_sub_cancel_left, Nat.mod_eq_of_lt hi]
  let δ : PV.Env := [.p (.cls "DaySet"), .p (bL h), .p (bL c), .emp, .emp, .p (lI (ones_ h)), .p (lI (ones_ c))]
  have part : ∀ (l : List Bool) (i : Nat), l.length ≤ 2000 → δ[i]? = some (.p (lI (ones_ l))) → dIf (dTru (dV i)) (dCallF 1 m_bits_of [] (dCons (dV i) dNil)) (dC (.int 0)) δ = .ok (dI (PD.ofB l.length fun i => l.getD i false)) δ := fun l i hl hi => by
    have ol : (ones_ l).length ≤ l.length := Nat.le_trans (List.length_filter_le _ _) (Nat.le_of_eq List.length_range)
    cases ho : ones_ l with
    | nil =>
      rw [ho] at hi
      refine (dN (δ1 := δ) (truV (x := lI []) (vE hi) rfl)).trans ?_
      rw [← ones_bits l (by omega)]
      have : (PD.ofB 1000000 fun i => decide (i ∈ ones_ l)) = 0 := Nat.eq_of_testBit_eq fun k => by
        rw [PD.ofB_bit, Nat.zero_testBit, ho]
        simp
      rw [this]; rfl
    | cons n r =>
      have hi2 := hi
      rw [ho] at hi
      refine (dY (δ1 := δ) (truV (x := lI (n :: r)) (vE hi) rfl)).trans ?_
      rw [← ones_bits l (by omega)]
      have eb := e_bits (ones_ l) (by rw [ho]; exact List.cons_ne_nil _ _) (by omega) (fun x hx => by
        have := List.mem_range.mp (List.mem_filter.mp hx).1
        omega)
      exact cF (a1 (vE hi2)) rfl eb
  have m1 : mirD m_DaySet_pattern [.cls "DaySet", bL h, bL c] = some (oD R) := by
    refine mD (s := .emp) (fnMir_rt (δ := δ) ?_ rfl)
    refine sq [.p (.cls "DaySet"), .p (bL h), .p (bL c), .emp, .emp, .emp, .emp] (iN (notT (b := true) (truV (x := .bl true) (cF (a1 (x := bL h) rfl) rfl (e_truths h (by omega))) rfl))) ?_
    refine sq [.p (.cls "DaySet"), .p (bL h), .p (bL c), .emp, .emp, .emp, .emp] (iN (orT (a := false) (b := false) (notT (b := true) (truV (x := .bl true) (cF (a1 (x := bL c) rfl) rfl (e_truths c (by omega))) rfl)) (tB (oK (dI c.length) (dI 0) (cB (a1 (x := bL c) rfl) (lenB c)) rfl ((n_eq _ _).trans (by rw [decide_eq_false (by omega)])))))) ?_
    refine sq [.p (.cls "DaySet"), .p (bL h), .p (bL c), .emp, .emp, .p (lI (ones_ h)), .emp] (sE (e_ones h (by omega) (i := 1) rfl rfl rfl) rfl) ?_
    refine sq δ (sE (e_ones c (by omega) (i := 2) rfl rfl rfl) rfl) ?_
    refine sRet_ok (apL rfl (ds := [dI T.s, dI T.p, dI T.h, dI T.c]) ?_ rfl q)
    rw [th, tc]
    exact aK (cB (a1 (x := bL h) rfl) (lenB h)) (aK (cB (a1 (x := bL c) rfl) (lenB c)) (aK (part h 5 hh rfl) (a1 (part c 6 hc rfl))))
  refine fnMir_rt (δ := [.p (.tup [bL h, bL c])]) (sRet_ok ?_) rfl
  exact cmD (ds := [bL h, bL c]) (aK (oK (.tup [bL h, bL c]) (.int 0) rfl rfl rfl) (a1 (oK (.tup [bL h, bL c]) (.int 1) rfl rfl rfl))) rfl m1

/-! ### the law's draws of models -/
theorem lcT {e : PV.Env → R D} {x1 x2 : Sl} {b0 : Nat} (he : ∀ (b : Nat) (S : LSt) (x3 : Sl), Gd (b + 1) S → ∃ (v : Bool) (S' : LSt), e [.st S, x1, x2, x3] = .ok (.bl v) [.st S', x1, x2, x3] ∧ Gd b S') : ∀ (items : List D) (b : Nat) (S : LSt), Gd (b + items.length) S →
    ∃ (bs : List Bool) (S' : LSt), lcLoop (tgN 3) bYes e [3] items [.st S, x1, x2, .emp] = .ok (bs.map .bl) [.st S', x1, x2, .emp] ∧ bs.length = items.length ∧ Gd b S'
  | [], b, S, h => ⟨[], S, rfl, rfl, h⟩
  | d :: ds, b, S, h => by
    obtain ⟨v, S1, q1, g1⟩ := he (b + ds.length) S (.p d) (by rw [List.length_cons] at h; exact h)
    obtain ⟨bs, S2, q2, l2, g2⟩ := lcT (b0 := b0) he ds b S1 g1
    refine ⟨v :: bs, S2, ?_, by rw [List.length_cons, List.length_cons, l2], g2⟩
    have key : lcLoop (tgN 3) bYes e [3] (d :: ds) [.st S, x1, x2, .emp] = (e [.st S, x1, x2, .p d]).bind fun y δ3 => (lcLoop (tgN 3) bYes e [3] ds (wipeE δ3 [3])).bind fun ys δ4 => .ok (y :: ys) δ4 := rfl
    rw [key, q1, R.bind_ok]
    show (lcLoop (tgN 3) bYes e [3] ds [.st S1, x1, x2, .emp]).bind _ = _
    rw [q2, R.bind_ok]
    rfl
theorem tk {n : Nat} {S : LSt} {b : Nat} (h : Gd (b + 1) S) (hn : 0 < n) (hn2 : n < 1000000000) : ∃ (v : Nat) (S' : LSt), m__law_take [dI n] (.st S) = some (.p (dI v), .st S') ∧ v < n ∧ Gd b S' := by
  obtain ⟨v, S', t, a, c, g⟩ := e_take (n : Int) S b h (by omega) (by omega)
  obtain ⟨k, rfl⟩ := Int.eq_ofNat_of_zero_le a
  exact ⟨k, S', t, by omega, g⟩
theorem cS {n si io : Nat} {M : Mir} {f : PV.Env → R (List D)} {δ δ1 δ2 : PV.Env} {xs : List D} {d : D} {S0 S S' : LSt} (h : f δ = .ok xs δ1) (h0 : δ[si]? = some (.st S0)) (hs : δ1[si]? = some (.st S)) (hn : xs.length + 1 = n) (hm : M xs (.st S) = some (.p d, .st S')) (e : δ1.set si (.st S') = δ2) : dCallS n si io M (dHere si f) δ = .ok d δ2 := by
  subst e
  unfold dCallS dHere
  rw [h0]
  dsimp only
  rw [h, R.bind_ok, if_pos hn, hs]
  dsimp only
  rw [hm]
theorem rngL (n : Nat) (h : n ≤ 1000000) {δ : PV.Env} {f : PV.Env → R D} {δ1 : PV.Env} (hf : f δ = .ok (dI n) δ1) : iCall gRange1 (dCons f dNil) δ = .ok ((List.range n).map dI) δ1 := by
  unfold iCall
  rw [a1 hf, R.bind_ok, rng_dI n (by omega)]
theorem mulB (l : List Bool) (n : Nat) (hn : n < 16000000) (hz : l.length * n ≤ 16000000) {m : List Bool} (hm : (List.replicate n l).flatten = m) : gMul (bL l) (dI n) = some (bL m) := by
  subst hm
  simp only [gMul]
  rw [if_pos ⟨by omega, by omega, by rw [List.length_map, Int.toNat_natCast]; exact hz⟩, Int.toNat_natCast]
  congr 2
  rw [List.map_flatten, List.map_replicate]
theorem e_ltruths (n : Nat) (S : LSt) (b : Nat) (hn : n ≤ 1000) (h : Gd (b + n + 2) S) : ∃ (bs : List Bool) (S' : LSt), m__law_truths [dI n] (.st S) = some (.p (bL bs), .st S') ∧ bs.length = n ∧ Gd b S' := by
  obtain ⟨w, S1, t1, w4, g1⟩ := tk (n := 4) (b := b + n + 1) h (by omega) (by omega)
  have s1 : ∀ x2 x3, sSet 2 (dCallS 2 0 0 m__law_take (dHere 0 (dCons (dC (.int 4)) dNil))) [.st S, pI n, x2, x3] = .nx [.st S1, pI n, pI w, x3] := fun x2 x3 => sE (cS (a1 (x := dI 4) rfl) rfl rfl rfl t1 rfl) rfl
  have tt : ∀ (k : Nat) z, decide (w = k) = z → dTst (dOp (gEq false) (dV 2) (dC (.int k))) [.st S1, pI n, pI w, .emp] = .ok z [.st S1, pI n, pI w, .emp] := fun k z e => tB (oK (dI w) (dI k) rfl rfl ((n_eq _ _).trans (by rw [e])))
  have lc' : ∀ {e : PV.Env → R D}, (∀ (b : Nat) (S : LSt) (x3 : Sl), Gd (b + 1) S → ∃ (v : Bool) (S' : LSt), e [.st S, pI n, pI w, x3] = .ok (.bl v) [.st S', pI n, pI w, x3] ∧ Gd b S') →
      ∃ (bs : List Bool) (S' : LSt), dLc (iCall gRange1 (dCons (dV 1) dNil)) (tgN 3) bYes e [3] [.st S1, pI n, pI w, .emp] = .ok (bL bs) [.st S', pI n, pI w, .emp] ∧ bs.length = n ∧ Gd b S' := fun {e} he => by
    obtain ⟨bs, S2, q, l, g⟩ := lcT (b0 := 0) he ((List.range n).map dI) b S1 (by rw [List.length_map, List.length_range]; exact g1.mono (by omega))
    rw [List.length_map, List.length_range] at l
    refine ⟨bs, S2, ?_, l, g⟩
    unfold dLc
    rw [rngL n (by omega) (f := dV 1) (δ1 := [.st S1, pI n, pI w, .emp]) rfl, R.bind_ok]
    show (lcLoop (tgN 3) bYes e [3] ((List.range n).map dI) [.st S1, pI n, pI w, .emp]).bind _ = _
    rw [q, R.bind_ok, if_pos ⟨by rw [List.length_map]; omega, rfl⟩]
    rfl
  by_cases h0 : w = 0
  · obtain ⟨bs, S2, q, l, g⟩ := lc' (e := dOp (gEq false) (dCallS 2 0 0 m__law_take (dHere 0 (dCons (dC (.int 2)) dNil))) (dC (.int 0))) (fun b S x3 g => by
      obtain ⟨v, S', t, _, g'⟩ := tk (n := 2) g (by omega) (by omega)
      exact ⟨decide (v = 0), S', dOp_ok (x := dI v) (y := dI 0) (cS (a1 (x := dI 2) rfl) rfl rfl rfl t rfl) rfl (n_eq _ _), g'⟩)
    refine ⟨bs, S2, fnMir_rt (δ := [.st S2, pI n, pI w, .emp]) ?_ rfl, l, g⟩
    refine sq _ (s1 _ _) (seq_rt ((iY (tt 0 true (decide_eq_true h0))).trans (sRet_ok q)))
  · by_cases h1 : w = 1
    · obtain ⟨v, S2, t, _, g⟩ := tk (n := 2) (b := b) (g1.mono (by omega)) (by omega) (by omega)
      refine ⟨List.replicate n (decide (v = 0)), S2, fnMir_rt (δ := [.st S2, pI n, pI w, .emp]) ?_ rfl, by rw [List.length_replicate], g⟩
      refine sq _ (s1 _ _) (sq _ (iN (tt 0 false (decide_eq_false h0))) (seq_rt ((iY (tt 1 true (decide_eq_true h1))).trans (sRet_ok ?_))))
      refine dOp_ok (x := .lst [.bl (decide (v = 0))]) (y := dI n) (sT (δ1 := [.st S2, pI n, pI w, .emp]) (a1 (dOp_ok (x := dI v) (y := dI 0) (cS (a1 (x := dI 2) rfl) rfl rfl rfl t rfl) rfl (n_eq _ _))) (by show 1 ≤ 16000000; omega)) rfl ?_
      exact mulB [decide (v = 0)] n (by omega) (by show 1 * n ≤ _; omega) (by
        rw [List.flatten_replicate_singleton])
    · obtain ⟨bs, S2, q, l, g⟩ := lc' (e := dOp (gEq false) (dOp (gEq false) (dCallS 2 0 0 m__law_take (dHere 0 (dCons (dC (.int 5)) dNil))) (dC (.int 0))) (dOp (gEq false) (dV 2) (dC (.int 2)))) (fun b S x3 g => by
        obtain ⟨v, S', t, _, g'⟩ := tk (n := 5) g (by omega) (by omega)
        refine ⟨decide (decide (v = 0) = decide (w = 2)), S', dOp_ok (x := .bl (decide (v = 0))) (y := .bl (decide (w = 2))) (dOp_ok (x := dI v) (y := dI 0) (cS (a1 (x := dI 5) rfl) rfl rfl rfl t rfl) rfl (n_eq _ _)) (oK (dI w) (dI 2) rfl rfl (n_eq _ _)) (ev_eqB _ _), g'⟩)
      refine ⟨bs, S2, fnMir_rt (δ := [.st S2, pI n, pI w, .emp]) ?_ rfl, l, g⟩
      exact sq _ (s1 _ _) (sq _ (iN (tt 0 false (decide_eq_false h0))) (sq _ (iN (tt 1 false (decide_eq_false h1))) (sRet_ok q)))
theorem cutB (l : List Bool) (lo hi : Option Int) : ∃ m : List Bool, PV.cutD (l.map .bl) lo hi = m.map .bl ∧ m.length ≤ l.length := by
  refine ⟨(l.drop (HT.sIx (l.map D.bl).length 0 lo)).take (HT.sIx (l.map D.bl).length (l.map D.bl).length hi - HT.sIx (l.map D.bl).length 0 lo), ?_, ?_⟩
  · unfold PV.cutD
    rw [List.map_take, List.map_drop]
  · rw [List.length_take, List.length_drop]; omega

theorem six (n d k : Nat) (h : k ≤ n) : HT.sIx n d (some (k : Int)) = k := by
  rw [HT.sIx_nat]; omega
theorem cut_to (l : List Bool) (k : Nat) (h : k ≤ l.length) {δ : PV.Env} {i j : Nat} (hi : δ[i]? = some (.p (bL l))) (hj : δ[j]? = some (pI k)) : dSl (dV i) dNo (dPart (dV j)) δ = .ok (bL (l.take k)) δ := by
  have e : PV.cutD (l.map D.bl) none (some (k : Int)) = (l.take k).map D.bl := by
    unfold PV.cutD
    rw [six _ _ _ (by rw [List.length_map]; exact h)]
    show ((l.map D.bl).drop 0).take (k - 0) = _
    rw [List.drop_zero, Nat.sub_zero, List.map_take]
  have p : dPart (dV j) δ = .ok (some (k : Int)) δ := by unfold dPart; rw [vE hj]; rfl
  unfold dSl
  rw [vE hi, R.bind_ok]
  show (dPart (dV j) δ).bind _ = _
  rw [p, R.bind_ok]
  show R.ok (D.lst (PV.cutD (l.map D.bl) none (some (k : Int)))) δ = _
  rw [e]
theorem cut_from (l : List Bool) (k : Nat) (h : k ≤ l.length) {δ : PV.Env} {i j : Nat} (hi : δ[i]? = some (.p (bL l))) (hj : δ[j]? = some (pI k)) : dSl (dV i) (dPart (dV j)) dNo δ = .ok (bL (l.drop k)) δ := by
  have e : PV.cutD (l.map D.bl) (some (k : Int)) none = (l.drop k).map D.bl := by
    unfold PV.cutD
    rw [six _ _ _ (by rw [List.length_map]; exact h)]
    show ((l.map D.bl).drop k).take ((l.map D.bl).length - k) = _
    rw [← List.length_drop, List.take_length, List.map_drop]
  have p : dPart (dV j) δ = .ok (some (k : Int)) δ := by unfold dPart; rw [vE hj]; rfl
  unfold dSl
  rw [vE hi, R.bind_ok, p, R.bind_ok]
  show R.ok (D.lst (PV.cutD (l.map D.bl) (some (k : Int)) none)) δ = _
  rw [e]
theorem addB (a b : List Bool) (h : a.length + b.length ≤ 10000) : gAdd (bL a) (bL b) = some (bL (a ++ b)) := by
  simp only [gAdd]
  rw [if_pos (by rw [List.length_map, List.length_map]; omega)]
  show _ = some (D.lst ((a ++ b).map D.bl))
  rw [List.map_append]
theorem e_set (n : Nat) (S : LSt) (b : Nat) (h0 : 0 < n) (hn : n ≤ 100) (h : Gd (b + 2 * n + 10) S) : ∃ (hb cb : List Bool) (S' : LSt), m__law_set [dI n] (.st S) = some (.p (.tup [bL hb, bL cb]), .st S') ∧ hb.length ≤ 2 * n ∧ 0 < cb.length ∧ cb.length ≤ n ∧ Gd b S' := by
  obtain ⟨w, S1, t1, _, g1⟩ := tk (n := 5) (b := b + 2 * n + 9) h (by omega) (by omega)
  obtain ⟨k, S2, t2, hk, g2⟩ := tk (n := n) (b := b + 2 * n + 8) g1 h0 (by omega)
  obtain ⟨cb, S3, t3, lc3, g3⟩ := e_ltruths (1 + k) S2 (b + n + 5) (by omega) (g2.mono (by omega))
  obtain ⟨j, S4, t4, hj, g4⟩ := tk (n := n + 1) (b := b + n + 4) g3 (by omega) (by omega)
  obtain ⟨hb, S5, t5, lh5, g5⟩ := e_ltruths j S4 (b + 2) (by omega) (g4.mono (by omega))
  let E (S : LSt) (x : Sl) : PV.Env := [.st S, pI n, pI w, .p (bL cb), .p (bL hb), x]
  have s1 : sPar [2, 3] (dCons (dCallS 2 0 0 m__law_take (dHere 0 (dCons (dC (.int 5)) dNil))) (dCons (dCallS 2 0 0 m__law_truths (dHere 0 (dCons (dOp gAdd (dC (.int 1)) (dCallS 2 0 0 m__law_take (dHere 0 (dCons (dV 1) dNil)))) dNil))) dNil)) [.st S, pI n, .emp, .emp, .emp, .emp] = .nx [.st S3, pI n, pI w, .p (bL cb), .emp, .emp] := by
    refine sP (ds := [dI w, bL cb]) (δ1 := [.st S3, pI n, .emp, .emp, .emp, .emp]) ?_ rfl
    refine aC (δ1 := [.st S1, pI n, .emp, .emp, .emp, .emp]) (cS (a1 (x := dI 5) rfl) rfl rfl rfl t1 rfl) (a1 ?_)
    exact cS (δ1 := [.st S2, pI n, .emp, .emp, .emp, .emp]) (a1 (dOp_ok (x := dI 1) (y := dI k) (δ1 := [.st S1, pI n, .emp, .emp, .emp, .emp]) rfl (cS (a1 (x := dI n) rfl) rfl rfl rfl t2 rfl) (n_add _ _))) rfl rfl rfl t3 rfl
  have s2 : sSet 4 (dCallS 2 0 0 m__law_truths (dHere 0 (dCons (dCallS 2 0 0 m__law_take (dHere 0 (dCons (dOp gAdd (dV 1) (dC (.int 1))) dNil))) dNil))) [.st S3, pI n, pI w, .p (bL cb), .emp, .emp] = .nx (E S5 .emp) := by
    refine sE (d := bL hb) (δ1 := [.st S5, pI n, pI w, .p (bL cb), .emp, .emp]) ?_ rfl
    exact cS (δ1 := [.st S4, pI n, pI w, .p (bL cb), .emp, .emp]) (a1 (x := dI j) (cS (δ1 := [.st S3, pI n, pI w, .p (bL cb), .emp, .emp]) (a1 (oK (dI n) (dI 1) rfl rfl (n_add _ _))) rfl rfl rfl t4 rfl)) rfl rfl rfl t5 rfl
  have tt : ∀ (k : Nat) z, decide (w = k) = z → dTst (dOp (gEq false) (dV 2) (dC (.int k))) (E S5 .emp) = .ok z (E S5 .emp) := fun k z e => tB (oK (dI w) (dI k) rfl rfl ((n_eq _ _).trans (by rw [e])))
  have hL : 0 < cb.length ∧ cb.length ≤ n := by omega
  by_cases w0 : w = 0
  · have hq : 1 ≤ n / cb.length := (Nat.one_le_div_iff hL.1).mpr hL.2
    obtain ⟨m, S6, t6, hm, g6⟩ := tk (n := max 1 (n / cb.length)) (b := b + 1) g5 (by omega) (by have := Nat.div_le_self n cb.length; omega)
    have hz : cb.length * (1 + m) ≤ n := Nat.le_trans (Nat.mul_le_mul_left _ (show 1 + m ≤ n / cb.length by omega)) (Nat.mul_div_le _ _)
    have lf : (List.replicate (1 + m) cb).flatten.length = cb.length * (1 + m) := by
      rw [List.length_flatten, List.map_replicate]
      first | rw [List.sum_replicate_nat, Nat.mul_comm] | simp [Nat.mul_comm]
    refine ⟨hb, (List.replicate (1 + m) cb).flatten, S6, fnMir_rt (δ := E S6 .emp) ?_ rfl, by omega, by rw [lf]; exact Nat.mul_pos hL.1 (by omega), by rw [lf]; exact hz, g6.mono (by omega)⟩
    refine sq _ s1 (sq _ s2 (seq_rt ((iY (tt 0 true (decide_eq_true w0))).trans (sRet_ok (sT (k := .tup) (l := [bL hb, bL (List.replicate (1 + m) cb).flatten]) ?_ (by show 2 ≤ 16000000; omega))))))
    refine aC (δ1 := E S5 .emp) rfl (a1 (dOp_ok (x := bL cb) (y := dI (1 + m)) (δ1 := E S5 .emp) rfl (dOp_ok (x := dI 1) (y := dI m) (δ1 := E S5 .emp) rfl (cS (δ1 := E S5 .emp) (a1 (x := dI (max 1 (n / cb.length))) (cB (aK (x := dI 1) rfl (a1 (x := dI (n / cb.length)) (oK (dI n) (dI cb.length) rfl (cB (a1 (x := bL cb) rfl) (lenB cb)) (n_div hL.1 (by omega))))) (n_max _ _))) rfl rfl rfl t6 rfl) (n_add _ _)) (mulB cb (1 + m) (by have := Nat.le_mul_of_pos_left (1 + m) hL.1; omega) (by omega) rfl)))
  · by_cases w1 : w = 1
    · obtain ⟨a, S6, t6, ha, g6⟩ := tk (n := cb.length + 1) (b := b + 1) g5 (by omega) (by omega)
      refine ⟨hb ++ cb.take a, cb.drop a ++ cb.take a, S6, fnMir_rt (δ := E S6 (pI a)) ?_ rfl, by rw [List.length_append, List.length_take]; omega, by rw [List.length_append, List.length_take, List.length_drop]; omega, by rw [List.length_append, List.length_take, List.length_drop]; omega, g6.mono (by omega)⟩
      refine sq _ s1 (sq _ s2 (sq _ (iN (tt 0 false (decide_eq_false w0))) (seq_rt ((iY (tt 1 true (decide_eq_true w1))).trans (sq (E S6 (pI a)) (sE (d := dI a) (δ1 := E S6 .emp) (cS (δ1 := E S5 .emp) (a1 (x := dI (cb.length + 1)) (oK (dI cb.length) (dI 1) (cB (a1 (x := bL cb) rfl) (lenB cb)) rfl (n_add _ _))) rfl rfl rfl t6 rfl) rfl) (sRet_ok (sT (k := .tup) (l := [bL (hb ++ cb.take a), bL (cb.drop a ++ cb.take a)]) ?_ (by show 2 ≤ 16000000; omega))))))))
      exact aK (oK (bL hb) (bL (cb.take a)) rfl (cut_to cb a (by omega) rfl rfl) (addB _ _ (by rw [List.length_take]; omega))) (a1 (oK (bL (cb.drop a)) (bL (cb.take a)) (cut_from cb a (by omega) rfl rfl) (cut_to cb a (by omega) rfl rfl) (addB _ _ (by rw [List.length_take, List.length_drop]; omega))))
    · have base : ∀ r : SRes, (sRet (dIf (dTst (dOp (gEq false) (dV 2) (dC (.int 2)))) (dSeq .tup (dCons (dV 4) (dCons (dSeq .lst (dCons (dC (.bl false)) dNil)) dNil))) (dSeq .tup (dCons (dV 4) (dCons (dV 3) dNil)))) (E S5 .emp) = r) → b__law_set [.st S, pI n, .emp, .emp, .emp, .emp] = r := fun r q => sq _ s1 (sq _ s2 (sq _ (iN (tt 0 false (decide_eq_false w0))) (sq _ (iN (tt 1 false (decide_eq_false w1))) q)))
      by_cases w2 : w = 2
      · exact ⟨hb, [false], S5, fnMir_rt (δ := E S5 .emp) (base _ (sRet_ok ((dY (tt 2 true (decide_eq_true w2))).trans (sT (k := .tup) (l := [bL hb, bL [false]]) (aK (x := bL hb) rfl (a1 (sT (k := .lst) (l := [.bl false]) rfl (by show 1 ≤ 16000000; omega)))) (by show 2 ≤ 16000000; omega))))) rfl, by omega, by decide, by show 1 ≤ n; omega, g5.mono (by omega)⟩
      · exact ⟨hb, cb, S5, fnMir_rt (δ := E S5 .emp) (base _ (sRet_ok ((dN (tt 2 false (decide_eq_false w2))).trans (sT (k := .tup) (l := [bL hb, bL cb]) (aK (x := bL hb) rfl (a1 (x := bL cb) rfl)) (by show 2 ≤ 16000000; omega))))) rfl, by omega, hL.1, hL.2, g5.mono (by omega)⟩

/-! ### the law's own canonical form -/
theorem gEqBL (a b : List Bool) : gEqB (bL a) (bL b) = some (decide (a = b)) := by
  have py : ∀ l : List Bool, D.py (bL l) = some (.list (l.map PyData.bool)) := fun l => by
    show (D.pys (l.map .bl)).map _ = _
    have : D.pys (l.map D.bl) = some (l.map PyData.bool) := by
      induction l with
      | nil => rfl
      | cons b l ih => rw [List.map_cons, D.pys, ih]; rfl
    rw [this]; rfl
  have lay : ∀ l : List Bool, PyData.canLayAll0 (l.map PyData.bool) = true := fun l => by
    induction l with
    | nil => rfl
    | cons b l ih => show (true && PyData.canLayAll0 (l.map PyData.bool)) = true; rw [ih]; rfl
  have dep : ∀ l : List Bool, PyData.depthAll (l.map PyData.bool) = 0 := fun l => by
    induction l with
    | nil => rfl
    | cons b l ih => show max 0 (PyData.depthAll (l.map PyData.bool)) = 0; rw [ih]; rfl
  have sh : ∀ l : List Bool, SeqAt.shaped (.list (l.map PyData.bool)) = true := fun l => by
    have h1 := lay l
    have h2 := dep l
    unfold SeqAt.shaped
    simp [PyData.canLay0, PyData.depth, h1, h2]
  have eq : ∀ a b : List Bool, PyData.eqvAll (a.map PyData.bool) (b.map PyData.bool) = decide (a = b) := by
    intro a
    induction a with
    | nil => intro b; cases b <;> rfl
    | cons x a ih =>
      intro b
      cases b with
      | nil => rfl
      | cons y b =>
        show (PyData.eqv (.bool x) (.bool y) && PyData.eqvAll (a.map PyData.bool) (b.map PyData.bool)) = _
        rw [ih b]
        have : PyData.eqv (.bool x) (.bool y) = decide (x = y) := by cases x <;> cases y <;> rfl
        rw [this]
        by_cases h : x = y <;> simp [h]
  show (match (bL a).py, (bL b).py with
    | some p, some q => if SeqAt.shaped p = true ∧ SeqAt.shaped q = true then some (PyData.eqv p q) else none
    | _, _ => none) = _
  rw [py a, py b]
  show (if _ then some (PyData.eqvAll (a.map PyData.bool) (b.map PyData.bool)) else none) = _
  rw [if_pos ⟨sh a, sh b⟩, eq]
theorem eqBL (neg : Bool) (a b : List Bool) : gEq neg (bL a) (bL b) = some (.bl (if neg then !decide (a = b) else decide (a = b))) := by
  show (gEqB (bL a) (bL b)).map _ = _
  rw [gEqBL]
  rfl
theorem hasM_at (h c : List Bool) {d : Nat} (hd : d < h.length) : hasM h c d = h.getD d false := if_pos hd
theorem hasM_far (h c : List Bool) (j : Nat) : hasM h c (h.length + j) = c.getD (j % c.length) false := by
  unfold hasM
  rw [if_neg (by omega), Nat.add_sub_cancel_left]
def cycL (c : List Bool) (i : Nat) : Bool := c.getD (i % c.length) false
theorem cycL_per (c : List Bool) (h : 0 < c.length) : PD.Per (cycL c) c.length := ⟨h, fun i => by unfold cycL; rw [Nat.add_mod_right]⟩
theorem rep_get (l : List Bool) (n i : Nat) (hi : i < l.length * n) : (List.replicate n l).flatten.getD i false = l.getD (i % l.length) false := by
  induction n generalizing i with
  | zero => omega
  | succ n ih =>
    rw [List.replicate_succ, List.flatten_cons, List.getD_eq_getElem?_getD, List.getElem?_append]
    by_cases h : i < l.length
    · rw [if_pos h, Nat.mod_eq_of_lt h, List.getD_eq_getElem?_getD]
    · rw [if_neg h, ← List.getD_eq_getElem?_getD, ih (i - l.length) (by rw [Nat.mul_succ] at hi; omega)]
      congr 1
      have := Nat.add_mod_right (i - l.length) l.length
      rw [Nat.sub_add_cancel (by omega)] at this
      exact this.symm
theorem rep_len (l : List Bool) (n : Nat) : (List.replicate n l).flatten.length = l.length * n := by
  rw [List.length_flatten, List.map_replicate]
  first | rw [List.sum_replicate_nat, Nat.mul_comm] | simp [Nat.mul_comm]
theorem ext_getD {a b : List Bool} (hl : a.length = b.length) (h : ∀ i, i < a.length → a.getD i false = b.getD i false) : a = b := List.ext_getElem hl fun i h1 h2 => by
  have := h i h1
  rwa [List.getD_eq_getElem?_getD, List.getD_eq_getElem?_getD, List.getElem?_eq_getElem h1, List.getElem?_eq_getElem h2] at this
/-- a block that repeats to the whole -/
theorem blk_iff (c : List Bool) {s n : Nat} (hs : 0 < s) (hn : 0 < n) (hc : c.length = s * n) : (List.replicate n (c.take s)).flatten = c ↔ PD.Per (cycL c) s := by
  have hsc : s ≤ c.length := by rw [hc]; exact Nat.le_mul_of_pos_right s hn
  have hl : (c.take s).length = s := by rw [List.length_take]; omega
  have hc0 : 0 < c.length := by omega
  have hd : s ∣ c.length := ⟨n, hc⟩
  have tk' : ∀ i, (c.take s).getD (i % s) false = c.getD (i % s) false := fun i => by
    rw [List.getD_eq_getElem?_getD, List.getElem?_take, if_pos (Nat.mod_lt _ hs), ← List.getD_eq_getElem?_getD]
  constructor
  · intro e
    have key : ∀ i, cycL c i = c.getD (i % s) false := fun i => by
      have h1 := rep_get (c.take s) n (i % c.length) (by rw [hl, ← hc]; exact Nat.mod_lt _ hc0)
      rw [e, hl, Nat.mod_mod_of_dvd _ hd, tk'] at h1
      exact h1
    exact ⟨hs, fun i => by rw [key, key, Nat.add_mod_right]⟩
  · intro h
    refine ext_getD (by rw [rep_len, hl, hc]) fun i hi => ?_
    rw [rep_len, hl] at hi
    rw [rep_get _ _ _ (by rw [hl]; exact hi), hl, tk']
    have := h.mod i
    unfold cycL at this
    rw [Nat.mod_eq_of_lt (show i < c.length by omega), Nat.mod_eq_of_lt (Nat.lt_of_lt_of_le (Nat.mod_lt _ hs) hsc)] at this
    exact this
theorem cycL_take (c : List Bool) {s : Nat} (h : PD.Per (cycL c) s) (hd : s ∣ c.length) (hc : 0 < c.length) : cycL (c.take s) = cycL c := by
  have hsc := Nat.le_of_dvd hc hd
  have hl : (c.take s).length = s := by rw [List.length_take]; omega
  funext i
  have := h.mod i
  unfold cycL at this ⊢
  rw [hl, List.getD_eq_getElem?_getD, List.getElem?_take, if_pos (Nat.mod_lt _ h.1), ← List.getD_eq_getElem?_getD, ← this, Nat.mod_eq_of_lt (Nat.lt_of_lt_of_le (Nat.mod_lt _ h.1) hsc)]
theorem hasM_cyc (h c : List Bool) (d : Nat) (hd : h.length ≤ d) : hasM h c d = cycL c (d - h.length) := if_neg (by omega)
theorem hasM_congr (h : List Bool) {c c' : List Bool} (e : cycL c' = cycL c) : hasM h c' = hasM h c := by
  funext d
  by_cases hd : d < h.length
  · rw [hasM_at _ _ hd, hasM_at _ _ hd]
  · rw [hasM_cyc _ _ _ (by omega), hasM_cyc _ _ _ (by omega), e]
/-- one turn of the while -/
theorem turn_eq (h c : List Bool) (hh : 0 < h.length) (hc : 0 < c.length) (e : h.getD (h.length - 1) false = c.getD (c.length - 1) false) : hasM (h.take (h.length - 1)) (c.drop (c.length - 1) ++ c.take (c.length - 1)) = hasM h c := by
  have l1 : (h.take (h.length - 1)).length = h.length - 1 := by rw [List.length_take]; omega
  have l2 : (c.drop (c.length - 1) ++ c.take (c.length - 1)).length = c.length := by rw [List.length_append, List.length_drop, List.length_take]; omega
  have g0 : (c.drop (c.length - 1) ++ c.take (c.length - 1)).getD 0 false = c.getD (c.length - 1) false := by
    rw [List.getD_eq_getElem?_getD, List.getElem?_append_left (by rw [List.length_drop]; omega), List.getElem?_drop, Nat.add_zero, ← List.getD_eq_getElem?_getD]
  have g1 : ∀ j, j + 1 < c.length → (c.drop (c.length - 1) ++ c.take (c.length - 1)).getD (j + 1) false = c.getD j false := fun j hj => by
    rw [List.getD_eq_getElem?_getD, List.getElem?_append_right (by rw [List.length_drop]; omega), List.length_drop, List.getElem?_take, if_pos (by omega), ← List.getD_eq_getElem?_getD]
    congr 1; omega
  funext d
  by_cases h1 : d < h.length - 1
  · rw [hasM_at _ _ (by rw [l1]; exact h1), hasM_at _ _ (by omega), List.getD_eq_getElem?_getD, List.getElem?_take, if_pos h1, ← List.getD_eq_getElem?_getD]
  · rw [hasM_cyc _ _ _ (by rw [l1]; omega), l1]
    unfold cycL
    rw [l2]
    by_cases h2 : d = h.length - 1
    · rw [h2, Nat.sub_self, Nat.zero_mod, g0, hasM_at _ _ (by omega), e]
    · rw [hasM_cyc _ _ _ (by omega)]
      unfold cycL
      have hm := Nat.mod_lt (d - h.length) hc
      have e2 : d - (h.length - 1) = d - h.length + 1 := by omega
      rw [e2]
      by_cases h3 : (d - h.length) % c.length + 1 < c.length
      · have : (d - h.length + 1) % c.length = (d - h.length) % c.length + 1 := by
          rw [Nat.add_mod, Nat.mod_eq_of_lt (show 1 < c.length by omega), Nat.mod_eq_of_lt h3]
        rw [this, g1 _ h3]
      · have h4 : (d - h.length) % c.length = c.length - 1 := by omega
        have : (d - h.length + 1) % c.length = 0 := by
          by_cases h5 : c.length = 1
          · rw [h5, Nat.mod_one]
          · rw [Nat.add_mod, h4, Nat.mod_eq_of_lt (show 1 < c.length by omega), show c.length - 1 + 1 = c.length by omega, Nat.mod_self]
        rw [this, g0, h4]
theorem core_can {f : Nat → Bool} {h c : List Bool} (hf : hasM h c = f) (hc : 0 < c.length) (hp : ∀ S P, PD.EP f S P → c.length ∣ P) (hlast : h = [] ∨ h.getD (h.length - 1) false ≠ c.getD (c.length - 1) false) : PD.Can f (PD.mk h.length c.length f) := by
  subst hf
  have ep := hasM_ep h c hc
  refine ⟨PD.mk_wf hc, PD.mk_mem ep, fun S P hP => ⟨hp S P hP, ?_⟩⟩
  show h.length ≤ S
  rcases hlast with e | e
  · rw [e]; exact Nat.zero_le _
  · refine Nat.le_of_not_lt fun hlt => e ?_
    have a1 := hP.mul h.length (h.length - 1) (by omega)
    have a2 := hP.mul h.length (h.length - 1 + c.length) (by omega)
    have a3 := ep.2 (h.length - 1 + P * h.length) (by have := Nat.le_mul_of_pos_left h.length hP.1; omega)
    rw [show h.length - 1 + P * h.length + c.length = h.length - 1 + c.length + P * h.length by omega, a2, a1] at a3
    rw [hasM_at h c (show h.length - 1 < h.length by omega)] at a3
    rw [← a3, hasM_cyc _ _ _ (by omega)]
    unfold cycL
    rw [show h.length - 1 + c.length - h.length = c.length - 1 by omega, Nat.mod_eq_of_lt (by omega)]
theorem per_of_ep {h c : List Bool} (hc : 0 < c.length) {S P : Nat} (hP : PD.EP (hasM h c) S P) : PD.Per (cycL c) P := ⟨hP.1, fun i => by
  have e : ∀ j, cycL c j = hasM h c (h.length + c.length * S + j) := fun j => by
    rw [hasM_cyc _ _ _ (by omega), show h.length + c.length * S + j - h.length = j + c.length * S by omega]
    unfold cycL
    rw [Nat.add_mul_mod_self_left]
  rw [e, e, ← Nat.add_assoc]
  refine hP.2 _ ?_
  have := Nat.le_mul_of_pos_left S hc
  omega⟩
theorem filter_ext {p : Nat → Bool} {k : Nat} (h : ∀ i, k ≤ i → p i = false) : ∀ n, k ≤ n → (List.range n).filter p = (List.range k).filter p := by
  intro n
  induction n with
  | zero => intro hk; rw [show k = 0 by omega]
  | succ n ih =>
    intro hk
    by_cases e : k = n + 1
    · rw [e]
    · rw [List.range_succ, List.filter_append, ih (by omega)]
      simp [h n (by omega)]
theorem plc_ofB (n : Nat) (f : Nat → Bool) : plc (PD.ofB n f) = (List.range n).filter f := by
  have hb := PD.blen_le (PD.ofB_lt f n)
  unfold plc
  rw [← filter_ext (p := (PD.ofB n f).testBit) (k := PD.blen (PD.ofB n f)) (fun i hi => PD.blen_high hi) n hb]
  refine List.filter_congr fun i hi => ?_
  rw [PD.ofB_bit, decide_eq_true (List.mem_range.mp hi), Bool.true_and]

theorem ixLast (l : List Bool) (h : 0 < l.length) : gIx (bL l) (.int (-1)) = some (.bl (l.getD (l.length - 1) false)) := by
  show atI (l.map PV.D.bl) (-1) = _
  unfold atI ixN
  rw [if_neg (by omega), List.length_map]
  have e : ((-1 : Int) + (l.length : Int)).toNat = l.length - 1 := by omega
  first
    | (rw [if_pos (by omega), e]
       show (l.map PV.D.bl)[l.length - 1]? = _
       rw [List.getElem?_map, List.getElem?_eq_getElem (by omega)]
       simp [List.getElem?_eq_getElem (show l.length - 1 < l.length by omega)])
    | skip
theorem six1 (n d : Nat) (h : 0 < n) : HT.sIx n d (some (-1)) = n - 1 := by
  show (if (-1 : Int) < 0 then ((-1 : Int) + (n : Int)).toNat else min (-1 : Int).toNat n) = _
  rw [if_pos (by omega)]; omega
theorem cut_init (l : List Bool) (h : 0 < l.length) {δ : PV.Env} {i : Nat} (hi : δ[i]? = some (.p (bL l))) : dSl (dV i) dNo (dPart (dUn gNeg (dC (.int 1)))) δ = .ok (bL (l.take (l.length - 1))) δ := by
  have e : PV.cutD (l.map D.bl) none (some (-1)) = (l.take (l.length - 1)).map D.bl := by
    unfold PV.cutD
    rw [six1 _ _ (by rw [List.length_map]; exact h), List.length_map]
    show ((l.map D.bl).drop 0).take (l.length - 1 - 0) = _
    rw [List.drop_zero, Nat.sub_zero, List.map_take]
  unfold dSl
  rw [vE hi, R.bind_ok]
  show R.ok (D.lst (PV.cutD (l.map D.bl) none (some (-1)))) δ = _
  rw [e]
theorem cut_tail (l : List Bool) (h : 0 < l.length) {δ : PV.Env} {i : Nat} (hi : δ[i]? = some (.p (bL l))) : dSl (dV i) (dPart (dUn gNeg (dC (.int 1)))) dNo δ = .ok (bL (l.drop (l.length - 1))) δ := by
  have e : PV.cutD (l.map D.bl) (some (-1)) none = (l.drop (l.length - 1)).map D.bl := by
    unfold PV.cutD
    rw [six1 _ _ (by rw [List.length_map]; exact h), List.length_map]
    show ((l.map D.bl).drop (l.length - 1)).take (l.length - (l.length - 1)) = _
    rw [← List.map_drop, List.take_of_length_le (by rw [List.length_map, List.length_drop]; omega)]
  unfold dSl
  rw [vE hi, R.bind_ok]
  show R.ok (D.lst (PV.cutD (l.map D.bl) (some (-1)) none)) δ = _
  rw [e]
theorem slE {f : PV.Env → PV.R D} {lo hi : PV.Env → PV.R (Option Int)} {δ : PV.Env} {x z : D} {l h : Option Int} (h1 : f δ = .ok x δ) (h2 : lo δ = .ok l δ) (h3 : hi δ = .ok h δ) (h4 : gSl x l h = some z) : dSl f lo hi δ = .ok z δ := by
  unfold dSl
  rw [h1, PV.R.bind_ok, h2, PV.R.bind_ok, h3, PV.R.bind_ok, h4]
theorem four_ (a b c d : D) : [a, b, c, d].length ≤ 16000000 := by
  have e : [a, b, c, d].length = 4 := rfl
  omega
theorem ix0 (d : D) (l : List D) : gIx (.lst (d :: l)) (.int 0) = some d := by
  show atI (d :: l) 0 = _
  unfold atI ixN
  rw [if_pos (by omega), if_pos (by rw [List.length_cons]; omega)]
  rfl
theorem pE {f : PV.Env → R D} {δ : PV.Env} {k : Nat} (h : f δ = .ok (dI k) δ) : dPart f δ = .ok (some (k : Int)) δ := by
  unfold dPart; rw [h]; rfl
abbrev szs (L : Nat) : List Nat := ((List.range L).map (· + 1)).filter fun s => decide (L % s = 0)
theorem rng2_dI (n : Nat) (h : n ≤ 1000000) : gRange2 [dI 1, dI (n + 1)] = some (((List.range n).map (· + 1)).map dI) := by
  simp only [gRange2]
  rw [if_pos (by omega), List.map_map]
  have e : (((n + 1 : Nat) : Int) - ((1 : Nat) : Int)).toNat = n := by omega
  rw [e]
  refine congrArg some (List.map_congr_left fun i _ => ?_)
  refine congrArg PV.D.int ?_
  show ((1 : Nat) : Int) + (i : Int) = ((i + 1 : Nat) : Int)
  omega
/-! ### shifted -/
def shF (g : Int) (f : Nat → Bool) (d : Nat) : Bool := decide (g ≤ (d : Int)) && f ((d : Int) - g).toNat
theorem shF_up (k : Nat) (f : Nat → Bool) (d : Nat) : shF (k : Int) f d = (decide (k ≤ d) && f (d - k)) := by
  unfold shF
  rw [show ((d : Int) - (k : Int)).toNat = d - k by omega, decide_eq_decide.mpr (show (k : Int) ≤ d ↔ k ≤ d by omega)]
theorem shF_down (k : Nat) (f : Nat → Bool) (d : Nat) : shF (-(k : Int)) f d = f (d + k) := by
  unfold shF
  rw [show ((d : Int) - -(k : Int)).toNat = d + k by omega, decide_eq_true (by omega), Bool.true_and]
theorem sub_iff (F : PD.Fm) (g : Int) : PV.gSub (dI 0) (dI F.s) = some (.int (-(F.s : Int))) := by rw [ev_sub]; congr 2; omega
theorem andF {f g : PV.Env → PV.R Bool} {δ δ1 : PV.Env} (h : f δ = .ok false δ1) : dAnd f g δ = .ok false δ1 := by unfold dAnd; rw [h]; rfl
theorem e_need (g : Int) : m_need_number [.int g, .non] .emp = some (.p .non, .emp) :=
  fnMir_nx (δ := [.p (.int g), .p .non]) (iN (orT (a := false) (b := false) (notT (b := true) (truV (x := .bl true) (cF (a1 (x := .int g) rfl) rfl (e_isnum g)) rfl)) (andF (tB (oK .non .non rfl rfl rfl))))) rfl
theorem sDr {f : PV.Env → R D} {δ δ1 : PV.Env} {d : D} (h : f δ = .ok d δ1) : sDrop f δ = .nx δ1 := by unfold sDrop; rw [h]
theorem can_shift {f : Nat → Bool} {S P : Nat} (e : PD.EP f S P) (k : Nat) : PD.EP (shF (k : Int) f) (S + k) P := ⟨e.1, fun d hd => by
  rw [shF_up, shF_up, decide_eq_true (by omega), decide_eq_true (by omega), Bool.true_and, Bool.true_and, show d + P - k = d - k + P by omega]
  exact e.2 _ (by omega)⟩
theorem can_shiftD {f : Nat → Bool} {S P : Nat} (e : PD.EP f S P) (k : Nat) : PD.EP (shF (-(k : Int)) f) (S - k) P := ⟨e.1, fun d hd => by
  rw [shF_down, shF_down, show d + P + k = d + k + P by omega]
  exact e.2 _ (by omega)⟩
/-- what the three ways of shifting build -/
def upF (F : PD.Fm) (k : Nat) : PD.Fm := ⟨F.s + k, F.p, F.h <<< k, F.c⟩
def dnF (F : PD.Fm) (k : Nat) : PD.Fm := ⟨F.s - k, F.p, F.h >>> k, F.c⟩
def roF (F : PD.Fm) (n : Nat) : PD.Fm := ⟨0, F.p, 0, (F.c >>> n) ||| ((F.c &&& (2 ^ n - 1)) <<< (F.p - n))⟩
theorem up_wf {F : PD.Fm} (w : F.Wf) (k : Nat) : (upF F k).Wf := ⟨w.p, PD.lt_of_bits fun i hi => by
  show (F.h <<< k).testBit i = false
  rw [Nat.testBit_shiftLeft]
  have hi' : F.s + k ≤ i := hi
  rw [PD.bit_high w.h (show F.s ≤ i - k by omega), Bool.and_false], w.c⟩
theorem up_mem {F : PD.Fm} (w : F.Wf) (k : Nat) : (upF F k).mem = shF (k : Int) F.mem := by
  funext d
  rw [shF_up]
  show (if d < F.s + k then (F.h <<< k).testBit d else F.c.testBit ((d - (F.s + k)) % F.p)) = _
  unfold PD.Fm.mem
  by_cases h : d < F.s + k
  · rw [if_pos h, Nat.testBit_shiftLeft]
    by_cases h2 : k ≤ d
    · rw [if_pos (by omega)]
    · rw [decide_eq_false h2, Bool.false_and, Bool.false_and]
  · rw [if_neg h, if_neg (by omega), decide_eq_true (by omega), Bool.true_and, show d - (F.s + k) = d - k - F.s by omega]
theorem dn_wf {F : PD.Fm} (w : F.Wf) (k : Nat) : (dnF F k).Wf := ⟨w.p, PD.lt_of_bits fun i hi => by
  show (F.h >>> k).testBit i = false
  rw [Nat.testBit_shiftRight]
  have hi' : F.s - k ≤ i := hi
  exact PD.bit_high w.h (by omega), w.c⟩
theorem dn_mem {F : PD.Fm} (w : F.Wf) (k : Nat) (hk : k ≤ F.s) : (dnF F k).mem = shF (-(k : Int)) F.mem := by
  funext d
  rw [shF_down]
  show (if d < F.s - k then (F.h >>> k).testBit d else F.c.testBit ((d - (F.s - k)) % F.p)) = _
  unfold PD.Fm.mem
  by_cases h : d < F.s - k
  · rw [if_pos h, if_pos (by omega), Nat.testBit_shiftRight, Nat.add_comm]
  · rw [if_neg h, if_neg (by omega), show d - (F.s - k) = d + k - F.s by omega]
theorem ro_bit {F : PD.Fm} (w : F.Wf) {n : Nat} (hn : n < F.p) (j : Nat) : (roF F n).c.testBit j = (decide (j < F.p) && F.c.testBit ((j + n) % F.p)) := by
  show ((F.c >>> n) ||| ((F.c &&& (2 ^ n - 1)) <<< (F.p - n))).testBit j = _
  rw [Nat.testBit_or, Nat.testBit_shiftRight, Nat.testBit_shiftLeft, Nat.testBit_and, PD.bit_mask]
  by_cases h : j < F.p
  · rw [decide_eq_true h, Bool.true_and]
    by_cases h2 : j + n < F.p
    · rw [Nat.mod_eq_of_lt h2, decide_eq_false (show ¬ F.p - n ≤ j by omega), Bool.false_and, Bool.or_false, Nat.add_comm]
    · rw [PD.bit_high w.c (show F.p ≤ n + j by omega), Bool.false_or, decide_eq_true (show j ≥ F.p - n by omega), Bool.true_and, decide_eq_true (show j - (F.p - n) < n by omega), Bool.and_true, Nat.mod_eq_sub_mod (by omega), Nat.mod_eq_of_lt (by omega), show j - (F.p - n) = j + n - F.p by omega]
  · rw [decide_eq_false h, Bool.false_and, PD.bit_high w.c (show F.p ≤ n + j by omega), Bool.false_or, decide_eq_false (show ¬ j - (F.p - n) < n by omega), Bool.and_false, Bool.and_false]
theorem ro_wf {F : PD.Fm} (w : F.Wf) {n : Nat} (hn : n < F.p) : (roF F n).Wf := ⟨w.p, by show (0 : Nat) < 2 ^ 0; decide, PD.lt_of_bits fun i hi => by
  rw [ro_bit w hn, decide_eq_false (by have : F.p ≤ i := hi; omega), Bool.false_and]⟩
theorem ro_mem {F : PD.Fm} (w : F.Wf) (k : Nat) (hk : F.s ≤ k) : (roF F ((k - F.s) % F.p)).mem = shF (-(k : Int)) F.mem := by
  funext d
  rw [shF_down]
  show (if d < 0 then _ else (roF F ((k - F.s) % F.p)).c.testBit ((d - 0) % F.p)) = _
  unfold PD.Fm.mem
  rw [if_neg (by omega), if_neg (by omega), ro_bit w (Nat.mod_lt _ w.p), decide_eq_true (Nat.mod_lt _ w.p), Bool.true_and, Nat.sub_zero, ← Nat.add_mod, show d + (k - F.s) = d + k - F.s by omega]
theorem sh_emp {f : Nat → Bool} (h : ∀ d, f d = false) (g : Int) : shF g f = fun _ => false := by
  funext d; unfold shF; rw [h, Bool.and_false]
/-! ### the law's model moved; span(n), of([]) -/
theorem hasM_up (h c : List Bool) (k d : Nat) : hasM (List.replicate k false ++ h) c d = shF (k : Int) (hasM h c) d := by
  rw [shF_up]
  unfold hasM
  rw [List.length_append, List.length_replicate, List.getD_eq_getElem?_getD, List.getElem?_append, List.length_replicate]
  by_cases h1 : d < k
  · rw [if_pos (show d < k + h.length by omega), if_pos h1, List.getElem?_replicate, if_pos h1, decide_eq_false (show ¬ k ≤ d by omega)]; rfl
  · rw [decide_eq_true (show k ≤ d by omega), Bool.true_and, if_neg h1, ← List.getD_eq_getElem?_getD]
    by_cases h2 : d < k + h.length
    · rw [if_pos h2, if_pos (by omega)]
    · rw [if_neg h2, if_neg (by omega), show d - (k + h.length) = d - k - h.length by omega]
theorem hasM_dn (h c : List Bool) (hc : 0 < c.length) (k n : Nat) (hn : n = h.length - k) (l : List Bool) (hl : l = (List.range (n + c.length)).map fun d => hasM h c (d + k)) (d : Nat) : hasM (l.take n) (l.drop n) d = shF (-(k : Int)) (hasM h c) d := by
  rw [shF_down]
  have ll : l.length = n + c.length := by rw [hl, List.length_map, List.length_range]
  have lg : ∀ i, i < n + c.length → l.getD i false = hasM h c (i + k) := fun i hi => by
    rw [hl, List.getD_eq_getElem?_getD, List.getElem?_map, List.getElem?_range hi]; rfl
  have lt : (l.take n).length = n := by rw [List.length_take, ll]; omega
  have ld : (l.drop n).length = c.length := by rw [List.length_drop, ll]; omega
  show (if d < (l.take n).length then (l.take n).getD d false else (l.drop n).getD ((d - (l.take n).length) % (l.drop n).length) false) = _
  rw [lt, ld]
  by_cases hd : d < n
  · rw [if_pos hd, List.getD_eq_getElem?_getD, List.getElem?_take, if_pos hd, ← List.getD_eq_getElem?_getD, lg d (by omega)]
  · have hm := Nat.mod_lt (d - n) hc
    rw [if_neg hd, List.getD_eq_getElem?_getD, List.getElem?_drop, ← List.getD_eq_getElem?_getD, lg _ (by omega)]
    have ep : PD.EP (hasM h c) (n + k) c.length := by
      have := (hasM_ep h c hc).up (S' := n + k) (k := 1) (by omega) (by omega)
      rwa [Nat.mul_one] at this
    have := ep.mod (d := d + k) (by omega)
    rw [show d + k - (n + k) = d - n by omega] at this
    rw [← this]
    congr 1
    omega
/-! ### lowest, next_from -/
theorem low_bit : ∀ x : Nat, 0 < x → ∃ t, x.testBit t = true ∧ (∀ i, i < t → x.testBit i = false) ∧ ∀ i, (x ^^^ (x &&& (x - 1))).testBit i = decide (i = t) := by
  intro x
  induction x using Nat.strongRecOn with
  | _ x ih =>
    intro h
    by_cases o : x % 2 = 1
    · have h0 : x.testBit 0 = true := by rw [Nat.testBit_zero]; exact decide_eq_true o
      refine ⟨0, h0, fun i hi => by omega, fun i => ?_⟩
      rw [Nat.testBit_xor, Nat.testBit_and]
      cases i with
      | zero =>
        have h1 : (x - 1).testBit 0 = false := by rw [Nat.testBit_zero]; exact decide_eq_false (by omega)
        rw [h0, h1]; rfl
      | succ i =>
        rw [Nat.testBit_succ, Nat.testBit_succ, show (x - 1) / 2 = x / 2 by omega, decide_eq_false (by omega)]
        cases (x / 2).testBit i <;> rfl
    · obtain ⟨t, h1, h2, h3⟩ := ih (x / 2) (by omega) (by omega)
      have h0 : x.testBit 0 = false := by rw [Nat.testBit_zero]; exact decide_eq_false o
      refine ⟨t + 1, by rw [Nat.testBit_succ]; exact h1, fun i hi => ?_, fun i => ?_⟩
      · cases i with
        | zero => exact h0
        | succ i => rw [Nat.testBit_succ]; exact h2 i (by omega)
      · rw [Nat.testBit_xor, Nat.testBit_and]
        cases i with
        | zero => rw [h0, decide_eq_false (by omega)]; rfl
        | succ i =>
          have := h3 i
          rw [Nat.testBit_xor, Nat.testBit_and] at this
          rw [Nat.testBit_succ, Nat.testBit_succ, show (x - 1) / 2 = x / 2 - 1 by omega, this]
          exact decide_eq_decide.mpr (by omega)
theorem e_lowest (x : Nat) (h : 0 < x) (n : Nat) (hx : x < 2 ^ n) (hn : n ≤ 10000000) : ∃ t, m_lowest [dI x] .emp = some (.p (dI t), .emp) ∧ x.testBit t = true ∧ ∀ i, i < t → x.testBit i = false := by
  obtain ⟨t, h1, h2, h3⟩ := low_bit x h
  refine ⟨t, ?_, h1, h2⟩
  have ht : t < n := by
    by_cases z : t < n
    · exact z
    · rw [PD.bit_high hx (by omega)] at h1; cases h1
  have e : x ^^^ (x &&& (x - 1)) = 2 ^ t := Nat.eq_of_testBit_eq fun i => by
    rw [h3, Nat.testBit_two_pow]; exact decide_eq_decide.mpr (by omega)
  have b : PD.blen (2 ^ t) = t + 1 := by
    unfold PD.blen
    rw [if_neg (Nat.ne_of_gt (Nat.two_pow_pos t)), Nat.log2_two_pow]
  have p0 := Nat.two_pow_pos t
  have e0 : dOp (gBit Builtin.bitAnd) (dV 0) (dOp PV.gSub (dC (.int 0)) (dV 0)) [pI x] = .ok (dI (2 ^ t)) [pI x] := by
    refine oK (dI x) (.int (Builtin.bitNot ((x - 1 : Nat) : Int))) rfl (oK (.int 0) (dI x) rfl rfl ?_) ((PD.g_less x (x - 1)).trans (by rw [e]))
    rw [ev_sub]
    have : (0 : Int) - (x : Int) = Builtin.bitNot ((x - 1 : Nat) : Int) := by unfold Builtin.bitNot; omega
    rw [this]
  have e1 : dFmtB (dOp (gBit Builtin.bitAnd) (dV 0) (dOp PV.gSub (dC (.int 0)) (dV 0))) [pI x] = .ok (.str (binS (2 ^ t))) [pI x] := by
    unfold dFmtB
    rw [e0, PV.R.bind_ok]
    refine (if_pos ⟨by omega, ?_⟩).trans (by rw [Int.toNat_natCast])
    rw [Int.toNat_natCast, PD.binS_len p0, b]; omega
  refine fnMir_rt (δ := [pI x]) (sRet_ok (oK (dI (t + 1)) (dI 1) (cB (a1 e1) ?_) rfl ((n_sub (by omega)).trans (by rw [Nat.add_sub_cancel])))) rfl
  refine (if_pos (by rw [PD.binS_len p0, b]; omega)).trans ?_
  rw [PD.binS_len p0, b]
theorem shr_bit (x k i : Nat) : (x >>> k).testBit i = x.testBit (k + i) := Nat.testBit_shiftRight ..
theorem shr_zero {x k : Nat} (h : x >>> k = 0) {i : Nat} (hi : k ≤ i) : x.testBit i = false := by
  have := shr_bit x k (i - k)
  rw [h, Nat.zero_testBit, show k + (i - k) = i by omega] at this
  exact this.symm
theorem shr_lt {x k n : Nat} (h : x < 2 ^ n) : x >>> k < 2 ^ n := Nat.lt_of_le_of_lt (by rw [Nat.shiftRight_eq_div_pow]; exact Nat.div_le_self _ _) h
/-- what next_from says -/
def Nxt (f : Nat → Bool) (g : Int) (r : D) : Prop := (r = .non ∧ ∀ d : Nat, g ≤ d → f d = false) ∨ ∃ d : Nat, r = dI d ∧ g ≤ d ∧ f d = true ∧ ∀ e : Nat, g ≤ e → e < d → f e = false
theorem e_next {f : Nat → Bool} {F : PD.Fm} (cF' : PD.Can f F) (sF : Sml F) (g : Int) : ∃ r, mirD m_DaySet_next_from [oD F, .int g] = some r ∧ Nxt f g r := by
  have w := cF'.wf
  obtain rfl := cF'.eq
  have hs := sF.1
  have hp := sF.2
  have pz := w.p
  let n := g.toNat
  let E (x : Sl) (y : Sl) : PV.Env := [.p (oD F), x, pI F.s, pI F.p, pI F.h, pI F.c, y]
  let δ0 : PV.Env := [.p (oD F), .p (.int g), .emp, .emp, .emp, .emp, .emp]
  have dr : sDrop (dCallF 2 m_need_number [] (dCons (dV 1) (dCons (dC .non) dNil))) δ0 = .nx δ0 := sDr (d := .non) (cF (aK (x := .int g) rfl (a1 (x := .non) rfl)) rfl (e_need g))
  have ds : sAsg (tgT [2, 3, 4, 5]) (dFld "DaySet" "core" (dV 0)) δ0 = .nx (E (.p (.int g)) .emp) := sA (d := fD F) (dFl rfl) rfl
  have s1 : sSet 1 (dCall gMax (dCons (dV 1) (dCons (dC (.int 0)) dNil))) (E (.p (.int g)) .emp) = .nx (E (pI n) .emp) := by
    refine sE (d := dI n) (δ1 := E (.p (.int g)) .emp) (cB (aK (x := .int g) rfl (a1 (x := .int 0) rfl)) ?_) rfl
    rw [ev_max]
    congr 2
    show (if (0 : Int) > g then (0 : Int) else g) = ((g.toNat : Nat) : Int)
    split <;> omega
  have tl : dTst (dOp gLt (dV 1) (dV 2)) (E (pI n) .emp) = .ok (decide (n < F.s)) (E (pI n) .emp) := tB (oK (dI n) (dI F.s) rfl rfl (n_lt _ _))
  have th : dTst (dOp (gEq true) (dOp gShr (dV 4) (dV 1)) (dC (.int 0))) (E (pI n) .emp) = .ok (!decide (F.h >>> n = 0)) (E (pI n) .emp) := tB (oK (dI (F.h >>> n)) (dI 0) (oK (dI F.h) (dI n) rfl rfl (PD.g_shr _ _)) rfl (n_ne _ _))
  have ge : ∀ d : Nat, g ≤ d ↔ n ≤ d := fun d => by omega
  by_cases c1 : n < F.s ∧ F.h >>> n ≠ 0
  · obtain ⟨t, q, b1, b2⟩ := e_lowest (F.h >>> n) (Nat.pos_of_ne_zero c1.2) F.s (shr_lt w.h) (by omega)
    rw [shr_bit] at b1
    have hd : n + t < F.s := by
      by_cases z : n + t < F.s
      · exact z
      · rw [PD.bit_high w.h (by omega)] at b1; cases b1
    refine ⟨dI (n + t), mD (s := .emp) (fnMir_rt (δ := E (pI n) .emp) (sq δ0 dr (sq _ ds (sq _ s1 (seq_rt ((iY ((andT tl th).trans (by rw [decide_eq_true c1.1, decide_eq_false c1.2]; rfl))).trans (sRet_ok (oK (dI n) (dI t) rfl (cF (a1 (x := dI (F.h >>> n)) (oK (dI F.h) (dI n) rfl rfl (PD.g_shr _ _))) rfl q) (n_add _ _)))))))) rfl), .inr ⟨n + t, rfl, (ge _).mpr (by omega), ?_, fun e he1 he2 => ?_⟩⟩
    · unfold PD.Fm.mem; rw [if_pos hd]; exact b1
    · have he := (ge e).mp he1
      unfold PD.Fm.mem; rw [if_pos (by omega)]
      have := b2 (e - n) (by omega)
      rwa [shr_bit, show n + (e - n) = e by omega] at this
  · have i1 := iN (f := sRet (dOp gAdd (dV 1) (dCallF 1 m_lowest [] (dCons (dOp gShr (dV 4) (dV 1)) dNil)))) (g := sNext) ((andT tl th).trans (by
      congr 1
      by_cases z : n < F.s
      · rw [decide_eq_true (show F.h >>> n = 0 from Decidable.byContradiction fun y => c1 ⟨z, y⟩)]
        exact Bool.and_false _
      · rw [decide_eq_false z]; rfl))
    have lows : ∀ e, n ≤ e → e < F.s → F.mem e = false := fun e h1 h2 => by
      have z : F.h >>> n = 0 := Decidable.byContradiction fun y => c1 ⟨by omega, y⟩
      unfold PD.Fm.mem
      rw [if_pos h2]
      exact shr_zero z h1
    have tc : dTst (dOp (gEq false) (dV 5) (dC (.int 0))) (E (pI n) .emp) = .ok (decide (F.c = 0)) (E (pI n) .emp) := tB (oK (dI F.c) (dI 0) rfl rfl (n_eq _ _))
    by_cases c0 : F.c = 0
    · refine ⟨.non, mD (s := .emp) (fnMir_rt (δ := E (pI n) .emp) (sq δ0 dr (sq _ ds (sq _ s1 (sq _ i1 (seq_rt ((iY (tc.trans (by rw [decide_eq_true c0]))).trans (sRet_ok rfl))))))) rfl), .inl ⟨rfl, fun e he => ?_⟩⟩
      have he := (ge e).mp he
      by_cases z : e < F.s
      · exact lows e he z
      · unfold PD.Fm.mem
        rw [if_neg z, c0, Nat.zero_testBit]
    · let m := max n F.s
      let j := (m - F.s) % F.p
      have hj : j < F.p := Nat.mod_lt _ pz
      have hm : F.s ≤ m := Nat.le_max_right _ _
      have hm2 : n ≤ m := Nat.le_max_left _ _
      have s2 : sSet 1 (dCall gMax (dCons (dV 1) (dCons (dV 2) dNil))) (E (pI n) .emp) = .nx (E (pI m) .emp) := sE (d := dI m) (δ1 := E (pI n) .emp) (cB (aK (x := dI n) rfl (a1 (x := dI F.s) rfl)) (n_max _ _)) rfl
      have s3 : sSet 6 (dOp gMod (dOp PV.gSub (dV 1) (dV 2)) (dV 3)) (E (pI m) .emp) = .nx (E (pI m) (pI j)) := sE (d := dI j) (δ1 := E (pI m) .emp) (oK (dI (m - F.s)) (dI F.p) (oK (dI m) (dI F.s) rfl rfl (n_sub hm)) rfl (n_mod pz)) rfl
      have gap : ∀ e, n ≤ e → e < m → F.mem e = false := fun e h1 h2 => lows e h1 (by
        have : m = max n F.s := rfl
        omega)
      have far : ∀ i, F.mem (m + i) = F.c.testBit ((j + i) % F.p) := fun i => by
        unfold PD.Fm.mem
        rw [if_neg (by omega), show m + i - F.s = m - F.s + i by omega, Nat.add_mod, ← Nat.mod_mod_of_dvd (m - F.s) (Nat.dvd_refl F.p), ← Nat.add_mod]
      have walk : ∀ (r : D), dIf (dTst (dOp (gEq true) (dOp gShr (dV 5) (dV 6)) (dC (.int 0)))) (dOp gAdd (dV 1) (dCallF 1 m_lowest [] (dCons (dOp gShr (dV 5) (dV 6)) dNil))) (dOp gAdd (dOp PV.gSub (dOp gAdd (dV 1) (dV 3)) (dV 6)) (dCallF 1 m_lowest [] (dCons (dV 5) dNil))) (E (pI m) (pI j)) = .ok r (E (pI m) (pI j)) → mirD m_DaySet_next_from [oD F, .int g] = some r := fun r h =>
        mD (s := .emp) (fnMir_rt (δ := E (pI m) (pI j)) (sq δ0 dr (sq _ ds (sq _ s1 (sq _ i1 (sq _ (iN (tc.trans (by rw [decide_eq_false c0]))) (sq _ s2 (sq _ s3 (sRet_ok h)))))))) rfl)
      have tz : dTst (dOp (gEq true) (dOp gShr (dV 5) (dV 6)) (dC (.int 0))) (E (pI m) (pI j)) = .ok (!decide (F.c >>> j = 0)) (E (pI m) (pI j)) := tB (oK (dI (F.c >>> j)) (dI 0) (oK (dI F.c) (dI j) rfl rfl (PD.g_shr _ _)) rfl (n_ne _ _))
      by_cases z : F.c >>> j = 0
      · obtain ⟨t, q, b1, b2⟩ := e_lowest F.c (by omega) F.p w.c (by omega)
        have ht : t < F.p := by
          by_cases y : t < F.p
          · exact y
          · rw [PD.bit_high w.c (by omega)] at b1; cases b1
        refine ⟨dI (m + F.p - j + t), walk _ ((dN (tz.trans (by rw [decide_eq_true z]; rfl))).trans (oK (dI (m + F.p - j)) (dI t) (oK (dI (m + F.p)) (dI j) (oK (dI m) (dI F.p) rfl rfl (n_add _ _)) rfl (n_sub (by omega))) (cF (a1 (x := dI F.c) rfl) rfl q) (n_add _ _))), .inr ⟨m + F.p - j + t, rfl, (ge _).mpr (by omega), ?_, fun e he1 he2 => ?_⟩⟩
        · rw [show m + F.p - j + t = m + (F.p - j + t) by omega, far, show j + (F.p - j + t) = t + F.p by omega, Nat.add_mod_right, Nat.mod_eq_of_lt ht]
          exact b1
        · have he := (ge e).mp he1
          by_cases y : e < m
          · exact gap e he y
          · rw [show e = m + (e - m) by omega, far]
            by_cases v : j + (e - m) < F.p
            · rw [Nat.mod_eq_of_lt v]
              exact shr_zero z (by omega)
            · rw [Nat.mod_eq_sub_mod (by omega), Nat.mod_eq_of_lt (by omega)]
              exact b2 _ (by omega)
      · obtain ⟨t, q, b1, b2⟩ := e_lowest (F.c >>> j) (Nat.pos_of_ne_zero z) F.p (shr_lt w.c) (by omega)
        rw [shr_bit] at b1
        have ht : j + t < F.p := by
          by_cases y : j + t < F.p
          · exact y
          · rw [PD.bit_high w.c (by omega)] at b1; cases b1
        refine ⟨dI (m + t), walk _ ((dY (tz.trans (by rw [decide_eq_false z]; rfl))).trans (oK (dI m) (dI t) rfl (cF (a1 (x := dI (F.c >>> j)) (oK (dI F.c) (dI j) rfl rfl (PD.g_shr _ _))) rfl q) (n_add _ _))), .inr ⟨m + t, rfl, (ge _).mpr (by omega), ?_, fun e he1 he2 => ?_⟩⟩
        · rw [far, Nat.mod_eq_of_lt ht]; exact b1
        · have he := (ge e).mp he1
          by_cases y : e < m
          · exact gap e he y
          · rw [show e = m + (e - m) by omega, far, Nat.mod_eq_of_lt (by omega)]
            have := b2 (e - m) (by omega)
            rwa [shr_bit] at this

/-! ### ones, counts -/
theorem cnt_rev (c : Nat) : ∀ l : List Nat, PyProof.Rows.cnt c l.reverse = PyProof.Rows.cnt c l
  | [] => rfl
  | n :: r => by
    rw [List.reverse_cons, PyProof.Rows.cnt_append, cnt_rev c r, PyProof.Rows.cnt_cons, PyProof.Rows.cnt_cons, PyProof.Rows.cnt_nil]
    omega
theorem cnt_sg (f : Nat → Bool) : ∀ l : List Nat, PyProof.Rows.cnt 49 (l.map fun i => PD.sg (f i)) = ((l.filter f).length : Nat)
  | [] => rfl
  | n :: r => by
    rw [List.map_cons, PyProof.Rows.cnt_cons, cnt_sg f r]
    cases h : f n
    · rw [List.filter_cons_of_neg (by rw [h]; decide)]
      show (if PD.sg false = 49 then (1 : Int) else 0) + _ = _
      rw [if_neg (by decide)]; omega
    · rw [List.filter_cons_of_pos h, List.length_cons]
      show (if PD.sg true = 49 then (1 : Int) else 0) + _ = _
      rw [if_pos (show PD.sg true = 49 from rfl)]; omega
theorem cnt_bin (n : Nat) : PySem.Txt.count (binS n) ⟨#[49]⟩ = ((plc n).length : Nat) := by
  rw [PyProof.Rows.count_cnt]
  by_cases h : n = 0
  · subst h; rw [PD.binS_zero]; rfl
  · have e : (binS n).cps.toList = bits01 n := rfl
    rw [e, ← cnt_rev, PD.bits01_rev n (by omega), cnt_sg]
theorem e_onesN (n : Nat) (h : n < 2 ^ 10000000) : m_ones [dI n] .emp = some (.p (dI (plc n).length), .emp) := by
  have hb := PD.blen_le h
  have e1 : dFmtB (dV 0) [pI n] = .ok (.str (binS n)) [pI n] := by
    refine (if_pos ⟨by omega, ?_⟩).trans (by rw [Int.toNat_natCast])
    rw [Int.toNat_natCast]
    by_cases hn : n = 0
    · subst hn; rw [PD.binS_zero]; decide
    · rw [PD.binS_len (by omega)]; omega
  refine fnMir_rt (δ := [pI n]) (sRet_ok ?_) rfl
  show dCount (dFmtB (dV 0)) (dC (.str "1")) [pI n] = _
  unfold dCount
  rw [e1, PV.R.bind_ok]
  show PV.R.ok (D.int (PySem.Txt.count (binS n) ⟨#[49]⟩)) _ = _
  rw [cnt_bin]
/-- how many days below n are in f -/
def rank (f : Nat → Bool) (n : Nat) : Nat := ((List.range n).filter f).length
theorem rank_zero (f : Nat → Bool) : rank f 0 = 0 := rfl
theorem rank_succ (f : Nat → Bool) (n : Nat) : rank f (n + 1) = rank f n + (if f n then 1 else 0) := by
  unfold rank
  rw [List.range_succ, List.filter_append, List.length_append]
  cases h : f n
  · rw [List.filter_cons_of_neg (by rw [h]; decide)]; rfl
  · rw [List.filter_cons_of_pos h]; rfl
theorem rank_congr {f g : Nat → Bool} {n : Nat} (h : ∀ i, i < n → f i = g i) : rank f n = rank g n := by
  unfold rank
  rw [List.filter_congr fun i hi => h i (List.mem_range.mp hi)]
theorem rank_add (f : Nat → Bool) (a : Nat) : ∀ b, rank f (a + b) = rank f a + rank (fun i => f (a + i)) b
  | 0 => rfl
  | b + 1 => by rw [← Nat.add_assoc, rank_succ, rank_succ, rank_add f a b]; omega
theorem rank_le (f : Nat → Bool) (n : Nat) : rank f n ≤ n := Nat.le_trans (List.length_filter_le _ _) (Nat.le_of_eq List.length_range)
theorem rank_mono (f : Nat → Bool) {a b : Nat} (h : a ≤ b) : rank f a ≤ rank f b := by
  obtain ⟨c, rfl⟩ := Nat.exists_eq_add_of_le h
  rw [rank_add]; omega
theorem rank_per {g : Nat → Bool} {p : Nat} (h : PD.Per g p) : ∀ q r, rank g (q * p + r) = q * rank g p + rank g r
  | 0, r => by rw [Nat.zero_mul, Nat.zero_mul, Nat.zero_add, Nat.zero_add]
  | q + 1, r => by
    rw [show (q + 1) * p + r = p + (q * p + r) by rw [Nat.succ_mul]; omega, rank_add]
    have : rank (fun i => g (p + i)) (q * p + r) = rank g (q * p + r) := rank_congr fun i _ => by rw [Nat.add_comm]; exact h.2 i
    rw [this, rank_per h q r, Nat.succ_mul]; omega
theorem plc_rank (n : Nat) (f : Nat → Bool) : (plc (PD.ofB n f)).length = rank f n := by rw [plc_ofB]; rfl
theorem low_ones {x n k : Nat} (h : x < 2 ^ n) (hk : k ≤ n) : x &&& (2 ^ k - 1) = PD.ofB k x.testBit := PD.eq_ofB fun i => by
  rw [Nat.testBit_and, PD.bit_mask, Bool.and_comm]
theorem e_before {F : PD.Fm} (w : F.Wf) (sF : Sml F) (g : Int) : m_number_before [fD F, .int g] .emp = some (.p (dI (rank F.mem g.toNat)), .emp) := by
  have hs := sF.1
  have hp := sF.2
  have pz := w.p
  have big : ∀ {x n : Nat}, x < 2 ^ n → n ≤ 2000 → x < 2 ^ 10000000 := fun h hn => Nat.lt_of_lt_of_le h (Nat.pow_le_pow_right (by omega) (by omega))
  let E (x y : Sl) : PV.Env := [.p (fD F), .p (.int g), pI F.s, pI F.p, pI F.h, pI F.c, x, y]
  have s0 : sAsg (tgT [2, 3, 4, 5]) (dV 0) [.p (fD F), .p (.int g), .emp, .emp, .emp, .emp, .emp, .emp] = .nx (E .emp .emp) := sA (d := fD F) rfl rfl
  have t0 : dTst (dOp gLe (dV 1) (dV 2)) (E .emp .emp) = .ok (decide (g ≤ (F.s : Int))) (E .emp .emp) := tB (oK (.int g) (dI F.s) rfl rfl rfl)
  have mh : ∀ i, i < F.s → F.h.testBit i = F.mem i := fun i hi => by unfold PD.Fm.mem; rw [if_pos hi]
  have ones : ∀ (δ : PV.Env) (fe : PV.Env → PV.R D) (n : Nat), n < 2 ^ 2000 → fe δ = .ok (dI n) δ → dCallF 1 m_ones [] (dCons fe dNil) δ = .ok (dI (plc n).length) δ := fun δ fe n hn hf => cF (a1 hf) rfl (e_onesN n (big hn (Nat.le_refl _)))
  have lt2 : ∀ {x n : Nat}, x < 2 ^ n → n ≤ 2000 → x < 2 ^ 2000 := fun h hn => Nat.lt_of_lt_of_le h (Nat.pow_le_pow_right (by omega) hn)
  by_cases h0 : g ≤ (F.s : Int)
  · let n := g.toNat
    have hn : n ≤ F.s := by omega
    have e1 : dCall gMax (dCons (dV 1) (dCons (dC (.int 0)) dNil)) (E .emp .emp) = .ok (dI n) (E .emp .emp) := by
      refine cB (aK (x := .int g) rfl (a1 (x := .int 0) rfl)) ?_
      rw [ev_max]
      congr 2
      show (if (0 : Int) > g then (0 : Int) else g) = ((g.toNat : Nat) : Int)
      split <;> omega
    have e2 : (plc (F.h &&& (2 ^ n - 1))).length = rank F.mem n := by
      rw [low_ones w.h hn, plc_rank]
      exact rank_congr fun i hi => mh i (by omega)
    refine fnMir_rt (δ := E .emp .emp) (sq _ s0 (seq_rt ((iY (t0.trans (by rw [decide_eq_true h0]))).trans (sRet_ok ?_)))) rfl
    rw [← e2]
    exact ones _ _ (F.h &&& (2 ^ n - 1)) (lt2 PD.and_lt (by omega)) (oK (dI F.h) (dI (2 ^ n - 1)) rfl (cF (a1 e1) rfl (e_mask n (by omega))) (PD.g_and _ _))
  · obtain ⟨n, rfl⟩ := Int.eq_ofNat_of_zero_le (show 0 ≤ g by omega)
    have hn : F.s < n := by omega
    let q := (n - F.s) / F.p
    let r := (n - F.s) % F.p
    have hr : r < F.p := Nat.mod_lt _ pz
    have sub : dOp PV.gSub (dV 1) (dV 2) (E .emp .emp) = .ok (dI (n - F.s)) (E .emp .emp) := oK (dI n) (dI F.s) rfl rfl (n_sub (by omega))
    have s2 : sPar [6, 7] (dCons (dOp gDiv (dOp PV.gSub (dV 1) (dV 2)) (dV 3)) (dCons (dOp gMod (dOp PV.gSub (dV 1) (dV 2)) (dV 3)) dNil)) (E .emp .emp) = .nx (E (pI q) (pI r)) := sP (aK (oK (dI (n - F.s)) (dI F.p) sub rfl (n_div pz (by omega))) (a1 (oK (dI (n - F.s)) (dI F.p) sub rfl (n_mod pz)))) rfl
    let cy := fun i => F.mem (F.s + i)
    have cb : ∀ i, i < F.p → F.c.testBit i = cy i := fun i hi => by
      show _ = F.mem (F.s + i)
      unfold PD.Fm.mem
      rw [if_neg (by omega), Nat.add_sub_cancel_left, Nat.mod_eq_of_lt hi]
    have per : PD.Per cy F.p := ⟨pz, fun i => by
      show F.mem (F.s + (i + F.p)) = F.mem (F.s + i)
      rw [← Nat.add_assoc]
      exact w.ep.2 _ (by omega)⟩
    have oh : (plc F.h).length = rank F.mem F.s := by
      rw [← PD.ofB_self w.h, plc_rank]
      exact rank_congr mh
    have oc : (plc F.c).length = rank cy F.p := by
      rw [← PD.ofB_self w.c, plc_rank]
      exact rank_congr cb
    have oR : (plc (F.c &&& (2 ^ r - 1))).length = rank cy r := by
      rw [low_ones w.c (Nat.le_of_lt hr), plc_rank]
      exact rank_congr fun i hi => cb i (by omega)
    have tot : rank F.mem n = rank F.mem F.s + q * rank cy F.p + rank cy r := by
      have e1 : n = F.s + (q * F.p + r) := by
        have := Nat.div_add_mod (n - F.s) F.p
        have c : q * F.p = F.p * ((n - F.s) / F.p) := Nat.mul_comm _ _
        show n = F.s + (q * F.p + (n - F.s) % F.p)
        omega
      rw [e1, rank_add, rank_per per, Nat.add_assoc]
    refine fnMir_rt (δ := E (pI q) (pI r)) (sq _ s0 (sq _ (iN (t0.trans (by rw [decide_eq_false h0]))) (sq _ s2 (sRet_ok ?_)))) rfl
    rw [show (((n : Nat) : Int)).toNat = n from Int.toNat_natCast n, tot, ← oh, ← oc, ← oR]
    refine oK (dI ((plc F.h).length + q * (plc F.c).length)) (dI (plc (F.c &&& (2 ^ r - 1))).length) (oK (dI (plc F.h).length) (dI (q * (plc F.c).length)) (ones _ _ F.h (lt2 w.h hs) rfl) (oK (dI q) (dI (plc F.c).length) rfl (ones _ _ F.c (lt2 w.c hp) rfl) ?_) (n_add _ _)) (ones _ _ (F.c &&& (2 ^ r - 1)) (lt2 PD.and_lt (by omega)) (oK (dI F.c) (dI (2 ^ r - 1)) rfl (cF (a1 (x := dI r) rfl) rfl (e_mask r (by omega))) (PD.g_and _ _))) (n_add _ _)
    have bd : (plc F.c).length ≤ F.p := by rw [oc]; exact rank_le _ _
    rw [ev_mul (.inr (by omega))]; congr
theorem e_many {f : Nat → Bool} {F : PD.Fm} (cF' : PD.Can f F) (sF : Sml F) (a b : Int) : mirD m_DaySet_how_many [oD F, .int a, .int b] = some (dI (rank f b.toNat - rank f a.toNat)) := by
  have w := cF'.wf
  obtain rfl := cF'.eq
  let δ : PV.Env := [.p (oD F), .p (.int a), .p (.int b)]
  have bef : ∀ (i : Nat) (g : Int), δ[i]? = some (.p (.int g)) → dCallF 2 m_number_before [] (dCons (dFld "DaySet" "core" (dV 0)) (dCons (dV i) dNil)) δ = .ok (dI (rank F.mem g.toNat)) δ := fun i g hi => cF (aK (x := fD F) (dFl rfl) (a1 (x := .int g) (vE hi))) rfl (e_before w sF g)
  have dr : ∀ (i : Nat) (g : Int), δ[i]? = some (.p (.int g)) → sDrop (dCallF 2 m_need_number [] (dCons (dV i) (dCons (dC .non) dNil))) δ = .nx δ := fun i g hi => sDr (d := .non) (cF (aK (x := .int g) (vE hi) (a1 (x := .non) rfl)) rfl (e_need g))
  refine mD (s := .emp) (fnMir_rt (δ := δ) (sq δ (dr 1 a rfl) (sq δ (dr 2 b rfl) (sRet_ok (cB (aK (x := .int 0) rfl (a1 (x := .int ((rank F.mem b.toNat : Int) - (rank F.mem a.toNat : Int))) (oK _ _ (bef 2 b rfl) (bef 1 a rfl) rfl))) ?_)))) rfl)
  rw [ev_max]
  congr 2
  split <;> omega

/-! ### need_number with a least -/
theorem e_need2 (g l : Nat) (h : l ≤ g) : m_need_number [dI g, dI l] .emp = some (.p .non, .emp) := by
  have e1 : dTst (dOp (gIs true) (dV 1) (dC .non)) [pI g, pI l] = .ok true [pI g, pI l] := tB (oK (dI l) .non rfl rfl rfl)
  have e2 : dTst (dOp gLt (dV 0) (dV 1)) [pI g, pI l] = .ok false [pI g, pI l] := tB (oK (dI g) (dI l) rfl rfl ((n_lt _ _).trans (by rw [decide_eq_false (by omega)])))
  exact fnMir_nx (δ := [pI g, pI l]) (iN (orT (a := false) (b := false) (notT (b := true) (truV (x := .bl true) (cF (a1 (x := dI g) rfl) rfl (e_isnum g)) rfl)) (andT (a := true) (b := false) e1 e2))) rfl

/-! ### each: the plain law -/
def eachF (f : Nat → Bool) (k a : Nat) (d : Nat) : Bool := f d && (decide (a ≤ rank f d) && decide ((rank f d - a) % k = 0))
theorem rank_turn {g : Nat → Bool} {p : Nat} (h : PD.Per g p) (a : Nat) : rank (fun i => g (a + i)) p = rank g p := by
  have h1 := rank_add g a p
  have h2 := rank_add g p a
  have h3 : rank (fun i => g (p + i)) a = rank g a := rank_congr fun i _ => by rw [Nat.add_comm]; exact h.2 i
  rw [h3, Nat.add_comm p a] at h2
  omega
theorem ep_per {f : Nat → Bool} {S P : Nat} (e : PD.EP f S P) : PD.Per (fun i => f (S + i)) P := ⟨e.1, fun i => by
  show f (S + (i + P)) = f (S + i)
  rw [← Nat.add_assoc]; exact e.2 _ (by omega)⟩
theorem rank_far {f : Nat → Bool} {S P : Nat} (e : PD.EP f S P) (m d : Nat) (hd : S ≤ d) : rank f (d + m * P) = rank f d + m * rank (fun i => f (S + i)) P := by
  have per := ep_per e
  have h1 := rank_add f S (d - S)
  have h2 := rank_add f S (m * P + (d - S))
  rw [rank_per per] at h2
  rw [show S + (d - S) = d by omega] at h1
  rw [show S + (m * P + (d - S)) = d + m * P by omega] at h2
  omega
theorem each_ep {f : Nat → Bool} {S P : Nat} (e : PD.EP f S P) (k a : Nat) (hk : 0 < k) (hq : 0 < rank (fun i => f (S + i)) P) :
    PD.EP (eachF f k a) (S + (a / rank (fun i => f (S + i)) P + 1) * P) (k / Nat.gcd k (rank (fun i => f (S + i)) P) * P) := by
  let q := rank (fun i => f (S + i)) P
  let g := Nat.gcd k q
  let m := k / g
  have hg : 0 < g := Nat.gcd_pos_of_pos_left _ hk
  have hm : 0 < m := Nat.div_pos (Nat.le_of_dvd hk (Nat.gcd_dvd_left _ _)) hg
  have hd : k ∣ m * q := by
    obtain ⟨x, hx⟩ := Nat.gcd_dvd_right k q
    obtain ⟨y, hy⟩ := Nat.gcd_dvd_left k q
    have hmy : m = y := by
      show k / g = y
      rw [show k / g = (g * y) / g from congrArg (· / g) hy, Nat.mul_div_cancel_left _ hg]
    refine ⟨x, ?_⟩
    rw [hmy]
    have hx' : q = g * x := hx
    have hy' : k = g * y := hy
    rw [hx', ← Nat.mul_assoc, Nat.mul_comm y g, ← hy']
  refine ⟨Nat.mul_pos hm e.1, fun d h => ?_⟩
  have hS : S ≤ d := by omega
  have hf : f (d + m * P) = f d := by
    have := e.mul m d hS
    rwa [Nat.mul_comm] at this
  have hr := rank_far e m d hS
  have hb : a ≤ rank f d := by
    have h1 := rank_mono f h
    have h2 := rank_far e (a / q + 1) S (Nat.le_refl _)
    have h3 : a < (a / q + 1) * q := by
      have := Nat.lt_mul_div_succ a hq
      rwa [Nat.mul_comm]
    have h4 : (a / rank (fun i => f (S + i)) P + 1) * P = (a / q + 1) * P := rfl
    rw [h4] at h1
    have h5 : rank f (S + (a / q + 1) * P) = rank f S + (a / q + 1) * q := h2
    omega
  unfold eachF
  show (f (d + m * P) && (decide (a ≤ rank f (d + m * P)) && decide ((rank f (d + m * P) - a) % k = 0))) = _
  have hr' : rank f (d + m * P) = rank f d + m * q := hr
  rw [hf, hr', decide_eq_true (show a ≤ rank f d + m * q by omega), decide_eq_true hb]
  have : (rank f d + m * q - a) % k = (rank f d - a) % k := by
    obtain ⟨c, hc⟩ := hd
    rw [show rank f d + m * q - a = rank f d - a + k * c by omega, Nat.add_mul_mod_self_left]
  rw [this]

/-! ### span(a, b) -/
theorem gTo (l : List Bool) (k : Nat) (h : k ≤ l.length) : gSl (bL l) none (some (k : Int)) = some (bL (l.take k)) := by
  show some (D.lst (PV.cutD (l.map .bl) none (some (k : Int)))) = _
  unfold PV.cutD
  rw [List.length_map, six _ _ _ h]
  show some (D.lst (((l.map D.bl).drop (HT.sIx l.length 0 none)).take (k - HT.sIx l.length 0 none))) = _
  rw [show HT.sIx l.length 0 none = 0 from rfl, List.drop_zero, Nat.sub_zero, ← List.map_take]
theorem gFrom (l : List Bool) (k : Nat) (h : k ≤ l.length) : gSl (bL l) (some (k : Int)) none = some (bL (l.drop k)) := by
  show some (D.lst (PV.cutD (l.map .bl) (some (k : Int)) none)) = _
  unfold PV.cutD
  rw [List.length_map, six _ _ _ h]
  rw [show HT.sIx l.length l.length none = l.length from rfl, ← List.map_drop, ← List.map_take, List.take_of_length_le (by rw [List.length_drop]; omega)]
theorem getD_l (a b : List Bool) {i : Nat} (h : i < a.length) : (a ++ b).getD i false = a.getD i false := by
  rw [List.getD_eq_getElem?_getD, List.getD_eq_getElem?_getD, List.getElem?_append_left h]
theorem getD_r (a b : List Bool) {i : Nat} (h : a.length ≤ i) : (a ++ b).getD i false = b.getD (i - a.length) false := by
  rw [List.getD_eq_getElem?_getD, List.getD_eq_getElem?_getD, List.getElem?_append_right h]
theorem rng_at {n j : Nat} {d : D} (h : ((List.range n).map dI)[j]? = some d) : j < n ∧ d = dI j := by
  rw [List.getElem?_map] at h
  cases q : (List.range n)[j]? with
  | none => rw [q] at h; cases h
  | some v =>
    rw [q] at h
    obtain ⟨hl, e⟩ := List.getElem?_eq_some_iff.mp q
    rw [List.length_range] at hl
    rw [List.getElem_range] at e
    subst e
    exact ⟨hl, (Option.some.inj h).symm⟩
theorem hasM_rot (h c : List Bool) (a t : Nat) (ha : a ≤ c.length) (ht : 0 < t) (hc : 0 < c.length) : hasM (h ++ c.take a) (List.replicate t (c.drop a ++ c.take a)).flatten = hasM h c := by
  funext d
  have ll : (c.drop a ++ c.take a).length = c.length := by rw [List.length_append, List.length_drop, List.length_take]; omega
  have lt : (h ++ c.take a).length = h.length + a := by rw [List.length_append, List.length_take]; omega
  unfold hasM
  rw [rep_len, ll, lt]
  by_cases h1 : d < h.length
  · rw [if_pos (show d < h.length + a by omega), if_pos h1, getD_l _ _ h1]
  · rw [if_neg h1]
    by_cases h2 : d < h.length + a
    · rw [if_pos h2, getD_r _ _ (by omega), Nat.mod_eq_of_lt (show d - h.length < c.length by omega)]
      rw [List.getD_eq_getElem?_getD, List.getD_eq_getElem?_getD, List.getElem?_take, if_pos (by omega)]
    · rw [if_neg h2, rep_get _ _ _ (by rw [ll]; exact Nat.mod_lt _ (Nat.mul_pos hc ht)), ll, Nat.mod_mul_right_mod]
      have hj : (d - (h.length + a)) % c.length < c.length := Nat.mod_lt _ hc
      have e : (d - h.length) % c.length = ((d - (h.length + a)) % c.length + a) % c.length := by
        rw [Nat.mod_add_mod]; congr 1; omega
      rw [e]
      generalize (d - (h.length + a)) % c.length = j at hj
      by_cases h3 : j < c.length - a
      · rw [getD_l _ _ (by rw [List.length_drop]; omega), Nat.mod_eq_of_lt (by omega)]
        rw [List.getD_eq_getElem?_getD, List.getD_eq_getElem?_getD, List.getElem?_drop, Nat.add_comm]
      · rw [getD_r _ _ (by rw [List.length_drop]; omega), List.length_drop, Nat.mod_eq_sub_mod (by omega), Nat.mod_eq_of_lt (by omega)]
        rw [List.getD_eq_getElem?_getD, List.getD_eq_getElem?_getD, List.getElem?_take, if_pos (by omega), show j - (c.length - a) = j + a - c.length by omega]

/-! ### draws of large numbers -/
theorem n_pow {a b : Nat} (h2 : b ≤ 1000000) (h3 : a < 18446744073709551616) : gPow (dI a) (dI b) = some (dI (a ^ b)) := by
  refine (ev_pow (by omega) (by omega) (by omega)).trans ?_
  rw [Int.toNat_natCast, ← Int.natCast_pow]
theorem tkB {n : Nat} {S : LSt} {b : Nat} (h : Gd (b + 1) S) (hn : 0 < n) (hn2 : n < 1000000000000000000000000000000000000000000000000000000000000) : ∃ (v : Nat) (S' : LSt), m__law_take [dI n] (.st S) = some (.p (dI v), .st S') ∧ v < n ∧ Gd b S' := by
  obtain ⟨v, S', t, h1, h2, g⟩ := e_take (n : Int) S b h (by omega) (by omega)
  refine ⟨v.toNat, S', ?_, by omega, g⟩
  have e : ((v.toNat : Nat) : Int) = v := by omega
  show _ = some (Sl.p (D.int ((v.toNat : Nat) : Int)), Sl.st S')
  rw [t, e]
theorem flt_none {β : Type} (L : List β) : L.filter (fun _ => false) = [] := List.filter_eq_nil_iff.mpr fun _ _ z => by cases z
theorem flt_all {β : Type} (L : List β) : L.filter (fun _ => true) = L := List.filter_eq_self.mpr fun _ _ => rfl
theorem ev_addL (a b : List D) (h : a.length + b.length ≤ 16000000) : gAdd (.lst a) (.lst b) = some (.lst (a ++ b)) := if_pos h

/-! ### place_of, nth, last_to, is_finite -/
theorem n_mulR {a b : Nat} (h : b < 1000000000000) : gMul (dI a) (dI b) = some (dI (a * b)) := (ev_mul (.inr (by omega))).trans (by rw [← Int.natCast_mul])
theorem rank_inj {f : Nat → Bool} {a b : Nat} (ha : f a = true) (hb : f b = true) (h : rank f a = rank f b) : a = b := by
  rcases Nat.lt_trichotomy a b with l | l | l
  · have h1 := rank_mono f (show a + 1 ≤ b by omega)
    rw [rank_succ, if_pos ha] at h1; omega
  · exact l
  · have h1 := rank_mono f (show b + 1 ≤ a by omega)
    rw [rank_succ, if_pos hb] at h1; omega
theorem rank_full (x : Nat) {k : Nat} (h : PD.blen x ≤ k) : rank x.testBit k = (plc x).length := by
  show ((List.range k).filter x.testBit).length = ((List.range (PD.blen x)).filter x.testBit).length
  rw [filter_ext (k := PD.blen x) (fun i hi => PD.blen_high hi) k h]
theorem e_placeof (x n : Nat) (hx : x < 2 ^ 10000000) (hn : n < (plc x).length) : ∃ t, mirD m_place_of [dI x, dI n] = some (dI t) ∧ x.testBit t = true ∧ rank x.testBit t = n := by
  have x0 : 0 < x := by
    rcases Nat.eq_zero_or_pos x with rfl | h
    · exact absurd hn (by show ¬ n < 0; omega)
    · exact h
  have bl := PD.blen_le hx
  have e1 : dCall gLen (dCons (dFmtB (dV 0)) dNil) [pI x, pI n, .emp, .emp, .emp] = .ok (dI (PD.blen x)) [pI x, pI n, .emp, .emp, .emp] := e_len x (by omega) (by omega) rfl
  have key : ∃ d, mirD m_place_of [dI x, dI n] = some d ∧ ∃ t, d = dI t ∧ x.testBit t = true ∧ rank x.testBit t = n := by
    refine wm_of ?_
    unfold b_place_of
    simp only [mkEnv, List.map_cons, List.map_nil, List.cons_append, List.nil_append, List.length_cons, List.length_nil, Nat.reduceAdd, Nat.reduceSub, List.replicate_succ, List.replicate_zero, List.take_succ_cons, List.take_zero, List.drop_succ_cons, List.drop_zero]
    (repeat (first | (with_reducible refine PV.wp.ok e1 ?_) | ((with_reducible apply PV.w_var); exact rfl) | ((with_reducible apply PV.w_callS); exact rfl) | ((with_reducible apply PV.w_aug); exact rfl) | ((with_reducible apply PV.w_appM); exact rfl) | ((with_reducible apply PV.w_frz); exact rfl) | ((with_reducible apply PV.w_frzP); exact rfl) | ((with_reducible apply PV.w_appL); exact rfl) | ((with_reducible apply PV.k_set); simp only [List.set_cons_zero, List.set_cons_succ]; exact rfl) | ((with_reducible apply PV.k_pick); simp only [PV.pick, List.nil_append, List.cons_append, List.append_nil, List.filterMap_cons, List.filterMap_nil, List.getElem?_cons_zero, List.getElem?_cons_succ]; exact rfl) | ((with_reducible apply PV.k_env); (try (simp only [PV.tgT, PV.tgN, PV.tgsN, List.length_cons, List.length_nil, Nat.reduceAdd, ↓reduceIte, List.set_cons_zero, List.set_cons_succ, Option.some.injEq])); exact rfl) | (with_reducible apply PV.w_nat) | (with_reducible apply PV.w_con) | (with_reducible apply PV.w_op) | (with_reducible apply PV.w_un) | (with_reducible apply PV.w_unF) | (with_reducible apply PV.w_cons) | (with_reducible apply PV.w_nil) | (with_reducible apply PV.w_star) | (with_reducible apply PV.w_seq) | (with_reducible apply PV.w_call) | (with_reducible apply PV.w_callF0) | (with_reducible apply PV.w_callK) | (with_reducible apply PV.w_app) | (with_reducible apply PV.w_cmeth) | (with_reducible apply PV.w_meth) | (with_reducible apply PV.w_prop) | (with_reducible apply PV.w_fld) | (with_reducible apply PV.w_if) | (with_reducible apply PV.w_andV) | (with_reducible apply PV.w_orV) | (with_reducible apply PV.w_notV) | (with_reducible apply PV.w_tst) | (with_reducible apply PV.w_tru) | (with_reducible apply PV.w_truO) | (with_reducible apply PV.w_notO) | (with_reducible apply PV.w_boolO) | (with_reducible apply PV.w_and) | (with_reducible apply PV.w_or) | (with_reducible apply PV.w_not) | (with_reducible apply PV.w_yes) | (with_reducible apply PV.w_chain) | (with_reducible apply PV.w_no) | (with_reducible apply PV.w_part) | (with_reducible apply PV.w_sl) | (with_reducible apply PV.w_slS) | (with_reducible apply PV.w_iLst) | (with_reducible apply PV.w_iTup) | (with_reducible apply PV.w_iEnL) | (with_reducible apply PV.w_iCall) | (with_reducible apply PV.w_next) | (with_reducible apply PV.w_bk) | (with_reducible apply PV.w_ct) | (with_reducible apply PV.w_sSeq) | (with_reducible apply PV.w_ret) | (with_reducible apply PV.w_retN) | (with_reducible apply PV.w_set) | (with_reducible apply PV.w_drop) | (with_reducible apply PV.w_sIf) | (with_reducible apply PV.w_asg) | (with_reducible apply PV.w_par) | (with_reducible apply PV.w_setM) | (with_reducible apply PV.w_setF) | (with_reducible apply PV.k_bl) | (with_reducible apply PV.k_int) | (with_reducible apply PV.k_tup) | (with_reducible apply PV.k_obj) | ((with_reducible apply PV.k_add); first | exact n_add _ _ | exact ev_add _ _) | ((with_reducible apply PV.k_sub); first | exact n_sub (by omega) | exact ev_sub _ _) | ((with_reducible apply PV.k_mul); first | exact n_mul (by omega) | exact ev_mul (by omega)) | ((with_reducible apply PV.k_div); first | exact n_div (by omega) (by omega) | exact ev_divL (by omega) (by omega)) | ((with_reducible apply PV.k_mod); first | exact n_mod (by omega) | exact ev_mod (by omega)) | ((with_reducible apply PV.k_cmp); first | exact n_lt _ _ | exact n_le _ _ | exact n_gt _ _ | exact ev_cmp _ _ _) | ((with_reducible apply PV.k_eq); first | exact n_eq _ _ | exact n_ne _ _ | exact ev_eq _ _ | exact ev_ne _ _ | exact ev_eqB _ _ | exact ev_neB _ _) | ((with_reducible apply PV.k_min); first | exact n_min _ _ | exact ev_min _ _) | ((with_reducible apply PV.k_max); first | exact n_max _ _ | exact ev_max _ _) | ((with_reducible apply PV.k_abs); first | exact ev_abs _) | ((with_reducible apply PV.k_gint); first | exact ev_int _ | exact ev_intB _) | ((with_reducible apply PV.k_neg); exact rfl) | ((with_reducible apply PV.k_ml); exact rfl) | ((with_reducible apply PV.k_ix); exact rfl) | ((with_reducible apply PV.k_len); exact rfl) | ((with_reducible apply PV.k_is); exact rfl) | ((with_reducible apply PV.k_fld); exact rfl) | ((with_reducible apply PV.k_lst); exact rfl) | ((with_reducible apply PV.k_tru); exact rfl) | ((with_reducible apply PV.k_st); exact rfl) | ((with_reducible apply PV.b_f); exact rfl) | ((with_reducible apply PV.b_t); exact rfl) | ((with_reducible apply PV.b_f); first | exact decide_eq_false (by omega) | exact nt_f (by omega)) | ((with_reducible apply PV.b_t); first | exact decide_eq_true (by omega) | exact nt_t (by omega)) | (refine PV.k_and ⟨rfl, rfl⟩ ?_) | (refine PV.k_and (by decide) ?_) | (refine PV.k_and (Nat.le_of_ble_eq_true rfl) ?_) | (refine PV.k_and rfl ?_)))
    refine PV.w_while (fun m δ => ∃ lo hi z, δ = [pI x, pI n, pI lo, pI hi, z] ∧ m = hi - lo ∧ lo < hi ∧ hi ≤ PD.blen x ∧ rank x.testBit lo ≤ n ∧ n < rank x.testBit hi) (PD.blen x) ⟨0, PD.blen x, _, rfl, rfl, (PD.blen_top (by omega)).1, Nat.le_refl _, by rw [rank_zero]; omega, by rw [rank_full x (Nat.le_refl _)]; exact hn⟩ fun m δ ⟨lo, hi, z, e, em, h1, h2, h3, h4⟩ => ?_
    subst e
    unfold t_place_of_1
    (repeat (first | ((with_reducible apply PV.w_var); exact rfl) | ((with_reducible apply PV.w_callS); exact rfl) | ((with_reducible apply PV.w_aug); exact rfl) | ((with_reducible apply PV.w_appM); exact rfl) | ((with_reducible apply PV.w_frz); exact rfl) | ((with_reducible apply PV.w_frzP); exact rfl) | ((with_reducible apply PV.w_appL); exact rfl) | ((with_reducible apply PV.k_set); simp only [List.set_cons_zero, List.set_cons_succ]; exact rfl) | ((with_reducible apply PV.k_pick); simp only [PV.pick, List.nil_append, List.cons_append, List.append_nil, List.filterMap_cons, List.filterMap_nil, List.getElem?_cons_zero, List.getElem?_cons_succ]; exact rfl) | ((with_reducible apply PV.k_env); (try (simp only [PV.tgT, PV.tgN, PV.tgsN, List.length_cons, List.length_nil, Nat.reduceAdd, ↓reduceIte, List.set_cons_zero, List.set_cons_succ, Option.some.injEq])); exact rfl) | (with_reducible apply PV.w_nat) | (with_reducible apply PV.w_con) | (with_reducible apply PV.w_op) | (with_reducible apply PV.w_un) | (with_reducible apply PV.w_unF) | (with_reducible apply PV.w_cons) | (with_reducible apply PV.w_nil) | (with_reducible apply PV.w_star) | (with_reducible apply PV.w_seq) | (with_reducible apply PV.w_call) | (with_reducible apply PV.w_callF0) | (with_reducible apply PV.w_callK) | (with_reducible apply PV.w_app) | (with_reducible apply PV.w_cmeth) | (with_reducible apply PV.w_meth) | (with_reducible apply PV.w_prop) | (with_reducible apply PV.w_fld) | (with_reducible apply PV.w_if) | (with_reducible apply PV.w_andV) | (with_reducible apply PV.w_orV) | (with_reducible apply PV.w_notV) | (with_reducible apply PV.w_tst) | (with_reducible apply PV.w_tru) | (with_reducible apply PV.w_truO) | (with_reducible apply PV.w_notO) | (with_reducible apply PV.w_boolO) | (with_reducible apply PV.w_and) | (with_reducible apply PV.w_or) | (with_reducible apply PV.w_not) | (with_reducible apply PV.w_yes) | (with_reducible apply PV.w_chain) | (with_reducible apply PV.w_no) | (with_reducible apply PV.w_part) | (with_reducible apply PV.w_sl) | (with_reducible apply PV.w_slS) | (with_reducible apply PV.w_iLst) | (with_reducible apply PV.w_iTup) | (with_reducible apply PV.w_iEnL) | (with_reducible apply PV.w_iCall) | (with_reducible apply PV.w_next) | (with_reducible apply PV.w_bk) | (with_reducible apply PV.w_ct) | (with_reducible apply PV.w_sSeq) | (with_reducible apply PV.w_ret) | (with_reducible apply PV.w_retN) | (with_reducible apply PV.w_set) | (with_reducible apply PV.w_drop) | (with_reducible apply PV.w_sIf) | (with_reducible apply PV.w_asg) | (with_reducible apply PV.w_par) | (with_reducible apply PV.w_setM) | (with_reducible apply PV.w_setF) | (with_reducible apply PV.k_bl) | (with_reducible apply PV.k_int) | (with_reducible apply PV.k_tup) | (with_reducible apply PV.k_obj) | ((with_reducible apply PV.k_add); first | exact n_add _ _ | exact ev_add _ _) | ((with_reducible apply PV.k_sub); first | exact n_sub (by omega) | exact ev_sub _ _) | ((with_reducible apply PV.k_mul); first | exact n_mul (by omega) | exact ev_mul (by omega)) | ((with_reducible apply PV.k_div); first | exact n_div (by omega) (by omega) | exact ev_divL (by omega) (by omega)) | ((with_reducible apply PV.k_mod); first | exact n_mod (by omega) | exact ev_mod (by omega)) | ((with_reducible apply PV.k_cmp); first | exact n_lt _ _ | exact n_le _ _ | exact n_gt _ _ | exact ev_cmp _ _ _) | ((with_reducible apply PV.k_eq); first | exact n_eq _ _ | exact n_ne _ _ | exact ev_eq _ _ | exact ev_ne _ _ | exact ev_eqB _ _ | exact ev_neB _ _) | ((with_reducible apply PV.k_min); first | exact n_min _ _ | exact ev_min _ _) | ((with_reducible apply PV.k_max); first | exact n_max _ _ | exact ev_max _ _) | ((with_reducible apply PV.k_abs); first | exact ev_abs _) | ((with_reducible apply PV.k_gint); first | exact ev_int _ | exact ev_intB _) | ((with_reducible apply PV.k_neg); exact rfl) | ((with_reducible apply PV.k_ml); exact rfl) | ((with_reducible apply PV.k_ix); exact rfl) | ((with_reducible apply PV.k_len); exact rfl) | ((with_reducible apply PV.k_is); exact rfl) | ((with_reducible apply PV.k_fld); exact rfl) | ((with_reducible apply PV.k_lst); exact rfl) | ((with_reducible apply PV.k_tru); exact rfl) | ((with_reducible apply PV.k_st); exact rfl) | ((with_reducible apply PV.b_f); exact rfl) | ((with_reducible apply PV.b_t); exact rfl) | ((with_reducible apply PV.b_f); first | exact decide_eq_false (by omega) | exact nt_f (by omega)) | ((with_reducible apply PV.b_t); first | exact decide_eq_true (by omega) | exact nt_t (by omega)) | (refine PV.k_and ⟨rfl, rfl⟩ ?_) | (refine PV.k_and (by decide) ?_) | (refine PV.k_and (Nat.le_of_ble_eq_true rfl) ?_) | (refine PV.k_and rfl ?_)))
    refine ⟨fun hb => ?_, fun hb => ?_⟩
    · have hb := of_decide_eq_true hb
      unfold y_place_of_2
      have hm : (lo + hi) / 2 ≤ 10000000 := by omega
      have hlow : x &&& (2 ^ ((lo + hi) / 2) - 1) = PD.ofB ((lo + hi) / 2) x.testBit := Nat.eq_of_testBit_eq fun i => by
        rw [Nat.testBit_and, PD.bit_mask, PD.ofB_bit, Bool.and_comm]
      have ho : mirD m_ones [dI (x &&& (2 ^ ((lo + hi) / 2) - 1))] = some (dI (rank x.testBit ((lo + hi) / 2))) := by
        rw [hlow]
        refine (mD (e_onesN _ (Nat.lt_of_lt_of_le (PD.ofB_lt _ _) (Nat.pow_le_pow_right (by omega) hm)))).trans ?_
        rw [plc_rank]
      (repeat (first | (with_reducible refine ⟨_, mD (e_mask _ (by omega)), ?_⟩) | (with_reducible refine ⟨_, PD.g_and _ _, ?_⟩) | (with_reducible refine ⟨_, ho, ?_⟩) | ((with_reducible apply PV.w_var); exact rfl) | ((with_reducible apply PV.w_callS); exact rfl) | ((with_reducible apply PV.w_aug); exact rfl) | ((with_reducible apply PV.w_appM); exact rfl) | ((with_reducible apply PV.w_frz); exact rfl) | ((with_reducible apply PV.w_frzP); exact rfl) | ((with_reducible apply PV.w_appL); exact rfl) | ((with_reducible apply PV.k_set); simp only [List.set_cons_zero, List.set_cons_succ]; exact rfl) | ((with_reducible apply PV.k_pick); simp only [PV.pick, List.nil_append, List.cons_append, List.append_nil, List.filterMap_cons, List.filterMap_nil, List.getElem?_cons_zero, List.getElem?_cons_succ]; exact rfl) | ((with_reducible apply PV.k_env); (try (simp only [PV.tgT, PV.tgN, PV.tgsN, List.length_cons, List.length_nil, Nat.reduceAdd, ↓reduceIte, List.set_cons_zero, List.set_cons_succ, Option.some.injEq])); exact rfl) | (with_reducible apply PV.w_nat) | (with_reducible apply PV.w_con) | (with_reducible apply PV.w_op) | (with_reducible apply PV.w_un) | (with_reducible apply PV.w_unF) | (with_reducible apply PV.w_cons) | (with_reducible apply PV.w_nil) | (with_reducible apply PV.w_star) | (with_reducible apply PV.w_seq) | (with_reducible apply PV.w_call) | (with_reducible apply PV.w_callF0) | (with_reducible apply PV.w_callK) | (with_reducible apply PV.w_app) | (with_reducible apply PV.w_cmeth) | (with_reducible apply PV.w_meth) | (with_reducible apply PV.w_prop) | (with_reducible apply PV.w_fld) | (with_reducible apply PV.w_if) | (with_reducible apply PV.w_andV) | (with_reducible apply PV.w_orV) | (with_reducible apply PV.w_notV) | (with_reducible apply PV.w_tst) | (with_reducible apply PV.w_tru) | (with_reducible apply PV.w_truO) | (with_reducible apply PV.w_notO) | (with_reducible apply PV.w_boolO) | (with_reducible apply PV.w_and) | (with_reducible apply PV.w_or) | (with_reducible apply PV.w_not) | (with_reducible apply PV.w_yes) | (with_reducible apply PV.w_chain) | (with_reducible apply PV.w_no) | (with_reducible apply PV.w_part) | (with_reducible apply PV.w_sl) | (with_reducible apply PV.w_slS) | (with_reducible apply PV.w_iLst) | (with_reducible apply PV.w_iTup) | (with_reducible apply PV.w_iEnL) | (with_reducible apply PV.w_iCall) | (with_reducible apply PV.w_next) | (with_reducible apply PV.w_bk) | (with_reducible apply PV.w_ct) | (with_reducible apply PV.w_sSeq) | (with_reducible apply PV.w_ret) | (with_reducible apply PV.w_retN) | (with_reducible apply PV.w_set) | (with_reducible apply PV.w_drop) | (with_reducible apply PV.w_sIf) | (with_reducible apply PV.w_asg) | (with_reducible apply PV.w_par) | (with_reducible apply PV.w_setM) | (with_reducible apply PV.w_setF) | (with_reducible apply PV.k_bl) | (with_reducible apply PV.k_int) | (with_reducible apply PV.k_tup) | (with_reducible apply PV.k_obj) | ((with_reducible apply PV.k_add); first | exact n_add _ _ | exact ev_add _ _) | ((with_reducible apply PV.k_sub); first | exact n_sub (by omega) | exact ev_sub _ _) | ((with_reducible apply PV.k_mul); first | exact n_mul (by omega) | exact ev_mul (by omega)) | ((with_reducible apply PV.k_div); first | exact n_div (by omega) (by omega) | exact ev_divL (by omega) (by omega)) | ((with_reducible apply PV.k_mod); first | exact n_mod (by omega) | exact ev_mod (by omega)) | ((with_reducible apply PV.k_cmp); first | exact n_lt _ _ | exact n_le _ _ | exact n_gt _ _ | exact ev_cmp _ _ _) | ((with_reducible apply PV.k_eq); first | exact n_eq _ _ | exact n_ne _ _ | exact ev_eq _ _ | exact ev_ne _ _ | exact ev_eqB _ _ | exact ev_neB _ _) | ((with_reducible apply PV.k_min); first | exact n_min _ _ | exact ev_min _ _) | ((with_reducible apply PV.k_max); first | exact n_max _ _ | exact ev_max _ _) | ((with_reducible apply PV.k_abs); first | exact ev_abs _) | ((with_reducible apply PV.k_gint); first | exact ev_int _ | exact ev_intB _) | ((with_reducible apply PV.k_neg); exact rfl) | ((with_reducible apply PV.k_ml); exact rfl) | ((with_reducible apply PV.k_ix); exact rfl) | ((with_reducible apply PV.k_len); exact rfl) | ((with_reducible apply PV.k_is); exact rfl) | ((with_reducible apply PV.k_fld); exact rfl) | ((with_reducible apply PV.k_lst); exact rfl) | ((with_reducible apply PV.k_tru); exact rfl) | ((with_reducible apply PV.k_st); exact rfl) | ((with_reducible apply PV.b_f); exact rfl) | ((with_reducible apply PV.b_t); exact rfl) | ((with_reducible apply PV.b_f); first | exact decide_eq_false (by omega) | exact nt_f (by omega)) | ((with_reducible apply PV.b_t); first | exact decide_eq_true (by omega) | exact nt_t (by omega)) | (refine PV.k_and ⟨rfl, rfl⟩ ?_) | (refine PV.k_and (by decide) ?_) | (refine PV.k_and (Nat.le_of_ble_eq_true rfl) ?_) | (refine PV.k_and rfl ?_)))
      refine ⟨fun hc => ?_, fun hc => ?_⟩
      · have hc := of_decide_eq_true hc
        (repeat (first | ((with_reducible apply PV.w_var); exact rfl) | ((with_reducible apply PV.w_callS); exact rfl) | ((with_reducible apply PV.w_aug); exact rfl) | ((with_reducible apply PV.w_appM); exact rfl) | ((with_reducible apply PV.w_frz); exact rfl) | ((with_reducible apply PV.w_frzP); exact rfl) | ((with_reducible apply PV.w_appL); exact rfl) | ((with_reducible apply PV.k_set); simp only [List.set_cons_zero, List.set_cons_succ]; exact rfl) | ((with_reducible apply PV.k_pick); simp only [PV.pick, List.nil_append, List.cons_append, List.append_nil, List.filterMap_cons, List.filterMap_nil, List.getElem?_cons_zero, List.getElem?_cons_succ]; exact rfl) | ((with_reducible apply PV.k_env); (try (simp only [PV.tgT, PV.tgN, PV.tgsN, List.length_cons, List.length_nil, Nat.reduceAdd, ↓reduceIte, List.set_cons_zero, List.set_cons_succ, Option.some.injEq])); exact rfl) | (with_reducible apply PV.w_nat) | (with_reducible apply PV.w_con) | (with_reducible apply PV.w_op) | (with_reducible apply PV.w_un) | (with_reducible apply PV.w_unF) | (with_reducible apply PV.w_cons) | (with_reducible apply PV.w_nil) | (with_reducible apply PV.w_star) | (with_reducible apply PV.w_seq) | (with_reducible apply PV.w_call) | (with_reducible apply PV.w_callF0) | (with_reducible apply PV.w_callK) | (with_reducible apply PV.w_app) | (with_reducible apply PV.w_cmeth) | (with_reducible apply PV.w_meth) | (with_reducible apply PV.w_prop) | (with_reducible apply PV.w_fld) | (with_reducible apply PV.w_if) | (with_reducible apply PV.w_andV) | (with_reducible apply PV.w_orV) | (with_reducible apply PV.w_notV) | (with_reducible apply PV.w_tst) | (with_reducible apply PV.w_tru) | (with_reducible apply PV.w_truO) | (with_reducible apply PV.w_notO) | (with_reducible apply PV.w_boolO) | (with_reducible apply PV.w_and) | (with_reducible apply PV.w_or) | (with_reducible apply PV.w_not) | (with_reducible apply PV.w_yes) | (with_reducible apply PV.w_chain) | (with_reducible apply PV.w_no) | (with_reducible apply PV.w_part) | (with_reducible apply PV.w_sl) | (with_reducible apply PV.w_slS) | (with_reducible apply PV.w_iLst) | (with_reducible apply PV.w_iTup) | (with_reducible apply PV.w_iEnL) | (with_reducible apply PV.w_iCall) | (with_reducible apply PV.w_next) | (with_reducible apply PV.w_bk) | (with_reducible apply PV.w_ct) | (with_reducible apply PV.w_sSeq) | (with_reducible apply PV.w_ret) | (with_reducible apply PV.w_retN) | (with_reducible apply PV.w_set) | (with_reducible apply PV.w_drop) | (with_reducible apply PV.w_sIf) | (with_reducible apply PV.w_asg) | (with_reducible apply PV.w_par) | (with_reducible apply PV.w_setM) | (with_reducible apply PV.w_setF) | (with_reducible apply PV.k_bl) | (with_reducible apply PV.k_int) | (with_reducible apply PV.k_tup) | (with_reducible apply PV.k_obj) | ((with_reducible apply PV.k_add); first | exact n_add _ _ | exact ev_add _ _) | ((with_reducible apply PV.k_sub); first | exact n_sub (by omega) | exact ev_sub _ _) | ((with_reducible apply PV.k_mul); first | exact n_mul (by omega) | exact ev_mul (by omega)) | ((with_reducible apply PV.k_div); first | exact n_div (by omega) (by omega) | exact ev_divL (by omega) (by omega)) | ((with_reducible apply PV.k_mod); first | exact n_mod (by omega) | exact ev_mod (by omega)) | ((with_reducible apply PV.k_cmp); first | exact n_lt _ _ | exact n_le _ _ | exact n_gt _ _ | exact ev_cmp _ _ _) | ((with_reducible apply PV.k_eq); first | exact n_eq _ _ | exact n_ne _ _ | exact ev_eq _ _ | exact ev_ne _ _ | exact ev_eqB _ _ | exact ev_neB _ _) | ((with_reducible apply PV.k_min); first | exact n_min _ _ | exact ev_min _ _) | ((with_reducible apply PV.k_max); first | exact n_max _ _ | exact ev_max _ _) | ((with_reducible apply PV.k_abs); first | exact ev_abs _) | ((with_reducible apply PV.k_gint); first | exact ev_int _ | exact ev_intB _) | ((with_reducible apply PV.k_neg); exact rfl) | ((with_reducible apply PV.k_ml); exact rfl) | ((with_reducible apply PV.k_ix); exact rfl) | ((with_reducible apply PV.k_len); exact rfl) | ((with_reducible apply PV.k_is); exact rfl) | ((with_reducible apply PV.k_fld); exact rfl) | ((with_reducible apply PV.k_lst); exact rfl) | ((with_reducible apply PV.k_tru); exact rfl) | ((with_reducible apply PV.k_st); exact rfl) | ((with_reducible apply PV.b_f); exact rfl) | ((with_reducible apply PV.b_t); exact rfl) | ((with_reducible apply PV.b_f); first | exact decide_eq_false (by omega) | exact nt_f (by omega)) | ((with_reducible apply PV.b_t); first | exact decide_eq_true (by omega) | exact nt_t (by omega)) | (refine PV.k_and ⟨rfl, rfl⟩ ?_) | (refine PV.k_and (by decide) ?_) | (refine PV.k_and (Nat.le_of_ble_eq_true rfl) ?_) | (refine PV.k_and rfl ?_)))
        exact ⟨hi - (lo + hi) / 2, by omega, _, _, _, rfl, rfl, by omega, by omega, hc, h4⟩
      · have hc := of_decide_eq_false hc
        (repeat (first | ((with_reducible apply PV.w_var); exact rfl) | ((with_reducible apply PV.w_callS); exact rfl) | ((with_reducible apply PV.w_aug); exact rfl) | ((with_reducible apply PV.w_appM); exact rfl) | ((with_reducible apply PV.w_frz); exact rfl) | ((with_reducible apply PV.w_frzP); exact rfl) | ((with_reducible apply PV.w_appL); exact rfl) | ((with_reducible apply PV.k_set); simp only [List.set_cons_zero, List.set_cons_succ]; exact rfl) | ((with_reducible apply PV.k_pick); simp only [PV.pick, List.nil_append, List.cons_append, List.append_nil, List.filterMap_cons, List.filterMap_nil, List.getElem?_cons_zero, List.getElem?_cons_succ]; exact rfl) | ((with_reducible apply PV.k_env); (try (simp only [PV.tgT, PV.tgN, PV.tgsN, List.length_cons, List.length_nil, Nat.reduceAdd, ↓reduceIte, List.set_cons_zero, List.set_cons_succ, Option.some.injEq])); exact rfl) | (with_reducible apply PV.w_nat) | (with_reducible apply PV.w_con) | (with_reducible apply PV.w_op) | (with_reducible apply PV.w_un) | (with_reducible apply PV.w_unF) | (with_reducible apply PV.w_cons) | (with_reducible apply PV.w_nil) | (with_reducible apply PV.w_star) | (with_reducible apply PV.w_seq) | (with_reducible apply PV.w_call) | (with_reducible apply PV.w_callF0) | (with_reducible apply PV.w_callK) | (with_reducible apply PV.w_app) | (with_reducible apply PV.w_cmeth) | (with_reducible apply PV.w_meth) | (with_reducible apply PV.w_prop) | (with_reducible apply PV.w_fld) | (with_reducible apply PV.w_if) | (with_reducible apply PV.w_andV) | (with_reducible apply PV.w_orV) | (with_reducible apply PV.w_notV) | (with_reducible apply PV.w_tst) | (with_reducible apply PV.w_tru) | (with_reducible apply PV.w_truO) | (with_reducible apply PV.w_notO) | (with_reducible apply PV.w_boolO) | (with_reducible apply PV.w_and) | (with_reducible apply PV.w_or) | (with_reducible apply PV.w_not) | (with_reducible apply PV.w_yes) | (with_reducible apply PV.w_chain) | (with_reducible apply PV.w_no) | (with_reducible apply PV.w_part) | (with_reducible apply PV.w_sl) | (with_reducible apply PV.w_slS) | (with_reducible apply PV.w_iLst) | (with_reducible apply PV.w_iTup) | (with_reducible apply PV.w_iEnL) | (with_reducible apply PV.w_iCall) | (with_reducible apply PV.w_next) | (with_reducible apply PV.w_bk) | (with_reducible apply PV.w_ct) | (with_reducible apply PV.w_sSeq) | (with_reducible apply PV.w_ret) | (with_reducible apply PV.w_retN) | (with_reducible apply PV.w_set) | (with_reducible apply PV.w_drop) | (with_reducible apply PV.w_sIf) | (with_reducible apply PV.w_asg) | (with_reducible apply PV.w_par) | (with_reducible apply PV.w_setM) | (with_reducible apply PV.w_setF) | (with_reducible apply PV.k_bl) | (with_reducible apply PV.k_int) | (with_reducible apply PV.k_tup) | (with_reducible apply PV.k_obj) | ((with_reducible apply PV.k_add); first | exact n_add _ _ | exact ev_add _ _) | ((with_reducible apply PV.k_sub); first | exact n_sub (by omega) | exact ev_sub _ _) | ((with_reducible apply PV.k_mul); first | exact n_mul (by omega) | exact ev_mul (by omega)) | ((with_reducible apply PV.k_div); first | exact n_div (by omega) (by omega) | exact ev_divL (by omega) (by omega)) | ((with_reducible apply PV.k_mod); first | exact n_mod (by omega) | exact ev_mod (by omega)) | ((with_reducible apply PV.k_cmp); first | exact n_lt _ _ | exact n_le _ _ | exact n_gt _ _ | exact ev_cmp _ _ _) | ((with_reducible apply PV.k_eq); first | exact n_eq _ _ | exact n_ne _ _ | exact ev_eq _ _ | exact ev_ne _ _ | exact ev_eqB _ _ | exact ev_neB _ _) | ((with_reducible apply PV.k_min); first | exact n_min _ _ | exact ev_min _ _) | ((with_reducible apply PV.k_max); first | exact n_max _ _ | exact ev_max _ _) | ((with_reducible apply PV.k_abs); first | exact ev_abs _) | ((with_reducible apply PV.k_gint); first | exact ev_int _ | exact ev_intB _) | ((with_reducible apply PV.k_neg); exact rfl) | ((with_reducible apply PV.k_ml); exact rfl) | ((with_reducible apply PV.k_ix); exact rfl) | ((with_reducible apply PV.k_len); exact rfl) | ((with_reducible apply PV.k_is); exact rfl) | ((with_reducible apply PV.k_fld); exact rfl) | ((with_reducible apply PV.k_lst); exact rfl) | ((with_reducible apply PV.k_tru); exact rfl) | ((with_reducible apply PV.k_st); exact rfl) | ((with_reducible apply PV.b_f); exact rfl) | ((with_reducible apply PV.b_t); exact rfl) | ((with_reducible apply PV.b_f); first | exact decide_eq_false (by omega) | exact nt_f (by omega)) | ((with_reducible apply PV.b_t); first | exact decide_eq_true (by omega) | exact nt_t (by omega)) | (refine PV.k_and ⟨rfl, rfl⟩ ?_) | (refine PV.k_and (by decide) ?_) | (refine PV.k_and (Nat.le_of_ble_eq_true rfl) ?_) | (refine PV.k_and rfl ?_)))
        exact ⟨(lo + hi) / 2 - lo, by omega, _, _, _, rfl, rfl, by omega, by omega, h3, by omega⟩
    · have hb := of_decide_eq_false hb
      have : hi = lo + 1 := by omega
      subst this
      rw [rank_succ] at h4
      (repeat (first | ((with_reducible apply PV.w_var); exact rfl) | ((with_reducible apply PV.w_callS); exact rfl) | ((with_reducible apply PV.w_aug); exact rfl) | ((with_reducible apply PV.w_appM); exact rfl) | ((with_reducible apply PV.w_frz); exact rfl) | ((with_reducible apply PV.w_frzP); exact rfl) | ((with_reducible apply PV.w_appL); exact rfl) | ((with_reducible apply PV.k_set); simp only [List.set_cons_zero, List.set_cons_succ]; exact rfl) | ((with_reducible apply PV.k_pick); simp only [PV.pick, List.nil_append, List.cons_append, List.append_nil, List.filterMap_cons, List.filterMap_nil, List.getElem?_cons_zero, List.getElem?_cons_succ]; exact rfl) | ((with_reducible apply PV.k_env); (try (simp only [PV.tgT, PV.tgN, PV.tgsN, List.length_cons, List.length_nil, Nat.reduceAdd, ↓reduceIte, List.set_cons_zero, List.set_cons_succ, Option.some.injEq])); exact rfl) | (with_reducible apply PV.w_nat) | (with_reducible apply PV.w_con) | (with_reducible apply PV.w_op) | (with_reducible apply PV.w_un) | (with_reducible apply PV.w_unF) | (with_reducible apply PV.w_cons) | (with_reducible apply PV.w_nil) | (with_reducible apply PV.w_star) | (with_reducible apply PV.w_seq) | (with_reducible apply PV.w_call) | (with_reducible apply PV.w_callF0) | (with_reducible apply PV.w_callK) | (with_reducible apply PV.w_app) | (with_reducible apply PV.w_cmeth) | (with_reducible apply PV.w_meth) | (with_reducible apply PV.w_prop) | (with_reducible apply PV.w_fld) | (with_reducible apply PV.w_if) | (with_reducible apply PV.w_andV) | (with_reducible apply PV.w_orV) | (with_reducible apply PV.w_notV) | (with_reducible apply PV.w_tst) | (with_reducible apply PV.w_tru) | (with_reducible apply PV.w_truO) | (with_reducible apply PV.w_notO) | (with_reducible apply PV.w_boolO) | (with_reducible apply PV.w_and) | (with_reducible apply PV.w_or) | (with_reducible apply PV.w_not) | (with_reducible apply PV.w_yes) | (with_reducible apply PV.w_chain) | (with_reducible apply PV.w_no) | (with_reducible apply PV.w_part) | (with_reducible apply PV.w_sl) | (with_reducible apply PV.w_slS) | (with_reducible apply PV.w_iLst) | (with_reducible apply PV.w_iTup) | (with_reducible apply PV.w_iEnL) | (with_reducible apply PV.w_iCall) | (with_reducible apply PV.w_next) | (with_reducible apply PV.w_bk) | (with_reducible apply PV.w_ct) | (with_reducible apply PV.w_sSeq) | (with_reducible apply PV.w_ret) | (with_reducible apply PV.w_retN) | (with_reducible apply PV.w_set) | (with_reducible apply PV.w_drop) | (with_reducible apply PV.w_sIf) | (with_reducible apply PV.w_asg) | (with_reducible apply PV.w_par) | (with_reducible apply PV.w_setM) | (with_reducible apply PV.w_setF) | (with_reducible apply PV.k_bl) | (with_reducible apply PV.k_int) | (with_reducible apply PV.k_tup) | (with_reducible apply PV.k_obj) | ((with_reducible apply PV.k_add); first | exact n_add _ _ | exact ev_add _ _) | ((with_reducible apply PV.k_sub); first | exact n_sub (by omega) | exact ev_sub _ _) | ((with_reducible apply PV.k_mul); first | exact n_mul (by omega) | exact ev_mul (by omega)) | ((with_reducible apply PV.k_div); first | exact n_div (by omega) (by omega) | exact ev_divL (by omega) (by omega)) | ((with_reducible apply PV.k_mod); first | exact n_mod (by omega) | exact ev_mod (by omega)) | ((with_reducible apply PV.k_cmp); first | exact n_lt _ _ | exact n_le _ _ | exact n_gt _ _ | exact ev_cmp _ _ _) | ((with_reducible apply PV.k_eq); first | exact n_eq _ _ | exact n_ne _ _ | exact ev_eq _ _ | exact ev_ne _ _ | exact ev_eqB _ _ | exact ev_neB _ _) | ((with_reducible apply PV.k_min); first | exact n_min _ _ | exact ev_min _ _) | ((with_reducible apply PV.k_max); first | exact n_max _ _ | exact ev_max _ _) | ((with_reducible apply PV.k_abs); first | exact ev_abs _) | ((with_reducible apply PV.k_gint); first | exact ev_int _ | exact ev_intB _) | ((with_reducible apply PV.k_neg); exact rfl) | ((with_reducible apply PV.k_ml); exact rfl) | ((with_reducible apply PV.k_ix); exact rfl) | ((with_reducible apply PV.k_len); exact rfl) | ((with_reducible apply PV.k_is); exact rfl) | ((with_reducible apply PV.k_fld); exact rfl) | ((with_reducible apply PV.k_lst); exact rfl) | ((with_reducible apply PV.k_tru); exact rfl) | ((with_reducible apply PV.k_st); exact rfl) | ((with_reducible apply PV.b_f); exact rfl) | ((with_reducible apply PV.b_t); exact rfl) | ((with_reducible apply PV.b_f); first | exact decide_eq_false (by omega) | exact nt_f (by omega)) | ((with_reducible apply PV.b_t); first | exact decide_eq_true (by omega) | exact nt_t (by omega)) | (refine PV.k_and ⟨rfl, rfl⟩ ?_) | (refine PV.k_and (by decide) ?_) | (refine PV.k_and (Nat.le_of_ble_eq_true rfl) ?_) | (refine PV.k_and rfl ?_)))
      refine ⟨lo, rfl, ?_, ?_⟩
      · cases q : x.testBit lo with
        | true => rfl
        | false => rw [q] at h4; simp at h4; omega
      · split at h4 <;> omega
  obtain ⟨_, e, t, rfl, h⟩ := key
  exact ⟨t, e, h⟩
theorem rank_bits {F : PD.Fm} (w : F.Wf) (d : Nat) (h : d ≤ F.s) : rank F.mem d = rank F.h.testBit d := rank_congr fun i hi => by
  show (if i < F.s then F.h.testBit i else _) = _
  rw [if_pos (by omega)]
/-- a day and its number -/
theorem e_nth {f : Nat → Bool} {F : PD.Fm} (cF' : PD.Can f F) (sF : Sml F) (d : Nat) (hd : f d = true) : mirD m_DaySet_nth [oD F, dI (rank f d)] = some (dI d) := by
  have w := cF'.wf
  obtain rfl := cF'.eq
  have hs := sF.1
  have hp := sF.2
  have pz := w.p
  have hh : F.h < 2 ^ 10000000 := Nat.lt_of_lt_of_le w.h (Nat.pow_le_pow_right (by omega) (by omega))
  have hc : F.c < 2 ^ 10000000 := Nat.lt_of_lt_of_le w.c (Nat.pow_le_pow_right (by omega) (by omega))
  have r1 : rank F.mem F.s = (plc F.h).length := by rw [rank_bits w _ (Nat.le_refl _), rank_full _ (PD.blen_le w.h)]
  have n2 := mD (e_need2 (rank F.mem d) 0 (by omega))
  have o1 := mD (e_onesN F.h hh)
  have o2 := mD (e_onesN F.c hc)
  by_cases h : d < F.s
  · have hlt : rank F.mem d < (plc F.h).length := by
      have h1 := rank_mono F.mem (show d + 1 ≤ F.s by omega)
      rw [rank_succ, if_pos hd, r1] at h1; omega
    obtain ⟨t, qt, ht, et⟩ := e_placeof F.h (rank F.mem d) hh hlt
    have hts : t < F.s := by
      by_cases z : t < F.s
      · exact z
      · rw [PD.bit_high w.h (by omega)] at ht; cases ht
    have htf : F.mem t = true := by
      show (if t < F.s then F.h.testBit t else _) = true
      rw [if_pos hts]; exact ht
    have := rank_inj htf hd (by rw [rank_bits w t (by omega)]; exact et)
    subst this
    refine wm_eq ?_
    unfold b_DaySet_nth
    simp only [mkEnv, List.map_cons, List.map_nil, List.cons_append, List.nil_append, List.length_cons, List.length_nil, Nat.reduceAdd, Nat.reduceSub, List.replicate_succ, List.replicate_zero, List.take_succ_cons, List.take_zero, List.drop_succ_cons, List.drop_zero]
    (repeat (first | (with_reducible refine ⟨_, n2, ?_⟩) | (with_reducible refine ⟨_, o1, ?_⟩) | (with_reducible refine ⟨_, qt, ?_⟩) | ((with_reducible apply PV.w_var); exact rfl) | ((with_reducible apply PV.w_callS); exact rfl) | ((with_reducible apply PV.w_aug); exact rfl) | ((with_reducible apply PV.w_appM); exact rfl) | ((with_reducible apply PV.w_frz); exact rfl) | ((with_reducible apply PV.w_frzP); exact rfl) | ((with_reducible apply PV.w_appL); exact rfl) | ((with_reducible apply PV.k_set); simp only [List.set_cons_zero, List.set_cons_succ]; exact rfl) | ((with_reducible apply PV.k_pick); simp only [PV.pick, List.nil_append, List.cons_append, List.append_nil, List.filterMap_cons, List.filterMap_nil, List.getElem?_cons_zero, List.getElem?_cons_succ]; exact rfl) | ((with_reducible apply PV.k_env); (try (simp only [PV.tgT, PV.tgN, PV.tgsN, List.length_cons, List.length_nil, Nat.reduceAdd, ↓reduceIte, List.set_cons_zero, List.set_cons_succ, Option.some.injEq])); exact rfl) | (with_reducible apply PV.w_nat) | (with_reducible apply PV.w_con) | (with_reducible apply PV.w_op) | (with_reducible apply PV.w_un) | (with_reducible apply PV.w_unF) | (with_reducible apply PV.w_cons) | (with_reducible apply PV.w_nil) | (with_reducible apply PV.w_star) | (with_reducible apply PV.w_seq) | (with_reducible apply PV.w_call) | (with_reducible apply PV.w_callF0) | (with_reducible apply PV.w_callK) | (with_reducible apply PV.w_app) | (with_reducible apply PV.w_cmeth) | (with_reducible apply PV.w_meth) | (with_reducible apply PV.w_prop) | (with_reducible apply PV.w_fld) | (with_reducible apply PV.w_if) | (with_reducible apply PV.w_andV) | (with_reducible apply PV.w_orV) | (with_reducible apply PV.w_notV) | (with_reducible apply PV.w_tst) | (with_reducible apply PV.w_tru) | (with_reducible apply PV.w_truO) | (with_reducible apply PV.w_notO) | (with_reducible apply PV.w_boolO) | (with_reducible apply PV.w_and) | (with_reducible apply PV.w_or) | (with_reducible apply PV.w_not) | (with_reducible apply PV.w_yes) | (with_reducible apply PV.w_chain) | (with_reducible apply PV.w_no) | (with_reducible apply PV.w_part) | (with_reducible apply PV.w_sl) | (with_reducible apply PV.w_slS) | (with_reducible apply PV.w_iLst) | (with_reducible apply PV.w_iTup) | (with_reducible apply PV.w_iEnL) | (with_reducible apply PV.w_iCall) | (with_reducible apply PV.w_next) | (with_reducible apply PV.w_bk) | (with_reducible apply PV.w_ct) | (with_reducible apply PV.w_sSeq) | (with_reducible apply PV.w_ret) | (with_reducible apply PV.w_retN) | (with_reducible apply PV.w_set) | (with_reducible apply PV.w_drop) | (with_reducible apply PV.w_sIf) | (with_reducible apply PV.w_asg) | (with_reducible apply PV.w_par) | (with_reducible apply PV.w_setM) | (with_reducible apply PV.w_setF) | (with_reducible apply PV.k_bl) | (with_reducible apply PV.k_int) | (with_reducible apply PV.k_tup) | (with_reducible apply PV.k_obj) | ((with_reducible apply PV.k_add); first | exact n_add _ _ | exact ev_add _ _) | ((with_reducible apply PV.k_sub); first | exact n_sub (by omega) | exact ev_sub _ _) | ((with_reducible apply PV.k_mul); first | exact n_mul (by omega) | exact ev_mul (by omega)) | ((with_reducible apply PV.k_div); first | exact n_div (by omega) (by omega) | exact ev_divL (by omega) (by omega)) | ((with_reducible apply PV.k_mod); first | exact n_mod (by omega) | exact ev_mod (by omega)) | ((with_reducible apply PV.k_cmp); first | exact n_lt _ _ | exact n_le _ _ | exact n_gt _ _ | exact ev_cmp _ _ _) | ((with_reducible apply PV.k_eq); first | exact n_eq _ _ | exact n_ne _ _ | exact ev_eq _ _ | exact ev_ne _ _ | exact ev_eqB _ _ | exact ev_neB _ _) | ((with_reducible apply PV.k_min); first | exact n_min _ _ | exact ev_min _ _) | ((with_reducible apply PV.k_max); first | exact n_max _ _ | exact ev_max _ _) | ((with_reducible apply PV.k_abs); first | exact ev_abs _) | ((with_reducible apply PV.k_gint); first | exact ev_int _ | exact ev_intB _) | ((with_reducible apply PV.k_neg); exact rfl) | ((with_reducible apply PV.k_ml); exact rfl) | ((with_reducible apply PV.k_ix); exact rfl) | ((with_reducible apply PV.k_len); exact rfl) | ((with_reducible apply PV.k_is); exact rfl) | ((with_reducible apply PV.k_fld); exact rfl) | ((with_reducible apply PV.k_lst); exact rfl) | ((with_reducible apply PV.k_tru); exact rfl) | ((with_reducible apply PV.k_st); exact rfl) | ((with_reducible apply PV.b_f); exact rfl) | ((with_reducible apply PV.b_t); exact rfl) | ((with_reducible apply PV.b_f); first | exact decide_eq_false (by omega) | exact nt_f (by omega)) | ((with_reducible apply PV.b_t); first | exact decide_eq_true (by omega) | exact nt_t (by omega)) | (refine PV.k_and ⟨rfl, rfl⟩ ?_) | (refine PV.k_and (by decide) ?_) | (refine PV.k_and (Nat.le_of_ble_eq_true rfl) ?_) | (refine PV.k_and rfl ?_)))
    rfl
  · have cy : PD.Per (fun i => F.mem (F.s + i)) F.p := ep_per w.ep
    have rc : rank (fun i => F.mem (F.s + i)) F.p = (plc F.c).length := by
      rw [← rank_full F.c (PD.blen_le w.c)]
      exact rank_congr fun i hi => by
        show (if F.s + i < F.s then _ else F.c.testBit ((F.s + i - F.s) % F.p)) = _
        rw [if_neg (by omega), show F.s + i - F.s = i by omega, Nat.mod_eq_of_lt hi]
    have dv := Nat.div_add_mod (d - F.s) F.p
    have ml := Nat.mod_lt (d - F.s) pz
    have rd : rank F.mem d = (plc F.h).length + ((d - F.s) / F.p * (plc F.c).length + rank (fun i => F.mem (F.s + i)) ((d - F.s) % F.p)) := by
      have h1 := rank_add F.mem F.s (d - F.s)
      rw [show F.s + (d - F.s) = d by omega, r1] at h1
      rw [h1, ← rc]
      congr 1
      have h2 := rank_per cy ((d - F.s) / F.p) ((d - F.s) % F.p)
      rw [Nat.mul_comm, dv] at h2
      exact h2
    have hdm : F.mem (F.s + (d - F.s) % F.p) = true := by rw [PD.EP.mod w.ep (by omega)]; exact hd
    have lt2 : rank (fun i => F.mem (F.s + i)) ((d - F.s) % F.p) < (plc F.c).length := by
      have h1 := rank_mono (fun i => F.mem (F.s + i)) (show (d - F.s) % F.p + 1 ≤ F.p by omega)
      rw [rank_succ, if_pos hdm, rc] at h1; omega
    have qz : 0 < (plc F.c).length := by omega
    have ql : (plc F.c).length ≤ 2000 := Nat.le_trans (plc_len w.c) hp
    have c0 : ¬ F.c = 0 := fun z => by rw [z] at qz; exact absurd qz (by show ¬ 0 < 0; omega)
    have dq : (rank F.mem d - (plc F.h).length) / (plc F.c).length = (d - F.s) / F.p := by
      rw [rd, Nat.add_sub_cancel_left, Nat.mul_comm, Nat.mul_add_div qz, Nat.div_eq_of_lt lt2, Nat.add_zero]
    have mq : (rank F.mem d - (plc F.h).length) % (plc F.c).length = rank (fun i => F.mem (F.s + i)) ((d - F.s) % F.p) := by
      rw [rd, Nat.add_sub_cancel_left, Nat.mul_comm, Nat.mul_add_mod, Nat.mod_eq_of_lt lt2]
    obtain ⟨t, qt, ht, et⟩ := e_placeof F.c _ hc lt2
    have htp : t < F.p := by
      by_cases z : t < F.p
      · exact z
      · rw [PD.bit_high w.c (by omega)] at ht; cases ht
    have tE : ∀ i, i < F.p → F.mem (F.s + i) = F.c.testBit i := fun i hi => by
      show (if F.s + i < F.s then _ else F.c.testBit ((F.s + i - F.s) % F.p)) = _
      rw [if_neg (by omega), show F.s + i - F.s = i by omega, Nat.mod_eq_of_lt hi]
    have := rank_inj (f := fun i => F.mem (F.s + i)) (a := t) (b := (d - F.s) % F.p) (by rw [tE t htp]; exact ht) hdm (by rw [← et]; exact rank_congr fun i hi => tE i (by omega))
    refine wm_eq ?_
    unfold b_DaySet_nth
    simp only [mkEnv, List.map_cons, List.map_nil, List.cons_append, List.nil_append, List.length_cons, List.length_nil, Nat.reduceAdd, Nat.reduceSub, List.replicate_succ, List.replicate_zero, List.take_succ_cons, List.take_zero, List.drop_succ_cons, List.drop_zero]
    have q2 : mirD m_place_of [dI F.c, dI ((rank F.mem d - (plc F.h).length) % (plc F.c).length)] = some (dI t) := by rw [mq]; exact qt
    (repeat (first | (with_reducible refine ⟨_, n2, ?_⟩) | (with_reducible refine ⟨_, o1, ?_⟩) | (with_reducible refine ⟨_, o2, ?_⟩) | (with_reducible refine ⟨_, q2, ?_⟩) | (with_reducible refine ⟨_, n_mulR (by omega), ?_⟩) | ((with_reducible apply PV.w_var); exact rfl) | ((with_reducible apply PV.w_callS); exact rfl) | ((with_reducible apply PV.w_aug); exact rfl) | ((with_reducible apply PV.w_appM); exact rfl) | ((with_reducible apply PV.w_frz); exact rfl) | ((with_reducible apply PV.w_frzP); exact rfl) | ((with_reducible apply PV.w_appL); exact rfl) | ((with_reducible apply PV.k_set); simp only [List.set_cons_zero, List.set_cons_succ]; exact rfl) | ((with_reducible apply PV.k_pick); simp only [PV.pick, List.nil_append, List.cons_append, List.append_nil, List.filterMap_cons, List.filterMap_nil, List.getElem?_cons_zero, List.getElem?_cons_succ]; exact rfl) | ((with_reducible apply PV.k_env); (try (simp only [PV.tgT, PV.tgN, PV.tgsN, List.length_cons, List.length_nil, Nat.reduceAdd, ↓reduceIte, List.set_cons_zero, List.set_cons_succ, Option.some.injEq])); exact rfl) | (with_reducible apply PV.w_nat) | (with_reducible apply PV.w_con) | (with_reducible apply PV.w_op) | (with_reducible apply PV.w_un) | (with_reducible apply PV.w_unF) | (with_reducible apply PV.w_cons) | (with_reducible apply PV.w_nil) | (with_reducible apply PV.w_star) | (with_reducible apply PV.w_seq) | (with_reducible apply PV.w_call) | (with_reducible apply PV.w_callF0) | (with_reducible apply PV.w_callK) | (with_reducible apply PV.w_app) | (with_reducible apply PV.w_cmeth) | (with_reducible apply PV.w_meth) | (with_reducible apply PV.w_prop) | (with_reducible apply PV.w_fld) | (with_reducible apply PV.w_if) | (with_reducible apply PV.w_andV) | (with_reducible apply PV.w_orV) | (with_reducible apply PV.w_notV) | (with_reducible apply PV.w_tst) | (with_reducible apply PV.w_tru) | (with_reducible apply PV.w_truO) | (with_reducible apply PV.w_notO) | (with_reducible apply PV.w_boolO) | (with_reducible apply PV.w_and) | (with_reducible apply PV.w_or) | (with_reducible apply PV.w_not) | (with_reducible apply PV.w_yes) | (with_reducible apply PV.w_chain) | (with_reducible apply PV.w_no) | (with_reducible apply PV.w_part) | (with_reducible apply PV.w_sl) | (with_reducible apply PV.w_slS) | (with_reducible apply PV.w_iLst) | (with_reducible apply PV.w_iTup) | (with_reducible apply PV.w_iEnL) | (with_reducible apply PV.w_iCall) | (with_reducible apply PV.w_next) | (with_reducible apply PV.w_bk) | (with_reducible apply PV.w_ct) | (with_reducible apply PV.w_sSeq) | (with_reducible apply PV.w_ret) | (with_reducible apply PV.w_retN) | (with_reducible apply PV.w_set) | (with_reducible apply PV.w_drop) | (with_reducible apply PV.w_sIf) | (with_reducible apply PV.w_asg) | (with_reducible apply PV.w_par) | (with_reducible apply PV.w_setM) | (with_reducible apply PV.w_setF) | (with_reducible apply PV.k_bl) | (with_reducible apply PV.k_int) | (with_reducible apply PV.k_tup) | (with_reducible apply PV.k_obj) | ((with_reducible apply PV.k_add); first | exact n_add _ _ | exact ev_add _ _) | ((with_reducible apply PV.k_sub); first | exact n_sub (by omega) | exact ev_sub _ _) | ((with_reducible apply PV.k_mul); first | exact n_mul (by omega) | exact ev_mul (by omega)) | ((with_reducible apply PV.k_div); first | exact n_div (by omega) (by omega) | exact ev_divL (by omega) (by omega)) | ((with_reducible apply PV.k_mod); first | exact n_mod (by omega) | exact ev_mod (by omega)) | ((with_reducible apply PV.k_cmp); first | exact n_lt _ _ | exact n_le _ _ | exact n_gt _ _ | exact ev_cmp _ _ _) | ((with_reducible apply PV.k_eq); first | exact n_eq _ _ | exact n_ne _ _ | exact ev_eq _ _ | exact ev_ne _ _ | exact ev_eqB _ _ | exact ev_neB _ _) | ((with_reducible apply PV.k_min); first | exact n_min _ _ | exact ev_min _ _) | ((with_reducible apply PV.k_max); first | exact n_max _ _ | exact ev_max _ _) | ((with_reducible apply PV.k_abs); first | exact ev_abs _) | ((with_reducible apply PV.k_gint); first | exact ev_int _ | exact ev_intB _) | ((with_reducible apply PV.k_neg); exact rfl) | ((with_reducible apply PV.k_ml); exact rfl) | ((with_reducible apply PV.k_ix); exact rfl) | ((with_reducible apply PV.k_len); exact rfl) | ((with_reducible apply PV.k_is); exact rfl) | ((with_reducible apply PV.k_fld); exact rfl) | ((with_reducible apply PV.k_lst); exact rfl) | ((with_reducible apply PV.k_tru); exact rfl) | ((with_reducible apply PV.k_st); exact rfl) | ((with_reducible apply PV.b_f); exact rfl) | ((with_reducible apply PV.b_t); exact rfl) | ((with_reducible apply PV.b_f); first | exact decide_eq_false (by omega) | exact nt_f (by omega)) | ((with_reducible apply PV.b_t); first | exact decide_eq_true (by omega) | exact nt_t (by omega)) | (refine PV.k_and ⟨rfl, rfl⟩ ?_) | (refine PV.k_and (by decide) ?_) | (refine PV.k_and (Nat.le_of_ble_eq_true rfl) ?_) | (refine PV.k_and rfl ?_)))
    rw [dq, this]
    have : F.s + (d - F.s) / F.p * F.p + (d - F.s) % F.p = d := by rw [Nat.mul_comm]; omega
    rw [this]
theorem e_isfin (F : PD.Fm) : mirD m_DaySet_is_finite [oD F] = some (.bl (decide (F.c = 0))) := by
  refine wm_eq ?_
  unfold b_DaySet_is_finite
  simp only [mkEnv, List.map_cons, List.map_nil, List.cons_append, List.nil_append, List.length_cons, List.length_nil, Nat.reduceAdd, Nat.reduceSub, List.replicate_succ, List.replicate_zero, List.take_succ_cons, List.take_zero, List.drop_succ_cons, List.drop_zero]
  (repeat (first | ((with_reducible apply PV.w_var); exact rfl) | ((with_reducible apply PV.w_callS); exact rfl) | ((with_reducible apply PV.w_aug); exact rfl) | ((with_reducible apply PV.w_appM); exact rfl) | ((with_reducible apply PV.w_frz); exact rfl) | ((with_reducible apply PV.w_frzP); exact rfl) | ((with_reducible apply PV.w_appL); exact rfl) | ((with_reducible apply PV.k_set); simp only [List.set_cons_zero, List.set_cons_succ]; exact rfl) | ((with_reducible apply PV.k_pick); simp only [PV.pick, List.nil_append, List.cons_append, List.append_nil, List.filterMap_cons, List.filterMap_nil, List.getElem?_cons_zero, List.getElem?_cons_succ]; exact rfl) | ((with_reducible apply PV.k_env); (try (simp only [PV.tgT, PV.tgN, PV.tgsN, List.length_cons, List.length_nil, Nat.reduceAdd, ↓reduceIte, List.set_cons_zero, List.set_cons_succ, Option.some.injEq])); exact rfl) | (with_reducible apply PV.w_nat) | (with_reducible apply PV.w_con) | (with_reducible apply PV.w_op) | (with_reducible apply PV.w_un) | (with_reducible apply PV.w_unF) | (with_reducible apply PV.w_cons) | (with_reducible apply PV.w_nil) | (with_reducible apply PV.w_star) | (with_reducible apply PV.w_seq) | (with_reducible apply PV.w_call) | (with_reducible apply PV.w_callF0) | (with_reducible apply PV.w_callK) | (with_reducible apply PV.w_app) | (with_reducible apply PV.w_cmeth) | (with_reducible apply PV.w_meth) | (with_reducible apply PV.w_prop) | (with_reducible apply PV.w_fld) | (with_reducible apply PV.w_if) | (with_reducible apply PV.w_andV) | (with_reducible apply PV.w_orV) | (with_reducible apply PV.w_notV) | (with_reducible apply PV.w_tst) | (with_reducible apply PV.w_tru) | (with_reducible apply PV.w_truO) | (with_reducible apply PV.w_notO) | (with_reducible apply PV.w_boolO) | (with_reducible apply PV.w_and) | (with_reducible apply PV.w_or) | (with_reducible apply PV.w_not) | (with_reducible apply PV.w_yes) | (with_reducible apply PV.w_chain) | (with_reducible apply PV.w_no) | (with_reducible apply PV.w_part) | (with_reducible apply PV.w_sl) | (with_reducible apply PV.w_slS) | (with_reducible apply PV.w_iLst) | (with_reducible apply PV.w_iTup) | (with_reducible apply PV.w_iEnL) | (with_reducible apply PV.w_iCall) | (with_reducible apply PV.w_next) | (with_reducible apply PV.w_bk) | (with_reducible apply PV.w_ct) | (with_reducible apply PV.w_sSeq) | (with_reducible apply PV.w_ret) | (with_reducible apply PV.w_retN) | (with_reducible apply PV.w_set) | (with_reducible apply PV.w_drop) | (with_reducible apply PV.w_sIf) | (with_reducible apply PV.w_asg) | (with_reducible apply PV.w_par) | (with_reducible apply PV.w_setM) | (with_reducible apply PV.w_setF) | (with_reducible apply PV.k_bl) | (with_reducible apply PV.k_int) | (with_reducible apply PV.k_tup) | (with_reducible apply PV.k_obj) | ((with_reducible apply PV.k_add); first | exact n_add _ _ | exact ev_add _ _) | ((with_reducible apply PV.k_sub); first | exact n_sub (by omega) | exact ev_sub _ _) | ((with_reducible apply PV.k_mul); first | exact n_mul (by omega) | exact ev_mul (by omega)) | ((with_reducible apply PV.k_div); first | exact n_div (by omega) (by omega) | exact ev_divL (by omega) (by omega)) | ((with_reducible apply PV.k_mod); first | exact n_mod (by omega) | exact ev_mod (by omega)) | ((with_reducible apply PV.k_cmp); first | exact n_lt _ _ | exact n_le _ _ | exact n_gt _ _ | exact ev_cmp _ _ _) | ((with_reducible apply PV.k_eq); first | exact n_eq _ _ | exact n_ne _ _ | exact ev_eq _ _ | exact ev_ne _ _ | exact ev_eqB _ _ | exact ev_neB _ _) | ((with_reducible apply PV.k_min); first | exact n_min _ _ | exact ev_min _ _) | ((with_reducible apply PV.k_max); first | exact n_max _ _ | exact ev_max _ _) | ((with_reducible apply PV.k_abs); first | exact ev_abs _) | ((with_reducible apply PV.k_gint); first | exact ev_int _ | exact ev_intB _) | ((with_reducible apply PV.k_neg); exact rfl) | ((with_reducible apply PV.k_ml); exact rfl) | ((with_reducible apply PV.k_ix); exact rfl) | ((with_reducible apply PV.k_len); exact rfl) | ((with_reducible apply PV.k_is); exact rfl) | ((with_reducible apply PV.k_fld); exact rfl) | ((with_reducible apply PV.k_lst); exact rfl) | ((with_reducible apply PV.k_tru); exact rfl) | ((with_reducible apply PV.k_st); exact rfl) | ((with_reducible apply PV.b_f); exact rfl) | ((with_reducible apply PV.b_t); exact rfl) | ((with_reducible apply PV.b_f); first | exact decide_eq_false (by omega) | exact nt_f (by omega)) | ((with_reducible apply PV.b_t); first | exact decide_eq_true (by omega) | exact nt_t (by omega)) | (refine PV.k_and ⟨rfl, rfl⟩ ?_) | (refine PV.k_and (by decide) ?_) | (refine PV.k_and (Nat.le_of_ble_eq_true rfl) ?_) | (refine PV.k_and rfl ?_)))
  rfl
/-- what last_to says -/
def Lst (f : Nat → Bool) (g : Int) (r : D) : Prop := (r = .non ∧ ∀ d : Nat, (d : Int) ≤ g → f d = false) ∨ ∃ d : Nat, r = dI d ∧ (d : Int) ≤ g ∧ f d = true ∧ ∀ e : Nat, d < e → (e : Int) ≤ g → f e = false
theorem rank_last (f : Nat → Bool) : ∀ n, rank f n = 0 ∨ ∃ d, d < n ∧ f d = true ∧ rank f d = rank f n - 1 ∧ ∀ e, d < e → e < n → f e = false
  | 0 => .inl rfl
  | n + 1 => by
    rw [rank_succ]
    by_cases h : f n = true
    · rw [if_pos h]
      exact .inr ⟨n, by omega, h, by omega, fun e h1 h2 => by omega⟩
    · rw [if_neg h, Nat.add_zero]
      rcases rank_last f n with z | ⟨d, h1, h2, h3, h4⟩
      · exact .inl z
      · refine .inr ⟨d, by omega, h2, h3, fun e h5 h6 => ?_⟩
        by_cases z : e = n
        · subst z; simpa using h
        · exact h4 e h5 (by omega)
theorem rank_none {f : Nat → Bool} {n : Nat} (h : rank f n = 0) (d : Nat) (hd : d < n) : f d = false := by
  cases q : f d with
  | false => rfl
  | true =>
    have h1 := rank_mono f (show d + 1 ≤ n by omega)
    rw [rank_succ, if_pos q] at h1; omega
theorem e_last {f : Nat → Bool} {F : PD.Fm} (cF' : PD.Can f F) (sF : Sml F) (g : Int) : ∃ r, mirD m_DaySet_last_to [oD F, .int g] = some r ∧ Lst f g r := by
  have w := cF'.wf
  have em := cF'.eq
  have nd := mD (e_need g)
  have nb := mD (e_before w sF (g + 1))
  rw [em] at nb
  rcases rank_last f (g + 1).toNat with z | ⟨d, h1, h2, h3, h4⟩
  · refine ⟨.non, wm_eq ?_, .inl ⟨rfl, fun d hd => rank_none z d (by omega)⟩⟩
    rw [z] at nb
    unfold b_DaySet_last_to
    simp only [mkEnv, List.map_cons, List.map_nil, List.cons_append, List.nil_append, List.length_cons, List.length_nil, Nat.reduceAdd, Nat.reduceSub, List.replicate_succ, List.replicate_zero, List.take_succ_cons, List.take_zero, List.drop_succ_cons, List.drop_zero]
    (repeat (first | (with_reducible refine ⟨_, nd, ?_⟩) | (with_reducible refine ⟨_, nb, ?_⟩) | (refine ⟨_, nb, ?_⟩) | ((with_reducible apply PV.w_var); exact rfl) | ((with_reducible apply PV.w_callS); exact rfl) | ((with_reducible apply PV.w_aug); exact rfl) | ((with_reducible apply PV.w_appM); exact rfl) | ((with_reducible apply PV.w_frz); exact rfl) | ((with_reducible apply PV.w_frzP); exact rfl) | ((with_reducible apply PV.w_appL); exact rfl) | ((with_reducible apply PV.k_set); simp only [List.set_cons_zero, List.set_cons_succ]; exact rfl) | ((with_reducible apply PV.k_pick); simp only [PV.pick, List.nil_append, List.cons_append, List.append_nil, List.filterMap_cons, List.filterMap_nil, List.getElem?_cons_zero, List.getElem?_cons_succ]; exact rfl) | ((with_reducible apply PV.k_env); (try (simp only [PV.tgT, PV.tgN, PV.tgsN, List.length_cons, List.length_nil, Nat.reduceAdd, ↓reduceIte, List.set_cons_zero, List.set_cons_succ, Option.some.injEq])); exact rfl) | (with_reducible apply PV.w_nat) | (with_reducible apply PV.w_con) | (with_reducible apply PV.w_op) | (with_reducible apply PV.w_un) | (with_reducible apply PV.w_unF) | (with_reducible apply PV.w_cons) | (with_reducible apply PV.w_nil) | (with_reducible apply PV.w_star) | (with_reducible apply PV.w_seq) | (with_reducible apply PV.w_call) | (with_reducible apply PV.w_callF0) | (with_reducible apply PV.w_callK) | (with_reducible apply PV.w_app) | (with_reducible apply PV.w_cmeth) | (with_reducible apply PV.w_meth) | (with_reducible apply PV.w_prop) | (with_reducible apply PV.w_fld) | (with_reducible apply PV.w_if) | (with_reducible apply PV.w_andV) | (with_reducible apply PV.w_orV) | (with_reducible apply PV.w_notV) | (with_reducible apply PV.w_tst) | (with_reducible apply PV.w_tru) | (with_reducible apply PV.w_truO) | (with_reducible apply PV.w_notO) | (with_reducible apply PV.w_boolO) | (with_reducible apply PV.w_and) | (with_reducible apply PV.w_or) | (with_reducible apply PV.w_not) | (with_reducible apply PV.w_yes) | (with_reducible apply PV.w_chain) | (with_reducible apply PV.w_no) | (with_reducible apply PV.w_part) | (with_reducible apply PV.w_sl) | (with_reducible apply PV.w_slS) | (with_reducible apply PV.w_iLst) | (with_reducible apply PV.w_iTup) | (with_reducible apply PV.w_iEnL) | (with_reducible apply PV.w_iCall) | (with_reducible apply PV.w_next) | (with_reducible apply PV.w_bk) | (with_reducible apply PV.w_ct) | (with_reducible apply PV.w_sSeq) | (with_reducible apply PV.w_ret) | (with_reducible apply PV.w_retN) | (with_reducible apply PV.w_set) | (with_reducible apply PV.w_drop) | (with_reducible apply PV.w_sIf) | (with_reducible apply PV.w_asg) | (with_reducible apply PV.w_par) | (with_reducible apply PV.w_setM) | (with_reducible apply PV.w_setF) | (with_reducible apply PV.k_bl) | (with_reducible apply PV.k_int) | (with_reducible apply PV.k_tup) | (with_reducible apply PV.k_obj) | ((with_reducible apply PV.k_add); first | exact n_add _ _ | exact ev_add _ _) | ((with_reducible apply PV.k_sub); first | exact n_sub (by omega) | exact ev_sub _ _) | ((with_reducible apply PV.k_mul); first | exact n_mul (by omega) | exact ev_mul (by omega)) | ((with_reducible apply PV.k_div); first | exact n_div (by omega) (by omega) | exact ev_divL (by omega) (by omega)) | ((with_reducible apply PV.k_mod); first | exact n_mod (by omega) | exact ev_mod (by omega)) | ((with_reducible apply PV.k_cmp); first | exact n_lt _ _ | exact n_le _ _ | exact n_gt _ _ | exact ev_cmp _ _ _) | ((with_reducible apply PV.k_eq); first | exact n_eq _ _ | exact n_ne _ _ | exact ev_eq _ _ | exact ev_ne _ _ | exact ev_eqB _ _ | exact ev_neB _ _) | ((with_reducible apply PV.k_min); first | exact n_min _ _ | exact ev_min _ _) | ((with_reducible apply PV.k_max); first | exact n_max _ _ | exact ev_max _ _) | ((with_reducible apply PV.k_abs); first | exact ev_abs _) | ((with_reducible apply PV.k_gint); first | exact ev_int _ | exact ev_intB _) | ((with_reducible apply PV.k_neg); exact rfl) | ((with_reducible apply PV.k_ml); exact rfl) | ((with_reducible apply PV.k_ix); exact rfl) | ((with_reducible apply PV.k_len); exact rfl) | ((with_reducible apply PV.k_is); exact rfl) | ((with_reducible apply PV.k_fld); exact rfl) | ((with_reducible apply PV.k_lst); exact rfl) | ((with_reducible apply PV.k_tru); exact rfl) | ((with_reducible apply PV.k_st); exact rfl) | ((with_reducible apply PV.b_f); exact rfl) | ((with_reducible apply PV.b_t); exact rfl) | ((with_reducible apply PV.b_f); first | exact decide_eq_false (by omega) | exact nt_f (by omega)) | ((with_reducible apply PV.b_t); first | exact decide_eq_true (by omega) | exact nt_t (by omega)) | (refine PV.k_and ⟨rfl, rfl⟩ ?_) | (refine PV.k_and (by decide) ?_) | (refine PV.k_and (Nat.le_of_ble_eq_true rfl) ?_) | (refine PV.k_and rfl ?_)))
    rfl
  · have nt := e_nth cF' sF d h2
    have rp : 0 < rank f (g + 1).toNat := by
      have h5 := rank_mono f (show d + 1 ≤ (g + 1).toNat by omega)
      rw [rank_succ, if_pos h2] at h5; omega
    refine ⟨dI d, wm_eq ?_, .inr ⟨d, rfl, by omega, h2, fun e h5 h6 => h4 e h5 (by omega)⟩⟩
    rw [h3] at nt
    unfold b_DaySet_last_to
    simp only [mkEnv, List.map_cons, List.map_nil, List.cons_append, List.nil_append, List.length_cons, List.length_nil, Nat.reduceAdd, Nat.reduceSub, List.replicate_succ, List.replicate_zero, List.take_succ_cons, List.take_zero, List.drop_succ_cons, List.drop_zero]
    (repeat (first | (with_reducible refine ⟨_, nd, ?_⟩) | (with_reducible refine ⟨_, nb, ?_⟩) | (refine ⟨_, nb, ?_⟩) | (with_reducible refine ⟨_, nt, ?_⟩) | ((with_reducible apply PV.w_var); exact rfl) | ((with_reducible apply PV.w_callS); exact rfl) | ((with_reducible apply PV.w_aug); exact rfl) | ((with_reducible apply PV.w_appM); exact rfl) | ((with_reducible apply PV.w_frz); exact rfl) | ((with_reducible apply PV.w_frzP); exact rfl) | ((with_reducible apply PV.w_appL); exact rfl) | ((with_reducible apply PV.k_set); simp only [List.set_cons_zero, List.set_cons_succ]; exact rfl) | ((with_reducible apply PV.k_pick); simp only [PV.pick, List.nil_append, List.cons_append, List.append_nil, List.filterMap_cons, List.filterMap_nil, List.getElem?_cons_zero, List.getElem?_cons_succ]; exact rfl) | ((with_reducible apply PV.k_env); (try (simp only [PV.tgT, PV.tgN, PV.tgsN, List.length_cons, List.length_nil, Nat.reduceAdd, ↓reduceIte, List.set_cons_zero, List.set_cons_succ, Option.some.injEq])); exact rfl) | (with_reducible apply PV.w_nat) | (with_reducible apply PV.w_con) | (with_reducible apply PV.w_op) | (with_reducible apply PV.w_un) | (with_reducible apply PV.w_unF) | (with_reducible apply PV.w_cons) | (with_reducible apply PV.w_nil) | (with_reducible apply PV.w_star) | (with_reducible apply PV.w_seq) | (with_reducible apply PV.w_call) | (with_reducible apply PV.w_callF0) | (with_reducible apply PV.w_callK) | (with_reducible apply PV.w_app) | (with_reducible apply PV.w_cmeth) | (with_reducible apply PV.w_meth) | (with_reducible apply PV.w_prop) | (with_reducible apply PV.w_fld) | (with_reducible apply PV.w_if) | (with_reducible apply PV.w_andV) | (with_reducible apply PV.w_orV) | (with_reducible apply PV.w_notV) | (with_reducible apply PV.w_tst) | (with_reducible apply PV.w_tru) | (with_reducible apply PV.w_truO) | (with_reducible apply PV.w_notO) | (with_reducible apply PV.w_boolO) | (with_reducible apply PV.w_and) | (with_reducible apply PV.w_or) | (with_reducible apply PV.w_not) | (with_reducible apply PV.w_yes) | (with_reducible apply PV.w_chain) | (with_reducible apply PV.w_no) | (with_reducible apply PV.w_part) | (with_reducible apply PV.w_sl) | (with_reducible apply PV.w_slS) | (with_reducible apply PV.w_iLst) | (with_reducible apply PV.w_iTup) | (with_reducible apply PV.w_iEnL) | (with_reducible apply PV.w_iCall) | (with_reducible apply PV.w_next) | (with_reducible apply PV.w_bk) | (with_reducible apply PV.w_ct) | (with_reducible apply PV.w_sSeq) | (with_reducible apply PV.w_ret) | (with_reducible apply PV.w_retN) | (with_reducible apply PV.w_set) | (with_reducible apply PV.w_drop) | (with_reducible apply PV.w_sIf) | (with_reducible apply PV.w_asg) | (with_reducible apply PV.w_par) | (with_reducible apply PV.w_setM) | (with_reducible apply PV.w_setF) | (with_reducible apply PV.k_bl) | (with_reducible apply PV.k_int) | (with_reducible apply PV.k_tup) | (with_reducible apply PV.k_obj) | ((with_reducible apply PV.k_add); first | exact n_add _ _ | exact ev_add _ _) | ((with_reducible apply PV.k_sub); first | exact n_sub (by omega) | exact ev_sub _ _) | ((with_reducible apply PV.k_mul); first | exact n_mul (by omega) | exact ev_mul (by omega)) | ((with_reducible apply PV.k_div); first | exact n_div (by omega) (by omega) | exact ev_divL (by omega) (by omega)) | ((with_reducible apply PV.k_mod); first | exact n_mod (by omega) | exact ev_mod (by omega)) | ((with_reducible apply PV.k_cmp); first | exact n_lt _ _ | exact n_le _ _ | exact n_gt _ _ | exact ev_cmp _ _ _) | ((with_reducible apply PV.k_eq); first | exact n_eq _ _ | exact n_ne _ _ | exact ev_eq _ _ | exact ev_ne _ _ | exact ev_eqB _ _ | exact ev_neB _ _) | ((with_reducible apply PV.k_min); first | exact n_min _ _ | exact ev_min _ _) | ((with_reducible apply PV.k_max); first | exact n_max _ _ | exact ev_max _ _) | ((with_reducible apply PV.k_abs); first | exact ev_abs _) | ((with_reducible apply PV.k_gint); first | exact ev_int _ | exact ev_intB _) | ((with_reducible apply PV.k_neg); exact rfl) | ((with_reducible apply PV.k_ml); exact rfl) | ((with_reducible apply PV.k_ix); exact rfl) | ((with_reducible apply PV.k_len); exact rfl) | ((with_reducible apply PV.k_is); exact rfl) | ((with_reducible apply PV.k_fld); exact rfl) | ((with_reducible apply PV.k_lst); exact rfl) | ((with_reducible apply PV.k_tru); exact rfl) | ((with_reducible apply PV.k_st); exact rfl) | ((with_reducible apply PV.b_f); exact rfl) | ((with_reducible apply PV.b_t); exact rfl) | ((with_reducible apply PV.b_f); first | exact decide_eq_false (by omega) | exact nt_f (by omega)) | ((with_reducible apply PV.b_t); first | exact decide_eq_true (by omega) | exact nt_t (by omega)) | (refine PV.k_and ⟨rfl, rfl⟩ ?_) | (refine PV.k_and (by decide) ?_) | (refine PV.k_and (Nat.le_of_ble_eq_true rfl) ?_) | (refine PV.k_and rfl ?_)))
    rfl

/-! ### ranks of combinations -/
theorem rank_oa (f g : Nat → Bool) : ∀ n, rank (fun d => f d || g d) n + rank (fun d => f d && g d) n = rank f n + rank g n
  | 0 => rfl
  | n + 1 => by
    have := rank_oa f g n
    rw [rank_succ, rank_succ, rank_succ, rank_succ]
    cases f n <;> cases g n <;> simp <;> omega
theorem rank_sa (f g : Nat → Bool) : ∀ n, rank (fun d => f d && !g d) n + rank (fun d => f d && g d) n = rank f n
  | 0 => rfl
  | n + 1 => by
    have := rank_sa f g n
    rw [rank_succ, rank_succ, rank_succ]
    cases f n <;> cases g n <;> simp <;> omega
theorem rank_xa (f g : Nat → Bool) : ∀ n, rank (fun d => f d != g d) n + rank (fun d => f d && g d) n = rank (fun d => f d || g d) n
  | 0 => rfl
  | n + 1 => by
    have := rank_xa f g n
    rw [rank_succ, rank_succ, rank_succ]
    cases f n <;> cases g n <;> simp <;> omega
theorem rank_nt (f : Nat → Bool) : ∀ n, rank f n + rank (fun d => !f d) n = n
  | 0 => rfl
  | n + 1 => by
    have := rank_nt f n
    rw [rank_succ, rank_succ]
    cases f n <;> simp <;> omega
theorem rank_gap {f : Nat → Bool} {a b : Nat} (hab : a ≤ b) (h : ∀ e, a ≤ e → e < b → f e = false) : rank f b = rank f a := by
  obtain ⟨k, rfl⟩ : ∃ k, b = a + k := ⟨b - a, by omega⟩
  clear hab
  induction k with
  | zero => rfl
  | succ k ih =>
    rw [show a + (k + 1) = a + k + 1 by omega, rank_succ, ih fun e h1 h2 => h e h1 (by omega), h (a + k) (by omega) (by omega)]
    rfl
theorem rank_hit (f : Nat → Bool) (n : Nat) : ∀ N, n < rank f N → ∃ d, d < N ∧ f d = true ∧ rank f d = n
  | 0, h => absurd h (by rw [rank_zero]; omega)
  | N + 1, h => by
    by_cases q : n < rank f N
    · obtain ⟨d, h1, h2⟩ := rank_hit f n N q
      exact ⟨d, by omega, h2⟩
    · rw [rank_succ] at h
      by_cases z : f N = true
      · rw [if_pos z] at h
        exact ⟨N, by omega, z, by omega⟩
      · rw [if_neg z] at h; omega
theorem rank_inf {f : Nat → Bool} {F : PD.Fm} (c : PD.Can f F) (h : F.c ≠ 0) (n : Nat) : ∃ d, f d = true ∧ rank f d = n := by
  have w := c.wf
  obtain rfl := c.eq
  have pz := w.p
  obtain ⟨i, hi⟩ : ∃ i, F.c.testBit i = true := by
    refine Classical.byContradiction fun q => h (Nat.eq_of_testBit_eq fun i => ?_)
    rw [Nat.zero_testBit]
    cases z : F.c.testBit i with
    | false => rfl
    | true => exact absurd ⟨i, z⟩ q
  have hip : i < F.p := by
    by_cases z : i < F.p
    · exact z
    · rw [PD.bit_high w.c (by omega)] at hi; cases hi
  have cy : PD.Per (fun i => F.mem (F.s + i)) F.p := ep_per w.ep
  have hm : F.mem (F.s + i) = true := by
    show (if F.s + i < F.s then _ else F.c.testBit ((F.s + i - F.s) % F.p)) = _
    rw [if_neg (by omega), show F.s + i - F.s = i by omega, Nat.mod_eq_of_lt hip]; exact hi
  have h1 : 1 ≤ rank (fun i => F.mem (F.s + i)) F.p := by
    have := rank_mono (fun i => F.mem (F.s + i)) (show i + 1 ≤ F.p by omega)
    rw [rank_succ, if_pos hm] at this; omega
  have h2 : n < rank F.mem (F.s + ((n + 1) * F.p + 0)) := by
    have a := rank_add F.mem F.s ((n + 1) * F.p + 0)
    have b := rank_per cy (n + 1) 0
    have := Nat.mul_le_mul_left (n + 1) h1
    omega
  obtain ⟨d, _, h3⟩ := rank_hit F.mem n _ h2
  exact ⟨d, h3⟩
theorem e_manyN {f : Nat → Bool} {F : PD.Fm} (c : PD.Can f F) (sF : Sml F) (a b : Nat) : mirD m_DaySet_how_many [oD F, dI a, dI b] = some (dI (rank f b - rank f a)) := e_many c sF (a : Int) (b : Int)
theorem e_many0 {f : Nat → Bool} {F : PD.Fm} (c : PD.Can f F) (sF : Sml F) (b : Nat) : mirD m_DaySet_how_many [oD F, dI 0, dI b] = some (dI (rank f b)) := (e_manyN c sF 0 b).trans (by rw [rank_zero, Nat.sub_zero])
theorem g_nin {f : Nat → Bool} {F : PD.Fm} (c : PD.Can f F) (n : Nat) : gIn true "DaySet" (mirD m_DaySet___contains__) (dI n) (oD F) = some (.bl (!f n)) := by
  have h := g_in c n
  unfold gIn at h ⊢
  dsimp only at h ⊢
  rw [if_pos rfl] at h ⊢
  cases q : mirD m_DaySet___contains__ [oD F, dI n] with
  | none => rw [q] at h; cases h
  | some d =>
    rw [q] at h
    cases d with
    | bl b => cases h; rfl
    | _ => cases h

/-! ### k10 -/
theorem e_sums {S P : Nat} (sm : Small S P) {A B : PD.Fm} {f g : Nat → Bool} (eA : PD.EP f S P) (cA : PD.Can f A) (eB : PD.EP g S P) (cB : PD.Can g B) (b e : Nat) (h : b ≤ e) : mirD m__law_sums_right [oD A, oD B, dI b, dI e] = some (.bl true) := by
  have sA := sml_of sm eA cA
  have sB := sml_of sm eB cB
  obtain ⟨R1, q1, c1⟩ := e_and cA cB sA sB
  obtain ⟨R2, q2, c2⟩ := e_or cA cB sA sB
  obtain ⟨R3, q3, c3⟩ := e_sub cA cB sA sB
  obtain ⟨R4, q4, c4⟩ := e_xor cA cB sA sB
  obtain ⟨R5, q5, c5⟩ := e_inv cA sA
  have m0 := e_manyN cA sA b e
  have n0 := e_manyN cB sB b e
  have m1 := e_manyN c1 (sml_of sm (PD.EP.op (fun a b => a && b) eA eB) c1) b e
  have m2 := e_manyN c2 (sml_of sm (PD.EP.op (fun a b => a || b) eA eB) c2) b e
  have m3 := e_manyN c3 (sml_of sm (PD.EP.op (fun a b => a && !b) eA eB) c3) b e
  have m4 := e_manyN c4 (sml_of sm (PD.EP.op (fun a b => a != b) eA eB) c4) b e
  have m5 := e_manyN c5 (sml_of sm (PD.EP.not eA) c5) b e
  have l0 := rank_mono f h
  have l1 := rank_mono g h
  have l2 := rank_mono (fun d => f d && g d) h
  have l3 := rank_mono (fun d => f d || g d) h
  have l4 := rank_mono (fun d => f d && !g d) h
  have l5 := rank_mono (fun d => f d != g d) h
  have l6 := rank_mono (fun d => !f d) h
  have a1 := rank_oa f g b
  have a2 := rank_oa f g e
  have a3 := rank_sa f g b
  have a4 := rank_sa f g e
  have a5 := rank_xa f g b
  have a6 := rank_xa f g e
  have a7 := rank_nt f b
  have a8 := rank_nt f e
  refine wm_eq ?_
  unfold b__law_sums_right
  simp only [mkEnv, List.map_cons, List.map_nil, List.cons_append, List.nil_append, List.length_cons, List.length_nil, Nat.reduceAdd, Nat.reduceSub, List.replicate_succ, List.replicate_zero, List.take_succ_cons, List.take_zero, List.drop_succ_cons, List.drop_zero]
  (repeat (first | (with_reducible refine ⟨_, m0, ?_⟩) | (with_reducible refine ⟨_, n0, ?_⟩) | (with_reducible refine ⟨_, m1, ?_⟩) | (with_reducible refine ⟨_, m2, ?_⟩) | (with_reducible refine ⟨_, m3, ?_⟩) | (with_reducible refine ⟨_, m4, ?_⟩) | (with_reducible refine ⟨_, m5, ?_⟩) | (with_reducible refine ⟨_, g2 q1, ?_⟩) | (with_reducible refine ⟨_, g2 q2, ?_⟩) | (with_reducible refine ⟨_, g2 q3, ?_⟩) | (with_reducible refine ⟨_, g2 q4, ?_⟩) | (with_reducible refine ⟨_, g1 q5, ?_⟩) | ((with_reducible apply PV.w_var); exact rfl) | ((with_reducible apply PV.w_callS); exact rfl) | ((with_reducible apply PV.w_aug); exact rfl) | ((with_reducible apply PV.w_appM); exact rfl) | ((with_reducible apply PV.w_frz); exact rfl) | ((with_reducible apply PV.w_frzP); exact rfl) | ((with_reducible apply PV.w_appL); exact rfl) | ((with_reducible apply PV.k_set); simp only [List.set_cons_zero, List.set_cons_succ]; exact rfl) | ((with_reducible apply PV.k_pick); simp only [PV.pick, List.nil_append, List.cons_append, List.append_nil, List.filterMap_cons, List.filterMap_nil, List.getElem?_cons_zero, List.getElem?_cons_succ]; exact rfl) | ((with_reducible apply PV.k_env); (try (simp only [PV.tgT, PV.tgN, PV.tgsN, List.length_cons, List.length_nil, Nat.reduceAdd, ↓reduceIte, List.set_cons_zero, List.set_cons_succ, Option.some.injEq])); exact rfl) | (with_reducible apply PV.w_nat) | (with_reducible apply PV.w_con) | (with_reducible apply PV.w_op) | (with_reducible apply PV.w_un) | (with_reducible apply PV.w_unF) | (with_reducible apply PV.w_cons) | (with_reducible apply PV.w_nil) | (with_reducible apply PV.w_star) | (with_reducible apply PV.w_seq) | (with_reducible apply PV.w_call) | (with_reducible apply PV.w_callF0) | (with_reducible apply PV.w_callK) | (with_reducible apply PV.w_app) | (with_reducible apply PV.w_cmeth) | (with_reducible apply PV.w_meth) | (with_reducible apply PV.w_prop) | (with_reducible apply PV.w_fld) | (with_reducible apply PV.w_if) | (with_reducible apply PV.w_andV) | (with_reducible apply PV.w_orV) | (with_reducible apply PV.w_notV) | (with_reducible apply PV.w_tst) | (with_reducible apply PV.w_tru) | (with_reducible apply PV.w_truO) | (with_reducible apply PV.w_notO) | (with_reducible apply PV.w_boolO) | (with_reducible apply PV.w_and) | (with_reducible apply PV.w_or) | (with_reducible apply PV.w_not) | (with_reducible apply PV.w_yes) | (with_reducible apply PV.w_chain) | (with_reducible apply PV.w_no) | (with_reducible apply PV.w_part) | (with_reducible apply PV.w_sl) | (with_reducible apply PV.w_slS) | (with_reducible apply PV.w_iLst) | (with_reducible apply PV.w_iTup) | (with_reducible apply PV.w_iEnL) | (with_reducible apply PV.w_iCall) | (with_reducible apply PV.w_next) | (with_reducible apply PV.w_bk) | (with_reducible apply PV.w_ct) | (with_reducible apply PV.w_sSeq) | (with_reducible apply PV.w_ret) | (with_reducible apply PV.w_retN) | (with_reducible apply PV.w_set) | (with_reducible apply PV.w_drop) | (with_reducible apply PV.w_sIf) | (with_reducible apply PV.w_asg) | (with_reducible apply PV.w_par) | (with_reducible apply PV.w_setM) | (with_reducible apply PV.w_setF) | (with_reducible apply PV.k_bl) | (with_reducible apply PV.k_int) | (with_reducible apply PV.k_tup) | (with_reducible apply PV.k_obj) | ((with_reducible apply PV.k_add); first | exact n_add _ _ | exact ev_add _ _) | ((with_reducible apply PV.k_sub); first | exact n_sub (by omega) | exact ev_sub _ _) | ((with_reducible apply PV.k_mul); first | exact n_mul (by omega) | exact ev_mul (by omega)) | ((with_reducible apply PV.k_div); first | exact n_div (by omega) (by omega) | exact ev_divL (by omega) (by omega)) | ((with_reducible apply PV.k_mod); first | exact n_mod (by omega) | exact ev_mod (by omega)) | ((with_reducible apply PV.k_cmp); first | exact n_lt _ _ | exact n_le _ _ | exact n_gt _ _ | exact ev_cmp _ _ _) | ((with_reducible apply PV.k_eq); first | exact n_eq _ _ | exact n_ne _ _ | exact ev_eq _ _ | exact ev_ne _ _ | exact ev_eqB _ _ | exact ev_neB _ _) | ((with_reducible apply PV.k_min); first | exact n_min _ _ | exact ev_min _ _) | ((with_reducible apply PV.k_max); first | exact n_max _ _ | exact ev_max _ _) | ((with_reducible apply PV.k_abs); first | exact ev_abs _) | ((with_reducible apply PV.k_gint); first | exact ev_int _ | exact ev_intB _) | ((with_reducible apply PV.k_neg); exact rfl) | ((with_reducible apply PV.k_ml); exact rfl) | ((with_reducible apply PV.k_ix); exact rfl) | ((with_reducible apply PV.k_len); exact rfl) | ((with_reducible apply PV.k_is); exact rfl) | ((with_reducible apply PV.k_fld); exact rfl) | ((with_reducible apply PV.k_lst); exact rfl) | ((with_reducible apply PV.k_tru); exact rfl) | ((with_reducible apply PV.k_st); exact rfl) | ((with_reducible apply PV.b_f); exact rfl) | ((with_reducible apply PV.b_t); exact rfl) | ((with_reducible apply PV.b_f); first | exact decide_eq_false (by omega) | exact nt_f (by omega)) | ((with_reducible apply PV.b_t); first | exact decide_eq_true (by omega) | exact nt_t (by omega)) | (refine PV.k_and ⟨rfl, rfl⟩ ?_) | (refine PV.k_and (by decide) ?_) | (refine PV.k_and (Nat.le_of_ble_eq_true rfl) ?_) | (refine PV.k_and rfl ?_)))
  exact congrArg D.bl (decide_eq_true (by omega))
theorem e_back {f : Nat → Bool} {A : PD.Fm} (cA : PD.Can f A) (sA : Sml A) (day n : Nat) : mirD m__law_back_right [oD A, dI day, dI n] = some (.bl true) := by
  have m0 := e_many0 cA sA
  obtain ⟨r, qr, nr⟩ := e_next cA sA (day : Int)
  have hfin := e_isfin A
  have nt := fun d hd => e_nth cA sA d hd
  refine wm_eq ?_
  unfold b__law_back_right
  simp only [mkEnv, List.map_cons, List.map_nil, List.cons_append, List.nil_append, List.length_cons, List.length_nil, Nat.reduceAdd, Nat.reduceSub, List.replicate_succ, List.replicate_zero, List.take_succ_cons, List.take_zero, List.drop_succ_cons, List.drop_zero]
  (repeat (first | (with_reducible refine ⟨_, m0 _, ?_⟩) | (with_reducible refine ⟨_, qr, ?_⟩) | ((with_reducible apply PV.w_var); exact rfl) | ((with_reducible apply PV.w_callS); exact rfl) | ((with_reducible apply PV.w_aug); exact rfl) | ((with_reducible apply PV.w_appM); exact rfl) | ((with_reducible apply PV.w_frz); exact rfl) | ((with_reducible apply PV.w_frzP); exact rfl) | ((with_reducible apply PV.w_appL); exact rfl) | ((with_reducible apply PV.k_set); simp only [List.set_cons_zero, List.set_cons_succ]; exact rfl) | ((with_reducible apply PV.k_pick); simp only [PV.pick, List.nil_append, List.cons_append, List.append_nil, List.filterMap_cons, List.filterMap_nil, List.getElem?_cons_zero, List.getElem?_cons_succ]; exact rfl) | ((with_reducible apply PV.k_env); (try (simp only [PV.tgT, PV.tgN, PV.tgsN, List.length_cons, List.length_nil, Nat.reduceAdd, ↓reduceIte, List.set_cons_zero, List.set_cons_succ, Option.some.injEq])); exact rfl) | (with_reducible apply PV.w_nat) | (with_reducible apply PV.w_con) | (with_reducible apply PV.w_op) | (with_reducible apply PV.w_un) | (with_reducible apply PV.w_unF) | (with_reducible apply PV.w_cons) | (with_reducible apply PV.w_nil) | (with_reducible apply PV.w_star) | (with_reducible apply PV.w_seq) | (with_reducible apply PV.w_call) | (with_reducible apply PV.w_callF0) | (with_reducible apply PV.w_callK) | (with_reducible apply PV.w_app) | (with_reducible apply PV.w_cmeth) | (with_reducible apply PV.w_meth) | (with_reducible apply PV.w_prop) | (with_reducible apply PV.w_fld) | (with_reducible apply PV.w_if) | (with_reducible apply PV.w_andV) | (with_reducible apply PV.w_orV) | (with_reducible apply PV.w_notV) | (with_reducible apply PV.w_tst) | (with_reducible apply PV.w_tru) | (with_reducible apply PV.w_truO) | (with_reducible apply PV.w_notO) | (with_reducible apply PV.w_boolO) | (with_reducible apply PV.w_and) | (with_reducible apply PV.w_or) | (with_reducible apply PV.w_not) | (with_reducible apply PV.w_yes) | (with_reducible apply PV.w_chain) | (with_reducible apply PV.w_no) | (with_reducible apply PV.w_part) | (with_reducible apply PV.w_sl) | (with_reducible apply PV.w_slS) | (with_reducible apply PV.w_iLst) | (with_reducible apply PV.w_iTup) | (with_reducible apply PV.w_iEnL) | (with_reducible apply PV.w_iCall) | (with_reducible apply PV.w_next) | (with_reducible apply PV.w_bk) | (with_reducible apply PV.w_ct) | (with_reducible apply PV.w_sSeq) | (with_reducible apply PV.w_ret) | (with_reducible apply PV.w_retN) | (with_reducible apply PV.w_set) | (with_reducible apply PV.w_drop) | (with_reducible apply PV.w_asg) | (with_reducible apply PV.w_par) | (with_reducible apply PV.w_setM) | (with_reducible apply PV.w_setF) | (with_reducible apply PV.k_bl) | (with_reducible apply PV.k_int) | (with_reducible apply PV.k_tup) | (with_reducible apply PV.k_obj) | ((with_reducible apply PV.k_add); first | exact n_add _ _ | exact ev_add _ _) | ((with_reducible apply PV.k_sub); first | exact n_sub (by omega) | exact ev_sub _ _) | ((with_reducible apply PV.k_mul); first | exact n_mul (by omega) | exact ev_mul (by omega)) | ((with_reducible apply PV.k_div); first | exact n_div (by omega) (by omega) | exact ev_divL (by omega) (by omega)) | ((with_reducible apply PV.k_mod); first | exact n_mod (by omega) | exact ev_mod (by omega)) | ((with_reducible apply PV.k_cmp); first | exact n_lt _ _ | exact n_le _ _ | exact n_gt _ _ | exact ev_cmp _ _ _) | ((with_reducible apply PV.k_eq); first | exact n_eq _ _ | exact n_ne _ _ | exact ev_eq _ _ | exact ev_ne _ _ | exact ev_eqB _ _ | exact ev_neB _ _) | ((with_reducible apply PV.k_min); first | exact n_min _ _ | exact ev_min _ _) | ((with_reducible apply PV.k_max); first | exact n_max _ _ | exact ev_max _ _) | ((with_reducible apply PV.k_abs); first | exact ev_abs _) | ((with_reducible apply PV.k_gint); first | exact ev_int _ | exact ev_intB _) | ((with_reducible apply PV.k_neg); exact rfl) | ((with_reducible apply PV.k_ml); exact rfl) | ((with_reducible apply PV.k_ix); exact rfl) | ((with_reducible apply PV.k_len); exact rfl) | ((with_reducible apply PV.k_is); exact rfl) | ((with_reducible apply PV.k_fld); exact rfl) | ((with_reducible apply PV.k_lst); exact rfl) | ((with_reducible apply PV.k_tru); exact rfl) | ((with_reducible apply PV.k_st); exact rfl) | ((with_reducible apply PV.b_f); exact rfl) | ((with_reducible apply PV.b_t); exact rfl) | ((with_reducible apply PV.b_f); first | exact decide_eq_false (by omega) | exact nt_f (by omega)) | ((with_reducible apply PV.b_t); first | exact decide_eq_true (by omega) | exact nt_t (by omega)) | (refine PV.k_and ⟨rfl, rfl⟩ ?_) | (refine PV.k_and (by decide) ?_) | (refine PV.k_and (Nat.le_of_ble_eq_true rfl) ?_) | (refine PV.k_and rfl ?_)))
  refine PV.w_mid (fun δ => δ = [.p (oD A), pI day, pI n, pI (rank f day), .p r, .emp, .emp]) ?_ fun δ e => ?_
  · (repeat (first | ((with_reducible apply PV.w_var); exact rfl) | ((with_reducible apply PV.w_callS); exact rfl) | ((with_reducible apply PV.w_aug); exact rfl) | ((with_reducible apply PV.w_appM); exact rfl) | ((with_reducible apply PV.w_frz); exact rfl) | ((with_reducible apply PV.w_frzP); exact rfl) | ((with_reducible apply PV.w_appL); exact rfl) | ((with_reducible apply PV.k_set); simp only [List.set_cons_zero, List.set_cons_succ]; exact rfl) | ((with_reducible apply PV.k_pick); simp only [PV.pick, List.nil_append, List.cons_append, List.append_nil, List.filterMap_cons, List.filterMap_nil, List.getElem?_cons_zero, List.getElem?_cons_succ]; exact rfl) | ((with_reducible apply PV.k_env); (try (simp only [PV.tgT, PV.tgN, PV.tgsN, List.length_cons, List.length_nil, Nat.reduceAdd, ↓reduceIte, List.set_cons_zero, List.set_cons_succ, Option.some.injEq])); exact rfl) | (with_reducible apply PV.w_nat) | (with_reducible apply PV.w_con) | (with_reducible apply PV.w_op) | (with_reducible apply PV.w_un) | (with_reducible apply PV.w_unF) | (with_reducible apply PV.w_cons) | (with_reducible apply PV.w_nil) | (with_reducible apply PV.w_star) | (with_reducible apply PV.w_seq) | (with_reducible apply PV.w_call) | (with_reducible apply PV.w_callF0) | (with_reducible apply PV.w_callK) | (with_reducible apply PV.w_app) | (with_reducible apply PV.w_cmeth) | (with_reducible apply PV.w_meth) | (with_reducible apply PV.w_prop) | (with_reducible apply PV.w_fld) | (with_reducible apply PV.w_if) | (with_reducible apply PV.w_andV) | (with_reducible apply PV.w_orV) | (with_reducible apply PV.w_notV) | (with_reducible apply PV.w_tst) | (with_reducible apply PV.w_tru) | (with_reducible apply PV.w_truO) | (with_reducible apply PV.w_notO) | (with_reducible apply PV.w_boolO) | (with_reducible apply PV.w_and) | (with_reducible apply PV.w_or) | (with_reducible apply PV.w_not) | (with_reducible apply PV.w_yes) | (with_reducible apply PV.w_chain) | (with_reducible apply PV.w_no) | (with_reducible apply PV.w_part) | (with_reducible apply PV.w_sl) | (with_reducible apply PV.w_slS) | (with_reducible apply PV.w_iLst) | (with_reducible apply PV.w_iTup) | (with_reducible apply PV.w_iEnL) | (with_reducible apply PV.w_iCall) | (with_reducible apply PV.w_next) | (with_reducible apply PV.w_bk) | (with_reducible apply PV.w_ct) | (with_reducible apply PV.w_sSeq) | (with_reducible apply PV.w_ret) | (with_reducible apply PV.w_retN) | (with_reducible apply PV.w_set) | (with_reducible apply PV.w_drop) | (with_reducible apply PV.w_sIf) | (with_reducible apply PV.w_asg) | (with_reducible apply PV.w_par) | (with_reducible apply PV.w_setM) | (with_reducible apply PV.w_setF) | (with_reducible apply PV.k_bl) | (with_reducible apply PV.k_int) | (with_reducible apply PV.k_tup) | (with_reducible apply PV.k_obj) | ((with_reducible apply PV.k_add); first | exact n_add _ _ | exact ev_add _ _) | ((with_reducible apply PV.k_sub); first | exact n_sub (by omega) | exact ev_sub _ _) | ((with_reducible apply PV.k_mul); first | exact n_mul (by omega) | exact ev_mul (by omega)) | ((with_reducible apply PV.k_div); first | exact n_div (by omega) (by omega) | exact ev_divL (by omega) (by omega)) | ((with_reducible apply PV.k_mod); first | exact n_mod (by omega) | exact ev_mod (by omega)) | ((with_reducible apply PV.k_cmp); first | exact n_lt _ _ | exact n_le _ _ | exact n_gt _ _ | exact ev_cmp _ _ _) | ((with_reducible apply PV.k_eq); first | exact n_eq _ _ | exact n_ne _ _ | exact ev_eq _ _ | exact ev_ne _ _ | exact ev_eqB _ _ | exact ev_neB _ _) | ((with_reducible apply PV.k_min); first | exact n_min _ _ | exact ev_min _ _) | ((with_reducible apply PV.k_max); first | exact n_max _ _ | exact ev_max _ _) | ((with_reducible apply PV.k_abs); first | exact ev_abs _) | ((with_reducible apply PV.k_gint); first | exact ev_int _ | exact ev_intB _) | ((with_reducible apply PV.k_neg); exact rfl) | ((with_reducible apply PV.k_ml); exact rfl) | ((with_reducible apply PV.k_ix); exact rfl) | ((with_reducible apply PV.k_len); exact rfl) | ((with_reducible apply PV.k_is); exact rfl) | ((with_reducible apply PV.k_fld); exact rfl) | ((with_reducible apply PV.k_lst); exact rfl) | ((with_reducible apply PV.k_tru); exact rfl) | ((with_reducible apply PV.k_st); exact rfl) | ((with_reducible apply PV.b_f); exact rfl) | ((with_reducible apply PV.b_t); exact rfl) | ((with_reducible apply PV.b_f); first | exact decide_eq_false (by omega) | exact nt_f (by omega)) | ((with_reducible apply PV.b_t); first | exact decide_eq_true (by omega) | exact nt_t (by omega)) | (refine PV.k_and ⟨rfl, rfl⟩ ?_) | (refine PV.k_and (by decide) ?_) | (refine PV.k_and (Nat.le_of_ble_eq_true rfl) ?_) | (refine PV.k_and rfl ?_)))
    rcases nr with ⟨rfl, _⟩ | ⟨l, rfl, h1, h2, h3⟩
    · refine PV.b_f rfl ?_
      (repeat (first | ((with_reducible apply PV.w_var); exact rfl) | ((with_reducible apply PV.w_callS); exact rfl) | ((with_reducible apply PV.w_aug); exact rfl) | ((with_reducible apply PV.w_appM); exact rfl) | ((with_reducible apply PV.w_frz); exact rfl) | ((with_reducible apply PV.w_frzP); exact rfl) | ((with_reducible apply PV.w_appL); exact rfl) | ((with_reducible apply PV.k_set); simp only [List.set_cons_zero, List.set_cons_succ]; exact rfl) | ((with_reducible apply PV.k_pick); simp only [PV.pick, List.nil_append, List.cons_append, List.append_nil, List.filterMap_cons, List.filterMap_nil, List.getElem?_cons_zero, List.getElem?_cons_succ]; exact rfl) | ((with_reducible apply PV.k_env); (try (simp only [PV.tgT, PV.tgN, PV.tgsN, List.length_cons, List.length_nil, Nat.reduceAdd, ↓reduceIte, List.set_cons_zero, List.set_cons_succ, Option.some.injEq])); exact rfl) | (with_reducible apply PV.w_nat) | (with_reducible apply PV.w_con) | (with_reducible apply PV.w_op) | (with_reducible apply PV.w_un) | (with_reducible apply PV.w_unF) | (with_reducible apply PV.w_cons) | (with_reducible apply PV.w_nil) | (with_reducible apply PV.w_star) | (with_reducible apply PV.w_seq) | (with_reducible apply PV.w_call) | (with_reducible apply PV.w_callF0) | (with_reducible apply PV.w_callK) | (with_reducible apply PV.w_app) | (with_reducible apply PV.w_cmeth) | (with_reducible apply PV.w_meth) | (with_reducible apply PV.w_prop) | (with_reducible apply PV.w_fld) | (with_reducible apply PV.w_if) | (with_reducible apply PV.w_andV) | (with_reducible apply PV.w_orV) | (with_reducible apply PV.w_notV) | (with_reducible apply PV.w_tst) | (with_reducible apply PV.w_tru) | (with_reducible apply PV.w_truO) | (with_reducible apply PV.w_notO) | (with_reducible apply PV.w_boolO) | (with_reducible apply PV.w_and) | (with_reducible apply PV.w_or) | (with_reducible apply PV.w_not) | (with_reducible apply PV.w_yes) | (with_reducible apply PV.w_chain) | (with_reducible apply PV.w_no) | (with_reducible apply PV.w_part) | (with_reducible apply PV.w_sl) | (with_reducible apply PV.w_slS) | (with_reducible apply PV.w_iLst) | (with_reducible apply PV.w_iTup) | (with_reducible apply PV.w_iEnL) | (with_reducible apply PV.w_iCall) | (with_reducible apply PV.w_next) | (with_reducible apply PV.w_bk) | (with_reducible apply PV.w_ct) | (with_reducible apply PV.w_sSeq) | (with_reducible apply PV.w_ret) | (with_reducible apply PV.w_retN) | (with_reducible apply PV.w_set) | (with_reducible apply PV.w_drop) | (with_reducible apply PV.w_sIf) | (with_reducible apply PV.w_asg) | (with_reducible apply PV.w_par) | (with_reducible apply PV.w_setM) | (with_reducible apply PV.w_setF) | (with_reducible apply PV.k_bl) | (with_reducible apply PV.k_int) | (with_reducible apply PV.k_tup) | (with_reducible apply PV.k_obj) | ((with_reducible apply PV.k_add); first | exact n_add _ _ | exact ev_add _ _) | ((with_reducible apply PV.k_sub); first | exact n_sub (by omega) | exact ev_sub _ _) | ((with_reducible apply PV.k_mul); first | exact n_mul (by omega) | exact ev_mul (by omega)) | ((with_reducible apply PV.k_div); first | exact n_div (by omega) (by omega) | exact ev_divL (by omega) (by omega)) | ((with_reducible apply PV.k_mod); first | exact n_mod (by omega) | exact ev_mod (by omega)) | ((with_reducible apply PV.k_cmp); first | exact n_lt _ _ | exact n_le _ _ | exact n_gt _ _ | exact ev_cmp _ _ _) | ((with_reducible apply PV.k_eq); first | exact n_eq _ _ | exact n_ne _ _ | exact ev_eq _ _ | exact ev_ne _ _ | exact ev_eqB _ _ | exact ev_neB _ _) | ((with_reducible apply PV.k_min); first | exact n_min _ _ | exact ev_min _ _) | ((with_reducible apply PV.k_max); first | exact n_max _ _ | exact ev_max _ _) | ((with_reducible apply PV.k_abs); first | exact ev_abs _) | ((with_reducible apply PV.k_gint); first | exact ev_int _ | exact ev_intB _) | ((with_reducible apply PV.k_neg); exact rfl) | ((with_reducible apply PV.k_ml); exact rfl) | ((with_reducible apply PV.k_ix); exact rfl) | ((with_reducible apply PV.k_len); exact rfl) | ((with_reducible apply PV.k_is); exact rfl) | ((with_reducible apply PV.k_fld); exact rfl) | ((with_reducible apply PV.k_lst); exact rfl) | ((with_reducible apply PV.k_tru); exact rfl) | ((with_reducible apply PV.k_st); exact rfl) | ((with_reducible apply PV.b_f); exact rfl) | ((with_reducible apply PV.b_t); exact rfl) | ((with_reducible apply PV.b_f); first | exact decide_eq_false (by omega) | exact nt_f (by omega)) | ((with_reducible apply PV.b_t); first | exact decide_eq_true (by omega) | exact nt_t (by omega)) | (refine PV.k_and ⟨rfl, rfl⟩ ?_) | (refine PV.k_and (by decide) ?_) | (refine PV.k_and (Nat.le_of_ble_eq_true rfl) ?_) | (refine PV.k_and rfl ?_)))
      rfl
    · refine PV.b_t rfl ?_
      have hl : day ≤ l := by omega
      have gap : rank f l = rank f day := rank_gap hl fun e h4 h5 => h3 e (by omega) h5
      have nl := nt l h2
      rw [gap] at nl
      have i1 := g_nin cA l
      rw [h2] at i1
      obtain ⟨r2, q2, n2⟩ := e_last cA sA (l : Int)
      obtain ⟨r3, q3, n3⟩ := e_next cA sA (l : Int)
      have e2 : r2 = dI l := by
        rcases n2 with ⟨_, h⟩ | ⟨d, rfl, h4, h5, h6⟩
        · rw [h l (by omega)] at h2; cases h2
        · by_cases z : d = l
          · rw [z]
          · rw [h6 l (by omega) (by omega)] at h2; cases h2
      have e3 : r3 = dI l := by
        rcases n3 with ⟨_, h⟩ | ⟨d, rfl, h4, h5, h6⟩
        · rw [h l (by omega)] at h2; cases h2
        · by_cases z : d = l
          · rw [z]
          · rw [h6 l (by omega) (by omega)] at h2; cases h2
      subst e2
      subst e3
      (repeat (first | (with_reducible refine ⟨_, nl, ?_⟩) | (with_reducible refine ⟨_, i1, ?_⟩) | (with_reducible refine ⟨_, m0 _, ?_⟩) | (with_reducible refine ⟨_, q2, ?_⟩) | (with_reducible refine ⟨_, q3, ?_⟩) | ((with_reducible apply PV.w_var); exact rfl) | ((with_reducible apply PV.w_callS); exact rfl) | ((with_reducible apply PV.w_aug); exact rfl) | ((with_reducible apply PV.w_appM); exact rfl) | ((with_reducible apply PV.w_frz); exact rfl) | ((with_reducible apply PV.w_frzP); exact rfl) | ((with_reducible apply PV.w_appL); exact rfl) | ((with_reducible apply PV.k_set); simp only [List.set_cons_zero, List.set_cons_succ]; exact rfl) | ((with_reducible apply PV.k_pick); simp only [PV.pick, List.nil_append, List.cons_append, List.append_nil, List.filterMap_cons, List.filterMap_nil, List.getElem?_cons_zero, List.getElem?_cons_succ]; exact rfl) | ((with_reducible apply PV.k_env); (try (simp only [PV.tgT, PV.tgN, PV.tgsN, List.length_cons, List.length_nil, Nat.reduceAdd, ↓reduceIte, List.set_cons_zero, List.set_cons_succ, Option.some.injEq])); exact rfl) | (with_reducible apply PV.w_nat) | (with_reducible apply PV.w_con) | (with_reducible apply PV.w_op) | (with_reducible apply PV.w_un) | (with_reducible apply PV.w_unF) | (with_reducible apply PV.w_cons) | (with_reducible apply PV.w_nil) | (with_reducible apply PV.w_star) | (with_reducible apply PV.w_seq) | (with_reducible apply PV.w_call) | (with_reducible apply PV.w_callF0) | (with_reducible apply PV.w_callK) | (with_reducible apply PV.w_app) | (with_reducible apply PV.w_cmeth) | (with_reducible apply PV.w_meth) | (with_reducible apply PV.w_prop) | (with_reducible apply PV.w_fld) | (with_reducible apply PV.w_if) | (with_reducible apply PV.w_andV) | (with_reducible apply PV.w_orV) | (with_reducible apply PV.w_notV) | (with_reducible apply PV.w_tst) | (with_reducible apply PV.w_tru) | (with_reducible apply PV.w_truO) | (with_reducible apply PV.w_notO) | (with_reducible apply PV.w_boolO) | (with_reducible apply PV.w_and) | (with_reducible apply PV.w_or) | (with_reducible apply PV.w_not) | (with_reducible apply PV.w_yes) | (with_reducible apply PV.w_chain) | (with_reducible apply PV.w_no) | (with_reducible apply PV.w_part) | (with_reducible apply PV.w_sl) | (with_reducible apply PV.w_slS) | (with_reducible apply PV.w_iLst) | (with_reducible apply PV.w_iTup) | (with_reducible apply PV.w_iEnL) | (with_reducible apply PV.w_iCall) | (with_reducible apply PV.w_next) | (with_reducible apply PV.w_bk) | (with_reducible apply PV.w_ct) | (with_reducible apply PV.w_sSeq) | (with_reducible apply PV.w_ret) | (with_reducible apply PV.w_retN) | (with_reducible apply PV.w_set) | (with_reducible apply PV.w_drop) | (with_reducible apply PV.w_sIf) | (with_reducible apply PV.w_asg) | (with_reducible apply PV.w_par) | (with_reducible apply PV.w_setM) | (with_reducible apply PV.w_setF) | (with_reducible apply PV.k_bl) | (with_reducible apply PV.k_int) | (with_reducible apply PV.k_tup) | (with_reducible apply PV.k_obj) | ((with_reducible apply PV.k_add); first | exact n_add _ _ | exact ev_add _ _) | ((with_reducible apply PV.k_sub); first | exact n_sub (by omega) | exact ev_sub _ _) | ((with_reducible apply PV.k_mul); first | exact n_mul (by omega) | exact ev_mul (by omega)) | ((with_reducible apply PV.k_div); first | exact n_div (by omega) (by omega) | exact ev_divL (by omega) (by omega)) | ((with_reducible apply PV.k_mod); first | exact n_mod (by omega) | exact ev_mod (by omega)) | ((with_reducible apply PV.k_cmp); first | exact n_lt _ _ | exact n_le _ _ | exact n_gt _ _ | exact ev_cmp _ _ _) | ((with_reducible apply PV.k_eq); first | exact n_eq _ _ | exact n_ne _ _ | exact ev_eq _ _ | exact ev_ne _ _ | exact ev_eqB _ _ | exact ev_neB _ _) | ((with_reducible apply PV.k_min); first | exact n_min _ _ | exact ev_min _ _) | ((with_reducible apply PV.k_max); first | exact n_max _ _ | exact ev_max _ _) | ((with_reducible apply PV.k_abs); first | exact ev_abs _) | ((with_reducible apply PV.k_gint); first | exact ev_int _ | exact ev_intB _) | ((with_reducible apply PV.k_neg); exact rfl) | ((with_reducible apply PV.k_ml); exact rfl) | ((with_reducible apply PV.k_ix); exact rfl) | ((with_reducible apply PV.k_len); exact rfl) | ((with_reducible apply PV.k_is); exact rfl) | ((with_reducible apply PV.k_fld); exact rfl) | ((with_reducible apply PV.k_lst); exact rfl) | ((with_reducible apply PV.k_tru); exact rfl) | ((with_reducible apply PV.k_st); exact rfl) | ((with_reducible apply PV.b_f); exact rfl) | ((with_reducible apply PV.b_t); exact rfl) | ((with_reducible apply PV.b_f); first | exact decide_eq_false (by omega) | exact nt_f (by omega)) | ((with_reducible apply PV.b_t); first | exact decide_eq_true (by omega) | exact nt_t (by omega)) | (refine PV.k_and ⟨rfl, rfl⟩ ?_) | (refine PV.k_and (by decide) ?_) | (refine PV.k_and (Nat.le_of_ble_eq_true rfl) ?_) | (refine PV.k_and rfl ?_)))
      rfl
  · subst e
    (repeat (first | ((with_reducible apply PV.w_var); exact rfl) | ((with_reducible apply PV.w_callS); exact rfl) | ((with_reducible apply PV.w_aug); exact rfl) | ((with_reducible apply PV.w_appM); exact rfl) | ((with_reducible apply PV.w_frz); exact rfl) | ((with_reducible apply PV.w_frzP); exact rfl) | ((with_reducible apply PV.w_appL); exact rfl) | ((with_reducible apply PV.k_set); simp only [List.set_cons_zero, List.set_cons_succ]; exact rfl) | ((with_reducible apply PV.k_pick); simp only [PV.pick, List.nil_append, List.cons_append, List.append_nil, List.filterMap_cons, List.filterMap_nil, List.getElem?_cons_zero, List.getElem?_cons_succ]; exact rfl) | ((with_reducible apply PV.k_env); (try (simp only [PV.tgT, PV.tgN, PV.tgsN, List.length_cons, List.length_nil, Nat.reduceAdd, ↓reduceIte, List.set_cons_zero, List.set_cons_succ, Option.some.injEq])); exact rfl) | (with_reducible apply PV.w_nat) | (with_reducible apply PV.w_con) | (with_reducible apply PV.w_op) | (with_reducible apply PV.w_un) | (with_reducible apply PV.w_unF) | (with_reducible apply PV.w_cons) | (with_reducible apply PV.w_nil) | (with_reducible apply PV.w_star) | (with_reducible apply PV.w_seq) | (with_reducible apply PV.w_call) | (with_reducible apply PV.w_callF0) | (with_reducible apply PV.w_callK) | (with_reducible apply PV.w_app) | (with_reducible apply PV.w_cmeth) | (with_reducible apply PV.w_meth) | (with_reducible apply PV.w_prop) | (with_reducible apply PV.w_fld) | (with_reducible apply PV.w_if) | (with_reducible apply PV.w_andV) | (with_reducible apply PV.w_orV) | (with_reducible apply PV.w_notV) | (with_reducible apply PV.w_tst) | (with_reducible apply PV.w_tru) | (with_reducible apply PV.w_truO) | (with_reducible apply PV.w_notO) | (with_reducible apply PV.w_boolO) | (with_reducible apply PV.w_and) | (with_reducible apply PV.w_or) | (with_reducible apply PV.w_not) | (with_reducible apply PV.w_yes) | (with_reducible apply PV.w_chain) | (with_reducible apply PV.w_no) | (with_reducible apply PV.w_part) | (with_reducible apply PV.w_sl) | (with_reducible apply PV.w_slS) | (with_reducible apply PV.w_iLst) | (with_reducible apply PV.w_iTup) | (with_reducible apply PV.w_iEnL) | (with_reducible apply PV.w_iCall) | (with_reducible apply PV.w_next) | (with_reducible apply PV.w_bk) | (with_reducible apply PV.w_ct) | (with_reducible apply PV.w_sSeq) | (with_reducible apply PV.w_ret) | (with_reducible apply PV.w_retN) | (with_reducible apply PV.w_set) | (with_reducible apply PV.w_drop) | (with_reducible apply PV.w_asg) | (with_reducible apply PV.w_par) | (with_reducible apply PV.w_setM) | (with_reducible apply PV.w_setF) | (with_reducible apply PV.k_bl) | (with_reducible apply PV.k_int) | (with_reducible apply PV.k_tup) | (with_reducible apply PV.k_obj) | ((with_reducible apply PV.k_add); first | exact n_add _ _ | exact ev_add _ _) | ((with_reducible apply PV.k_sub); first | exact n_sub (by omega) | exact ev_sub _ _) | ((with_reducible apply PV.k_mul); first | exact n_mul (by omega) | exact ev_mul (by omega)) | ((with_reducible apply PV.k_div); first | exact n_div (by omega) (by omega) | exact ev_divL (by omega) (by omega)) | ((with_reducible apply PV.k_mod); first | exact n_mod (by omega) | exact ev_mod (by omega)) | ((with_reducible apply PV.k_cmp); first | exact n_lt _ _ | exact n_le _ _ | exact n_gt _ _ | exact ev_cmp _ _ _) | ((with_reducible apply PV.k_eq); first | exact n_eq _ _ | exact n_ne _ _ | exact ev_eq _ _ | exact ev_ne _ _ | exact ev_eqB _ _ | exact ev_neB _ _) | ((with_reducible apply PV.k_min); first | exact n_min _ _ | exact ev_min _ _) | ((with_reducible apply PV.k_max); first | exact n_max _ _ | exact ev_max _ _) | ((with_reducible apply PV.k_abs); first | exact ev_abs _) | ((with_reducible apply PV.k_gint); first | exact ev_int _ | exact ev_intB _) | ((with_reducible apply PV.k_neg); exact rfl) | ((with_reducible apply PV.k_ml); exact rfl) | ((with_reducible apply PV.k_ix); exact rfl) | ((with_reducible apply PV.k_len); exact rfl) | ((with_reducible apply PV.k_is); exact rfl) | ((with_reducible apply PV.k_fld); exact rfl) | ((with_reducible apply PV.k_lst); exact rfl) | ((with_reducible apply PV.k_tru); exact rfl) | ((with_reducible apply PV.k_st); exact rfl) | ((with_reducible apply PV.b_f); exact rfl) | ((with_reducible apply PV.b_t); exact rfl) | ((with_reducible apply PV.b_f); first | exact decide_eq_false (by omega) | exact nt_f (by omega)) | ((with_reducible apply PV.b_t); first | exact decide_eq_true (by omega) | exact nt_t (by omega)) | (refine PV.k_and ⟨rfl, rfl⟩ ?_) | (refine PV.k_and (by decide) ?_) | (refine PV.k_and (Nat.le_of_ble_eq_true rfl) ?_) | (refine PV.k_and rfl ?_)))
    refine PV.w_mid (fun δ => ∃ x5, δ = [.p (oD A), pI day, pI n, pI (rank f day), .p r, x5, .emp]) ?_ fun δ ⟨x5, e⟩ => ?_
    · (repeat (first | ((with_reducible apply PV.w_var); exact rfl) | ((with_reducible apply PV.w_callS); exact rfl) | ((with_reducible apply PV.w_aug); exact rfl) | ((with_reducible apply PV.w_appM); exact rfl) | ((with_reducible apply PV.w_frz); exact rfl) | ((with_reducible apply PV.w_frzP); exact rfl) | ((with_reducible apply PV.w_appL); exact rfl) | ((with_reducible apply PV.k_set); simp only [List.set_cons_zero, List.set_cons_succ]; exact rfl) | ((with_reducible apply PV.k_pick); simp only [PV.pick, List.nil_append, List.cons_append, List.append_nil, List.filterMap_cons, List.filterMap_nil, List.getElem?_cons_zero, List.getElem?_cons_succ]; exact rfl) | ((with_reducible apply PV.k_env); (try (simp only [PV.tgT, PV.tgN, PV.tgsN, List.length_cons, List.length_nil, Nat.reduceAdd, ↓reduceIte, List.set_cons_zero, List.set_cons_succ, Option.some.injEq])); exact rfl) | (with_reducible apply PV.w_nat) | (with_reducible apply PV.w_con) | (with_reducible apply PV.w_op) | (with_reducible apply PV.w_un) | (with_reducible apply PV.w_unF) | (with_reducible apply PV.w_cons) | (with_reducible apply PV.w_nil) | (with_reducible apply PV.w_star) | (with_reducible apply PV.w_seq) | (with_reducible apply PV.w_call) | (with_reducible apply PV.w_callF0) | (with_reducible apply PV.w_callK) | (with_reducible apply PV.w_app) | (with_reducible apply PV.w_cmeth) | (with_reducible apply PV.w_meth) | (with_reducible apply PV.w_prop) | (with_reducible apply PV.w_fld) | (with_reducible apply PV.w_if) | (with_reducible apply PV.w_andV) | (with_reducible apply PV.w_orV) | (with_reducible apply PV.w_notV) | (with_reducible apply PV.w_tst) | (with_reducible apply PV.w_tru) | (with_reducible apply PV.w_truO) | (with_reducible apply PV.w_notO) | (with_reducible apply PV.w_boolO) | (with_reducible apply PV.w_and) | (with_reducible apply PV.w_or) | (with_reducible apply PV.w_not) | (with_reducible apply PV.w_yes) | (with_reducible apply PV.w_chain) | (with_reducible apply PV.w_no) | (with_reducible apply PV.w_part) | (with_reducible apply PV.w_sl) | (with_reducible apply PV.w_slS) | (with_reducible apply PV.w_iLst) | (with_reducible apply PV.w_iTup) | (with_reducible apply PV.w_iEnL) | (with_reducible apply PV.w_iCall) | (with_reducible apply PV.w_next) | (with_reducible apply PV.w_bk) | (with_reducible apply PV.w_ct) | (with_reducible apply PV.w_sSeq) | (with_reducible apply PV.w_ret) | (with_reducible apply PV.w_retN) | (with_reducible apply PV.w_set) | (with_reducible apply PV.w_drop) | (with_reducible apply PV.w_sIf) | (with_reducible apply PV.w_asg) | (with_reducible apply PV.w_par) | (with_reducible apply PV.w_setM) | (with_reducible apply PV.w_setF) | (with_reducible apply PV.k_bl) | (with_reducible apply PV.k_int) | (with_reducible apply PV.k_tup) | (with_reducible apply PV.k_obj) | ((with_reducible apply PV.k_add); first | exact n_add _ _ | exact ev_add _ _) | ((with_reducible apply PV.k_sub); first | exact n_sub (by omega) | exact ev_sub _ _) | ((with_reducible apply PV.k_mul); first | exact n_mul (by omega) | exact ev_mul (by omega)) | ((with_reducible apply PV.k_div); first | exact n_div (by omega) (by omega) | exact ev_divL (by omega) (by omega)) | ((with_reducible apply PV.k_mod); first | exact n_mod (by omega) | exact ev_mod (by omega)) | ((with_reducible apply PV.k_cmp); first | exact n_lt _ _ | exact n_le _ _ | exact n_gt _ _ | exact ev_cmp _ _ _) | ((with_reducible apply PV.k_eq); first | exact n_eq _ _ | exact n_ne _ _ | exact ev_eq _ _ | exact ev_ne _ _ | exact ev_eqB _ _ | exact ev_neB _ _) | ((with_reducible apply PV.k_min); first | exact n_min _ _ | exact ev_min _ _) | ((with_reducible apply PV.k_max); first | exact n_max _ _ | exact ev_max _ _) | ((with_reducible apply PV.k_abs); first | exact ev_abs _) | ((with_reducible apply PV.k_gint); first | exact ev_int _ | exact ev_intB _) | ((with_reducible apply PV.k_neg); exact rfl) | ((with_reducible apply PV.k_ml); exact rfl) | ((with_reducible apply PV.k_ix); exact rfl) | ((with_reducible apply PV.k_len); exact rfl) | ((with_reducible apply PV.k_is); exact rfl) | ((with_reducible apply PV.k_fld); exact rfl) | ((with_reducible apply PV.k_lst); exact rfl) | ((with_reducible apply PV.k_tru); exact rfl) | ((with_reducible apply PV.k_st); exact rfl) | ((with_reducible apply PV.b_f); exact rfl) | ((with_reducible apply PV.b_t); exact rfl) | ((with_reducible apply PV.b_f); first | exact decide_eq_false (by omega) | exact nt_f (by omega)) | ((with_reducible apply PV.b_t); first | exact decide_eq_true (by omega) | exact nt_t (by omega)) | (refine PV.k_and ⟨rfl, rfl⟩ ?_) | (refine PV.k_and (by decide) ?_) | (refine PV.k_and (Nat.le_of_ble_eq_true rfl) ?_) | (refine PV.k_and rfl ?_)))
      refine ⟨fun hz => ?_, fun _ => ?_⟩
      · have hz := of_decide_eq_true hz
        have dz : 0 < day := Nat.pos_of_ne_zero fun z => by rw [z, rank_zero] at hz; omega
        obtain ⟨r2, q2, n2⟩ := e_last cA sA ((day - 1 : Nat) : Int)
        rcases n2 with ⟨_, h⟩ | ⟨d, rfl, h4, h5, h6⟩
        · have : rank f day = rank f 0 := rank_gap (by omega) fun e h1 h2 => h e (by omega)
          rw [rank_zero] at this; omega
        · have rd : rank f day = rank f d + 1 := by
            have : rank f day = rank f (d + 1) := rank_gap (by omega) fun e h1 h2 => h6 e (by omega) (by omega)
            rw [this, rank_succ, if_pos h5]
          have nd := nt d h5
          have i1 := g_nin cA d
          rw [h5] at i1
          rw [show rank f d = rank f day - 1 by omega] at nd
          have m1 := m0 (d + 1)
          rw [rank_succ, if_pos h5, ← rd] at m1
          (repeat (first | (with_reducible refine ⟨_, q2, ?_⟩) | (with_reducible refine ⟨_, nd, ?_⟩) | (with_reducible refine ⟨_, i1, ?_⟩) | (with_reducible refine ⟨_, m1, ?_⟩) | ((with_reducible apply PV.w_var); exact rfl) | ((with_reducible apply PV.w_callS); exact rfl) | ((with_reducible apply PV.w_aug); exact rfl) | ((with_reducible apply PV.w_appM); exact rfl) | ((with_reducible apply PV.w_frz); exact rfl) | ((with_reducible apply PV.w_frzP); exact rfl) | ((with_reducible apply PV.w_appL); exact rfl) | ((with_reducible apply PV.k_set); simp only [List.set_cons_zero, List.set_cons_succ]; exact rfl) | ((with_reducible apply PV.k_pick); simp only [PV.pick, List.nil_append, List.cons_append, List.append_nil, List.filterMap_cons, List.filterMap_nil, List.getElem?_cons_zero, List.getElem?_cons_succ]; exact rfl) | ((with_reducible apply PV.k_env); (try (simp only [PV.tgT, PV.tgN, PV.tgsN, List.length_cons, List.length_nil, Nat.reduceAdd, ↓reduceIte, List.set_cons_zero, List.set_cons_succ, Option.some.injEq])); exact rfl) | (with_reducible apply PV.w_nat) | (with_reducible apply PV.w_con) | (with_reducible apply PV.w_op) | (with_reducible apply PV.w_un) | (with_reducible apply PV.w_unF) | (with_reducible apply PV.w_cons) | (with_reducible apply PV.w_nil) | (with_reducible apply PV.w_star) | (with_reducible apply PV.w_seq) | (with_reducible apply PV.w_call) | (with_reducible apply PV.w_callF0) | (with_reducible apply PV.w_callK) | (with_reducible apply PV.w_app) | (with_reducible apply PV.w_cmeth) | (with_reducible apply PV.w_meth) | (with_reducible apply PV.w_prop) | (with_reducible apply PV.w_fld) | (with_reducible apply PV.w_if) | (with_reducible apply PV.w_andV) | (with_reducible apply PV.w_orV) | (with_reducible apply PV.w_notV) | (with_reducible apply PV.w_tst) | (with_reducible apply PV.w_tru) | (with_reducible apply PV.w_truO) | (with_reducible apply PV.w_notO) | (with_reducible apply PV.w_boolO) | (with_reducible apply PV.w_and) | (with_reducible apply PV.w_or) | (with_reducible apply PV.w_not) | (with_reducible apply PV.w_yes) | (with_reducible apply PV.w_chain) | (with_reducible apply PV.w_no) | (with_reducible apply PV.w_part) | (with_reducible apply PV.w_sl) | (with_reducible apply PV.w_slS) | (with_reducible apply PV.w_iLst) | (with_reducible apply PV.w_iTup) | (with_reducible apply PV.w_iEnL) | (with_reducible apply PV.w_iCall) | (with_reducible apply PV.w_next) | (with_reducible apply PV.w_bk) | (with_reducible apply PV.w_ct) | (with_reducible apply PV.w_sSeq) | (with_reducible apply PV.w_ret) | (with_reducible apply PV.w_retN) | (with_reducible apply PV.w_set) | (with_reducible apply PV.w_drop) | (with_reducible apply PV.w_sIf) | (with_reducible apply PV.w_asg) | (with_reducible apply PV.w_par) | (with_reducible apply PV.w_setM) | (with_reducible apply PV.w_setF) | (with_reducible apply PV.k_bl) | (with_reducible apply PV.k_int) | (with_reducible apply PV.k_tup) | (with_reducible apply PV.k_obj) | ((with_reducible apply PV.k_add); first | exact n_add _ _ | exact ev_add _ _) | ((with_reducible apply PV.k_sub); first | exact n_sub (by omega) | exact ev_sub _ _) | ((with_reducible apply PV.k_mul); first | exact n_mul (by omega) | exact ev_mul (by omega)) | ((with_reducible apply PV.k_div); first | exact n_div (by omega) (by omega) | exact ev_divL (by omega) (by omega)) | ((with_reducible apply PV.k_mod); first | exact n_mod (by omega) | exact ev_mod (by omega)) | ((with_reducible apply PV.k_cmp); first | exact n_lt _ _ | exact n_le _ _ | exact n_gt _ _ | exact ev_cmp _ _ _) | ((with_reducible apply PV.k_eq); first | exact n_eq _ _ | exact n_ne _ _ | exact ev_eq _ _ | exact ev_ne _ _ | exact ev_eqB _ _ | exact ev_neB _ _) | ((with_reducible apply PV.k_min); first | exact n_min _ _ | exact ev_min _ _) | ((with_reducible apply PV.k_max); first | exact n_max _ _ | exact ev_max _ _) | ((with_reducible apply PV.k_abs); first | exact ev_abs _) | ((with_reducible apply PV.k_gint); first | exact ev_int _ | exact ev_intB _) | ((with_reducible apply PV.k_neg); exact rfl) | ((with_reducible apply PV.k_ml); exact rfl) | ((with_reducible apply PV.k_ix); exact rfl) | ((with_reducible apply PV.k_len); exact rfl) | ((with_reducible apply PV.k_is); exact rfl) | ((with_reducible apply PV.k_fld); exact rfl) | ((with_reducible apply PV.k_lst); exact rfl) | ((with_reducible apply PV.k_tru); exact rfl) | ((with_reducible apply PV.k_st); exact rfl) | ((with_reducible apply PV.b_f); exact rfl) | ((with_reducible apply PV.b_t); exact rfl) | ((with_reducible apply PV.b_f); first | exact decide_eq_false (by omega) | exact nt_f (by omega)) | ((with_reducible apply PV.b_t); first | exact decide_eq_true (by omega) | exact nt_t (by omega)) | (refine PV.k_and ⟨rfl, rfl⟩ ?_) | (refine PV.k_and (by decide) ?_) | (refine PV.k_and (Nat.le_of_ble_eq_true rfl) ?_) | (refine PV.k_and rfl ?_)))
          exact ⟨_, rfl⟩
      · (repeat (first | ((with_reducible apply PV.w_var); exact rfl) | ((with_reducible apply PV.w_callS); exact rfl) | ((with_reducible apply PV.w_aug); exact rfl) | ((with_reducible apply PV.w_appM); exact rfl) | ((with_reducible apply PV.w_frz); exact rfl) | ((with_reducible apply PV.w_frzP); exact rfl) | ((with_reducible apply PV.w_appL); exact rfl) | ((with_reducible apply PV.k_set); simp only [List.set_cons_zero, List.set_cons_succ]; exact rfl) | ((with_reducible apply PV.k_pick); simp only [PV.pick, List.nil_append, List.cons_append, List.append_nil, List.filterMap_cons, List.filterMap_nil, List.getElem?_cons_zero, List.getElem?_cons_succ]; exact rfl) | ((with_reducible apply PV.k_env); (try (simp only [PV.tgT, PV.tgN, PV.tgsN, List.length_cons, List.length_nil, Nat.reduceAdd, ↓reduceIte, List.set_cons_zero, List.set_cons_succ, Option.some.injEq])); exact rfl) | (with_reducible apply PV.w_nat) | (with_reducible apply PV.w_con) | (with_reducible apply PV.w_op) | (with_reducible apply PV.w_un) | (with_reducible apply PV.w_unF) | (with_reducible apply PV.w_cons) | (with_reducible apply PV.w_nil) | (with_reducible apply PV.w_star) | (with_reducible apply PV.w_seq) | (with_reducible apply PV.w_call) | (with_reducible apply PV.w_callF0) | (with_reducible apply PV.w_callK) | (with_reducible apply PV.w_app) | (with_reducible apply PV.w_cmeth) | (with_reducible apply PV.w_meth) | (with_reducible apply PV.w_prop) | (with_reducible apply PV.w_fld) | (with_reducible apply PV.w_if) | (with_reducible apply PV.w_andV) | (with_reducible apply PV.w_orV) | (with_reducible apply PV.w_notV) | (with_reducible apply PV.w_tst) | (with_reducible apply PV.w_tru) | (with_reducible apply PV.w_truO) | (with_reducible apply PV.w_notO) | (with_reducible apply PV.w_boolO) | (with_reducible apply PV.w_and) | (with_reducible apply PV.w_or) | (with_reducible apply PV.w_not) | (with_reducible apply PV.w_yes) | (with_reducible apply PV.w_chain) | (with_reducible apply PV.w_no) | (with_reducible apply PV.w_part) | (with_reducible apply PV.w_sl) | (with_reducible apply PV.w_slS) | (with_reducible apply PV.w_iLst) | (with_reducible apply PV.w_iTup) | (with_reducible apply PV.w_iEnL) | (with_reducible apply PV.w_iCall) | (with_reducible apply PV.w_next) | (with_reducible apply PV.w_bk) | (with_reducible apply PV.w_ct) | (with_reducible apply PV.w_sSeq) | (with_reducible apply PV.w_ret) | (with_reducible apply PV.w_retN) | (with_reducible apply PV.w_set) | (with_reducible apply PV.w_drop) | (with_reducible apply PV.w_sIf) | (with_reducible apply PV.w_asg) | (with_reducible apply PV.w_par) | (with_reducible apply PV.w_setM) | (with_reducible apply PV.w_setF) | (with_reducible apply PV.k_bl) | (with_reducible apply PV.k_int) | (with_reducible apply PV.k_tup) | (with_reducible apply PV.k_obj) | ((with_reducible apply PV.k_add); first | exact n_add _ _ | exact ev_add _ _) | ((with_reducible apply PV.k_sub); first | exact n_sub (by omega) | exact ev_sub _ _) | ((with_reducible apply PV.k_mul); first | exact n_mul (by omega) | exact ev_mul (by omega)) | ((with_reducible apply PV.k_div); first | exact n_div (by omega) (by omega) | exact ev_divL (by omega) (by omega)) | ((with_reducible apply PV.k_mod); first | exact n_mod (by omega) | exact ev_mod (by omega)) | ((with_reducible apply PV.k_cmp); first | exact n_lt _ _ | exact n_le _ _ | exact n_gt _ _ | exact ev_cmp _ _ _) | ((with_reducible apply PV.k_eq); first | exact n_eq _ _ | exact n_ne _ _ | exact ev_eq _ _ | exact ev_ne _ _ | exact ev_eqB _ _ | exact ev_neB _ _) | ((with_reducible apply PV.k_min); first | exact n_min _ _ | exact ev_min _ _) | ((with_reducible apply PV.k_max); first | exact n_max _ _ | exact ev_max _ _) | ((with_reducible apply PV.k_abs); first | exact ev_abs _) | ((with_reducible apply PV.k_gint); first | exact ev_int _ | exact ev_intB _) | ((with_reducible apply PV.k_neg); exact rfl) | ((with_reducible apply PV.k_ml); exact rfl) | ((with_reducible apply PV.k_ix); exact rfl) | ((with_reducible apply PV.k_len); exact rfl) | ((with_reducible apply PV.k_is); exact rfl) | ((with_reducible apply PV.k_fld); exact rfl) | ((with_reducible apply PV.k_lst); exact rfl) | ((with_reducible apply PV.k_tru); exact rfl) | ((with_reducible apply PV.k_st); exact rfl) | ((with_reducible apply PV.b_f); exact rfl) | ((with_reducible apply PV.b_t); exact rfl) | ((with_reducible apply PV.b_f); first | exact decide_eq_false (by omega) | exact nt_f (by omega)) | ((with_reducible apply PV.b_t); first | exact decide_eq_true (by omega) | exact nt_t (by omega)) | (refine PV.k_and ⟨rfl, rfl⟩ ?_) | (refine PV.k_and (by decide) ?_) | (refine PV.k_and (Nat.le_of_ble_eq_true rfl) ?_) | (refine PV.k_and rfl ?_)))
        exact ⟨_, rfl⟩
    · subst e
      (repeat (first | (with_reducible refine ⟨_, hfin, ?_⟩) | ((with_reducible apply PV.w_var); exact rfl) | ((with_reducible apply PV.w_callS); exact rfl) | ((with_reducible apply PV.w_aug); exact rfl) | ((with_reducible apply PV.w_appM); exact rfl) | ((with_reducible apply PV.w_frz); exact rfl) | ((with_reducible apply PV.w_frzP); exact rfl) | ((with_reducible apply PV.w_appL); exact rfl) | ((with_reducible apply PV.k_set); simp only [List.set_cons_zero, List.set_cons_succ]; exact rfl) | ((with_reducible apply PV.k_pick); simp only [PV.pick, List.nil_append, List.cons_append, List.append_nil, List.filterMap_cons, List.filterMap_nil, List.getElem?_cons_zero, List.getElem?_cons_succ]; exact rfl) | ((with_reducible apply PV.k_env); (try (simp only [PV.tgT, PV.tgN, PV.tgsN, List.length_cons, List.length_nil, Nat.reduceAdd, ↓reduceIte, List.set_cons_zero, List.set_cons_succ, Option.some.injEq])); exact rfl) | (with_reducible apply PV.w_nat) | (with_reducible apply PV.w_con) | (with_reducible apply PV.w_op) | (with_reducible apply PV.w_un) | (with_reducible apply PV.w_unF) | (with_reducible apply PV.w_cons) | (with_reducible apply PV.w_nil) | (with_reducible apply PV.w_star) | (with_reducible apply PV.w_seq) | (with_reducible apply PV.w_call) | (with_reducible apply PV.w_callF0) | (with_reducible apply PV.w_callK) | (with_reducible apply PV.w_app) | (with_reducible apply PV.w_cmeth) | (with_reducible apply PV.w_meth) | (with_reducible apply PV.w_prop) | (with_reducible apply PV.w_fld) | (with_reducible apply PV.w_if) | (with_reducible apply PV.w_andV) | (with_reducible apply PV.w_orV) | (with_reducible apply PV.w_notV) | (with_reducible apply PV.w_tst) | (with_reducible apply PV.w_tru) | (with_reducible apply PV.w_truO) | (with_reducible apply PV.w_notO) | (with_reducible apply PV.w_boolO) | (with_reducible apply PV.w_and) | (with_reducible apply PV.w_or) | (with_reducible apply PV.w_not) | (with_reducible apply PV.w_yes) | (with_reducible apply PV.w_chain) | (with_reducible apply PV.w_no) | (with_reducible apply PV.w_part) | (with_reducible apply PV.w_sl) | (with_reducible apply PV.w_slS) | (with_reducible apply PV.w_iLst) | (with_reducible apply PV.w_iTup) | (with_reducible apply PV.w_iEnL) | (with_reducible apply PV.w_iCall) | (with_reducible apply PV.w_next) | (with_reducible apply PV.w_bk) | (with_reducible apply PV.w_ct) | (with_reducible apply PV.w_sSeq) | (with_reducible apply PV.w_ret) | (with_reducible apply PV.w_retN) | (with_reducible apply PV.w_set) | (with_reducible apply PV.w_drop) | (with_reducible apply PV.w_sIf) | (with_reducible apply PV.w_asg) | (with_reducible apply PV.w_par) | (with_reducible apply PV.w_setM) | (with_reducible apply PV.w_setF) | (with_reducible apply PV.k_bl) | (with_reducible apply PV.k_int) | (with_reducible apply PV.k_tup) | (with_reducible apply PV.k_obj) | ((with_reducible apply PV.k_add); first | exact n_add _ _ | exact ev_add _ _) | ((with_reducible apply PV.k_sub); first | exact n_sub (by omega) | exact ev_sub _ _) | ((with_reducible apply PV.k_mul); first | exact n_mul (by omega) | exact ev_mul (by omega)) | ((with_reducible apply PV.k_div); first | exact n_div (by omega) (by omega) | exact ev_divL (by omega) (by omega)) | ((with_reducible apply PV.k_mod); first | exact n_mod (by omega) | exact ev_mod (by omega)) | ((with_reducible apply PV.k_cmp); first | exact n_lt _ _ | exact n_le _ _ | exact n_gt _ _ | exact ev_cmp _ _ _) | ((with_reducible apply PV.k_eq); first | exact n_eq _ _ | exact n_ne _ _ | exact ev_eq _ _ | exact ev_ne _ _ | exact ev_eqB _ _ | exact ev_neB _ _) | ((with_reducible apply PV.k_min); first | exact n_min _ _ | exact ev_min _ _) | ((with_reducible apply PV.k_max); first | exact n_max _ _ | exact ev_max _ _) | ((with_reducible apply PV.k_abs); first | exact ev_abs _) | ((with_reducible apply PV.k_gint); first | exact ev_int _ | exact ev_intB _) | ((with_reducible apply PV.k_neg); exact rfl) | ((with_reducible apply PV.k_ml); exact rfl) | ((with_reducible apply PV.k_ix); exact rfl) | ((with_reducible apply PV.k_len); exact rfl) | ((with_reducible apply PV.k_is); exact rfl) | ((with_reducible apply PV.k_fld); exact rfl) | ((with_reducible apply PV.k_lst); exact rfl) | ((with_reducible apply PV.k_tru); exact rfl) | ((with_reducible apply PV.k_st); exact rfl) | ((with_reducible apply PV.b_f); exact rfl) | ((with_reducible apply PV.b_t); exact rfl) | ((with_reducible apply PV.b_f); first | exact decide_eq_false (by omega) | exact nt_f (by omega)) | ((with_reducible apply PV.b_t); first | exact decide_eq_true (by omega) | exact nt_t (by omega)) | (refine PV.k_and ⟨rfl, rfl⟩ ?_) | (refine PV.k_and (by decide) ?_) | (refine PV.k_and (Nat.le_of_ble_eq_true rfl) ?_) | (refine PV.k_and rfl ?_)))
      refine ⟨fun hz => ?_, fun hz => ?_⟩
      · (repeat (first | ((with_reducible apply PV.w_var); exact rfl) | ((with_reducible apply PV.w_callS); exact rfl) | ((with_reducible apply PV.w_aug); exact rfl) | ((with_reducible apply PV.w_appM); exact rfl) | ((with_reducible apply PV.w_frz); exact rfl) | ((with_reducible apply PV.w_frzP); exact rfl) | ((with_reducible apply PV.w_appL); exact rfl) | ((with_reducible apply PV.k_set); simp only [List.set_cons_zero, List.set_cons_succ]; exact rfl) | ((with_reducible apply PV.k_pick); simp only [PV.pick, List.nil_append, List.cons_append, List.append_nil, List.filterMap_cons, List.filterMap_nil, List.getElem?_cons_zero, List.getElem?_cons_succ]; exact rfl) | ((with_reducible apply PV.k_env); (try (simp only [PV.tgT, PV.tgN, PV.tgsN, List.length_cons, List.length_nil, Nat.reduceAdd, ↓reduceIte, List.set_cons_zero, List.set_cons_succ, Option.some.injEq])); exact rfl) | (with_reducible apply PV.w_nat) | (with_reducible apply PV.w_con) | (with_reducible apply PV.w_op) | (with_reducible apply PV.w_un) | (with_reducible apply PV.w_unF) | (with_reducible apply PV.w_cons) | (with_reducible apply PV.w_nil) | (with_reducible apply PV.w_star) | (with_reducible apply PV.w_seq) | (with_reducible apply PV.w_call) | (with_reducible apply PV.w_callF0) | (with_reducible apply PV.w_callK) | (with_reducible apply PV.w_app) | (with_reducible apply PV.w_cmeth) | (with_reducible apply PV.w_meth) | (with_reducible apply PV.w_prop) | (with_reducible apply PV.w_fld) | (with_reducible apply PV.w_if) | (with_reducible apply PV.w_andV) | (with_reducible apply PV.w_orV) | (with_reducible apply PV.w_notV) | (with_reducible apply PV.w_tst) | (with_reducible apply PV.w_tru) | (with_reducible apply PV.w_truO) | (with_reducible apply PV.w_notO) | (with_reducible apply PV.w_boolO) | (with_reducible apply PV.w_and) | (with_reducible apply PV.w_or) | (with_reducible apply PV.w_not) | (with_reducible apply PV.w_yes) | (with_reducible apply PV.w_chain) | (with_reducible apply PV.w_no) | (with_reducible apply PV.w_part) | (with_reducible apply PV.w_sl) | (with_reducible apply PV.w_slS) | (with_reducible apply PV.w_iLst) | (with_reducible apply PV.w_iTup) | (with_reducible apply PV.w_iEnL) | (with_reducible apply PV.w_iCall) | (with_reducible apply PV.w_next) | (with_reducible apply PV.w_bk) | (with_reducible apply PV.w_ct) | (with_reducible apply PV.w_sSeq) | (with_reducible apply PV.w_ret) | (with_reducible apply PV.w_retN) | (with_reducible apply PV.w_set) | (with_reducible apply PV.w_drop) | (with_reducible apply PV.w_sIf) | (with_reducible apply PV.w_asg) | (with_reducible apply PV.w_par) | (with_reducible apply PV.w_setM) | (with_reducible apply PV.w_setF) | (with_reducible apply PV.k_bl) | (with_reducible apply PV.k_int) | (with_reducible apply PV.k_tup) | (with_reducible apply PV.k_obj) | ((with_reducible apply PV.k_add); first | exact n_add _ _ | exact ev_add _ _) | ((with_reducible apply PV.k_sub); first | exact n_sub (by omega) | exact ev_sub _ _) | ((with_reducible apply PV.k_mul); first | exact n_mul (by omega) | exact ev_mul (by omega)) | ((with_reducible apply PV.k_div); first | exact n_div (by omega) (by omega) | exact ev_divL (by omega) (by omega)) | ((with_reducible apply PV.k_mod); first | exact n_mod (by omega) | exact ev_mod (by omega)) | ((with_reducible apply PV.k_cmp); first | exact n_lt _ _ | exact n_le _ _ | exact n_gt _ _ | exact ev_cmp _ _ _) | ((with_reducible apply PV.k_eq); first | exact n_eq _ _ | exact n_ne _ _ | exact ev_eq _ _ | exact ev_ne _ _ | exact ev_eqB _ _ | exact ev_neB _ _) | ((with_reducible apply PV.k_min); first | exact n_min _ _ | exact ev_min _ _) | ((with_reducible apply PV.k_max); first | exact n_max _ _ | exact ev_max _ _) | ((with_reducible apply PV.k_abs); first | exact ev_abs _) | ((with_reducible apply PV.k_gint); first | exact ev_int _ | exact ev_intB _) | ((with_reducible apply PV.k_neg); exact rfl) | ((with_reducible apply PV.k_ml); exact rfl) | ((with_reducible apply PV.k_ix); exact rfl) | ((with_reducible apply PV.k_len); exact rfl) | ((with_reducible apply PV.k_is); exact rfl) | ((with_reducible apply PV.k_fld); exact rfl) | ((with_reducible apply PV.k_lst); exact rfl) | ((with_reducible apply PV.k_tru); exact rfl) | ((with_reducible apply PV.k_st); exact rfl) | ((with_reducible apply PV.b_f); exact rfl) | ((with_reducible apply PV.b_t); exact rfl) | ((with_reducible apply PV.b_f); first | exact decide_eq_false (by omega) | exact nt_f (by omega)) | ((with_reducible apply PV.b_t); first | exact decide_eq_true (by omega) | exact nt_t (by omega)) | (refine PV.k_and ⟨rfl, rfl⟩ ?_) | (refine PV.k_and (by decide) ?_) | (refine PV.k_and (Nat.le_of_ble_eq_true rfl) ?_) | (refine PV.k_and rfl ?_)))
        rfl
      · have hz := of_decide_eq_false hz
        obtain ⟨d, hd, rd⟩ := rank_inf cA hz n
        obtain ⟨d2, hd2, rd2⟩ := rank_inf cA hz (n + 1)
        have nd := nt d hd
        have nd2 := nt d2 hd2
        have i1 := g_in cA d
        rw [hd] at i1
        rw [rd] at nd
        rw [rd2] at nd2
        have m1 := m0 d
        rw [rd] at m1
        obtain ⟨r3, q3, n3⟩ := e_next cA sA ((d + 1 : Nat) : Int)
        have lt : d < d2 := by
          by_cases z : d < d2
          · exact z
          · have := rank_mono f (show d2 ≤ d by omega); omega
        have e3 : r3 = dI d2 := by
          rcases n3 with ⟨_, h⟩ | ⟨x, rfl, h4, h5, h6⟩
          · rw [h d2 (by omega)] at hd2; cases hd2
          · have rx : rank f x = n + 1 := by
              have : rank f x = rank f (d + 1) := rank_gap (by omega) fun e h1 h2 => h6 e (by omega) h2
              rw [this, rank_succ, if_pos hd, rd]
            rw [rank_inj h5 hd2 (by rw [rx, rd2])]
        subst e3
        (repeat (first | (with_reducible refine ⟨_, nd, ?_⟩) | (with_reducible refine ⟨_, i1, ?_⟩) | (with_reducible refine ⟨_, m1, ?_⟩) | (with_reducible refine ⟨_, nd2, ?_⟩) | (with_reducible refine ⟨_, q3, ?_⟩) | ((with_reducible apply PV.w_var); exact rfl) | ((with_reducible apply PV.w_callS); exact rfl) | ((with_reducible apply PV.w_aug); exact rfl) | ((with_reducible apply PV.w_appM); exact rfl) | ((with_reducible apply PV.w_frz); exact rfl) | ((with_reducible apply PV.w_frzP); exact rfl) | ((with_reducible apply PV.w_appL); exact rfl) | ((with_reducible apply PV.k_set); simp only [List.set_cons_zero, List.set_cons_succ]; exact rfl) | ((with_reducible apply PV.k_pick); simp only [PV.pick, List.nil_append, List.cons_append, List.append_nil, List.filterMap_cons, List.filterMap_nil, List.getElem?_cons_zero, List.getElem?_cons_succ]; exact rfl) | ((with_reducible apply PV.k_env); (try (simp only [PV.tgT, PV.tgN, PV.tgsN, List.length_cons, List.length_nil, Nat.reduceAdd, ↓reduceIte, List.set_cons_zero, List.set_cons_succ, Option.some.injEq])); exact rfl) | (with_reducible apply PV.w_nat) | (with_reducible apply PV.w_con) | (with_reducible apply PV.w_op) | (with_reducible apply PV.w_un) | (with_reducible apply PV.w_unF) | (with_reducible apply PV.w_cons) | (with_reducible apply PV.w_nil) | (with_reducible apply PV.w_star) | (with_reducible apply PV.w_seq) | (with_reducible apply PV.w_call) | (with_reducible apply PV.w_callF0) | (with_reducible apply PV.w_callK) | (with_reducible apply PV.w_app) | (with_reducible apply PV.w_cmeth) | (with_reducible apply PV.w_meth) | (with_reducible apply PV.w_prop) | (with_reducible apply PV.w_fld) | (with_reducible apply PV.w_if) | (with_reducible apply PV.w_andV) | (with_reducible apply PV.w_orV) | (with_reducible apply PV.w_notV) | (with_reducible apply PV.w_tst) | (with_reducible apply PV.w_tru) | (with_reducible apply PV.w_truO) | (with_reducible apply PV.w_notO) | (with_reducible apply PV.w_boolO) | (with_reducible apply PV.w_and) | (with_reducible apply PV.w_or) | (with_reducible apply PV.w_not) | (with_reducible apply PV.w_yes) | (with_reducible apply PV.w_chain) | (with_reducible apply PV.w_no) | (with_reducible apply PV.w_part) | (with_reducible apply PV.w_sl) | (with_reducible apply PV.w_slS) | (with_reducible apply PV.w_iLst) | (with_reducible apply PV.w_iTup) | (with_reducible apply PV.w_iEnL) | (with_reducible apply PV.w_iCall) | (with_reducible apply PV.w_next) | (with_reducible apply PV.w_bk) | (with_reducible apply PV.w_ct) | (with_reducible apply PV.w_sSeq) | (with_reducible apply PV.w_ret) | (with_reducible apply PV.w_retN) | (with_reducible apply PV.w_set) | (with_reducible apply PV.w_drop) | (with_reducible apply PV.w_sIf) | (with_reducible apply PV.w_asg) | (with_reducible apply PV.w_par) | (with_reducible apply PV.w_setM) | (with_reducible apply PV.w_setF) | (with_reducible apply PV.k_bl) | (with_reducible apply PV.k_int) | (with_reducible apply PV.k_tup) | (with_reducible apply PV.k_obj) | ((with_reducible apply PV.k_add); first | exact n_add _ _ | exact ev_add _ _) | ((with_reducible apply PV.k_sub); first | exact n_sub (by omega) | exact ev_sub _ _) | ((with_reducible apply PV.k_mul); first | exact n_mul (by omega) | exact ev_mul (by omega)) | ((with_reducible apply PV.k_div); first | exact n_div (by omega) (by omega) | exact ev_divL (by omega) (by omega)) | ((with_reducible apply PV.k_mod); first | exact n_mod (by omega) | exact ev_mod (by omega)) | ((with_reducible apply PV.k_cmp); first | exact n_lt _ _ | exact n_le _ _ | exact n_gt _ _ | exact ev_cmp _ _ _) | ((with_reducible apply PV.k_eq); first | exact n_eq _ _ | exact n_ne _ _ | exact ev_eq _ _ | exact ev_ne _ _ | exact ev_eqB _ _ | exact ev_neB _ _) | ((with_reducible apply PV.k_min); first | exact n_min _ _ | exact ev_min _ _) | ((with_reducible apply PV.k_max); first | exact n_max _ _ | exact ev_max _ _) | ((with_reducible apply PV.k_abs); first | exact ev_abs _) | ((with_reducible apply PV.k_gint); first | exact ev_int _ | exact ev_intB _) | ((with_reducible apply PV.k_neg); exact rfl) | ((with_reducible apply PV.k_ml); exact rfl) | ((with_reducible apply PV.k_ix); exact rfl) | ((with_reducible apply PV.k_len); exact rfl) | ((with_reducible apply PV.k_is); exact rfl) | ((with_reducible apply PV.k_fld); exact rfl) | ((with_reducible apply PV.k_lst); exact rfl) | ((with_reducible apply PV.k_tru); exact rfl) | ((with_reducible apply PV.k_st); exact rfl) | ((with_reducible apply PV.b_f); exact rfl) | ((with_reducible apply PV.b_t); exact rfl) | ((with_reducible apply PV.b_f); first | exact decide_eq_false (by omega) | exact nt_f (by omega)) | ((with_reducible apply PV.b_t); first | exact decide_eq_true (by omega) | exact nt_t (by omega)) | (refine PV.k_and ⟨rfl, rfl⟩ ?_) | (refine PV.k_and (by decide) ?_) | (refine PV.k_and (Nat.le_of_ble_eq_true rfl) ?_) | (refine PV.k_and rfl ?_)))
        exact congrArg D.bl (decide_eq_true rfl)
theorem sort3 (a b c N : Nat) (ha : a ≤ N) (hb : b ≤ N) (hc : c ≤ N) : ∃ x y z : Nat, gSortI [.lst [dI a, dI b, dI c]] = some (.lst [dI x, dI y, dI z]) ∧ x ≤ y ∧ y ≤ z ∧ z ≤ N := by
  have il : ∀ {u v : Int} {r : List Int}, u ≤ v → PV.insI u (v :: r) = u :: v :: r := fun h => if_pos h
  have ig : ∀ {u v : Int} {r : List Int}, ¬ u ≤ v → PV.insI u (v :: r) = v :: PV.insI u r := fun h => if_neg h
  have g : gSortI [.lst [dI a, dI b, dI c]] = some (.lst ((PV.insI (a : Int) (PV.insI (b : Int) [(c : Int)])).map .int)) := rfl
  rw [g]
  by_cases h1 : b ≤ c
  · rw [il (by omega : (b : Int) ≤ c)]
    by_cases h2 : a ≤ b
    · rw [il (by omega : (a : Int) ≤ b)]; exact ⟨a, b, c, rfl, h2, h1, hc⟩
    · rw [ig (by omega : ¬ (a : Int) ≤ b)]
      by_cases h3 : a ≤ c
      · rw [il (by omega : (a : Int) ≤ c)]; exact ⟨b, a, c, rfl, by omega, h3, hc⟩
      · rw [ig (by omega : ¬ (a : Int) ≤ c)]; exact ⟨b, c, a, rfl, by omega, by omega, ha⟩
  · rw [ig (by omega : ¬ (b : Int) ≤ c)]
    by_cases h2 : a ≤ c
    · rw [il (by omega : (a : Int) ≤ c)]; exact ⟨a, c, b, rfl, h2, by omega, hb⟩
    · rw [ig (by omega : ¬ (a : Int) ≤ c)]
      by_cases h3 : a ≤ b
      · rw [show PV.insI (b : Int) [] = [(b : Int)] from rfl, il (by omega : (a : Int) ≤ b)]; exact ⟨c, a, b, rfl, by omega, h3, hb⟩
      · rw [show PV.insI (b : Int) [] = [(b : Int)] from rfl, ig (by omega : ¬ (a : Int) ≤ b)]; exact ⟨c, b, a, rfl, by omega, by omega, ha⟩
theorem law_days (x0 x2 x3 x4 x6 x7 : Sl) (x y z : Nat) (hxy : x ≤ y) (hyz : y ≤ z) {f : Nat → Bool} {A : PD.Fm} (cA : PD.Can f A) (sA : Sml A) (b : Nat) (S : LSt) (g : Gd (b + 12) S) (x9 x10 : Sl) {N : PV.Env → Prop} {T : D → PV.Env → Prop} {B C : PV.Env → Prop}
    (fin : ∀ S' y9 y10, Gd b S' → N [x0, .st S', x2, x3, x4, .p (.lst [dI x, dI y, dI z]), x6, x7, .p (oD A), y9, y10]) : wS y_law_3 [x0, .st S, x2, x3, x4, .p (.lst [dI x, dI y, dI z]), x6, x7, .p (oD A), x9, x10] N T B C := by
  have m0 := e_many0 cA sA
  have m1 := e_manyN cA sA
  have r1 := rank_mono f hxy
  have r2 := rank_mono f hyz
  have gs : gSum [.lst [dI (rank f x), dI (rank f y - rank f x), dI (rank f z - rank f y)]] = some (dI (rank f z)) := by
    show some (D.int ((rank f x : Int) + (((rank f y - rank f x : Nat) : Int) + (((rank f z - rank f y : Nat) : Int) + 0)))) = _
    congr 2; omega
  unfold y_law_3
  (repeat (first | (with_reducible refine ⟨_, m0 _, ?_⟩) | (with_reducible refine ⟨_, m1 _ _, ?_⟩) | (with_reducible refine ⟨_, gs, ?_⟩) | ((with_reducible apply PV.w_var); exact rfl) | ((with_reducible apply PV.w_callS); exact rfl) | ((with_reducible apply PV.w_aug); exact rfl) | ((with_reducible apply PV.w_appM); exact rfl) | ((with_reducible apply PV.w_frz); exact rfl) | ((with_reducible apply PV.w_frzP); exact rfl) | ((with_reducible apply PV.w_appL); exact rfl) | ((with_reducible apply PV.k_set); simp only [List.set_cons_zero, List.set_cons_succ]; exact rfl) | ((with_reducible apply PV.k_pick); simp only [PV.pick, List.nil_append, List.cons_append, List.append_nil, List.filterMap_cons, List.filterMap_nil, List.getElem?_cons_zero, List.getElem?_cons_succ]; exact rfl) | ((with_reducible apply PV.k_env); (try (simp only [PV.tgT, PV.tgN, PV.tgsN, List.length_cons, List.length_nil, Nat.reduceAdd, ↓reduceIte, List.set_cons_zero, List.set_cons_succ, Option.some.injEq])); exact rfl) | (with_reducible apply PV.w_nat) | (with_reducible apply PV.w_con) | (with_reducible apply PV.w_op) | (with_reducible apply PV.w_un) | (with_reducible apply PV.w_unF) | (with_reducible apply PV.w_cons) | (with_reducible apply PV.w_nil) | (with_reducible apply PV.w_star) | (with_reducible apply PV.w_seq) | (with_reducible apply PV.w_call) | (with_reducible apply PV.w_callF0) | (with_reducible apply PV.w_callK) | (with_reducible apply PV.w_app) | (with_reducible apply PV.w_cmeth) | (with_reducible apply PV.w_meth) | (with_reducible apply PV.w_prop) | (with_reducible apply PV.w_fld) | (with_reducible apply PV.w_if) | (with_reducible apply PV.w_andV) | (with_reducible apply PV.w_orV) | (with_reducible apply PV.w_notV) | (with_reducible apply PV.w_tst) | (with_reducible apply PV.w_tru) | (with_reducible apply PV.w_truO) | (with_reducible apply PV.w_notO) | (with_reducible apply PV.w_boolO) | (with_reducible apply PV.w_and) | (with_reducible apply PV.w_or) | (with_reducible apply PV.w_not) | (with_reducible apply PV.w_yes) | (with_reducible apply PV.w_chain) | (with_reducible apply PV.w_no) | (with_reducible apply PV.w_part) | (with_reducible apply PV.w_sl) | (with_reducible apply PV.w_slS) | (with_reducible apply PV.w_iLst) | (with_reducible apply PV.w_iTup) | (with_reducible apply PV.w_iEnL) | (with_reducible apply PV.w_iCall) | (with_reducible apply PV.w_next) | (with_reducible apply PV.w_bk) | (with_reducible apply PV.w_ct) | (with_reducible apply PV.w_sSeq) | (with_reducible apply PV.w_ret) | (with_reducible apply PV.w_retN) | (with_reducible apply PV.w_set) | (with_reducible apply PV.w_drop) | (with_reducible apply PV.w_sIf) | (with_reducible apply PV.w_asg) | (with_reducible apply PV.w_par) | (with_reducible apply PV.w_setM) | (with_reducible apply PV.w_setF) | (with_reducible apply PV.k_bl) | (with_reducible apply PV.k_int) | (with_reducible apply PV.k_tup) | (with_reducible apply PV.k_obj) | ((with_reducible apply PV.k_add); first | exact n_add _ _ | exact ev_add _ _) | ((with_reducible apply PV.k_sub); first | exact n_sub (by omega) | exact ev_sub _ _) | ((with_reducible apply PV.k_mul); first | exact n_mul (by omega) | exact ev_mul (by omega)) | ((with_reducible apply PV.k_div); first | exact n_div (by omega) (by omega) | exact ev_divL (by omega) (by omega)) | ((with_reducible apply PV.k_mod); first | exact n_mod (by omega) | exact ev_mod (by omega)) | ((with_reducible apply PV.k_cmp); first | exact n_lt _ _ | exact n_le _ _ | exact n_gt _ _ | exact ev_cmp _ _ _) | ((with_reducible apply PV.k_eq); first | exact n_eq _ _ | exact n_ne _ _ | exact ev_eq _ _ | exact ev_ne _ _ | exact ev_eqB _ _ | exact ev_neB _ _) | ((with_reducible apply PV.k_min); first | exact n_min _ _ | exact ev_min _ _) | ((with_reducible apply PV.k_max); first | exact n_max _ _ | exact ev_max _ _) | ((with_reducible apply PV.k_abs); first | exact ev_abs _) | ((with_reducible apply PV.k_gint); first | exact ev_int _ | exact ev_intB _) | ((with_reducible apply PV.k_neg); exact rfl) | ((with_reducible apply PV.k_ml); exact rfl) | ((with_reducible apply PV.k_ix); exact rfl) | ((with_reducible apply PV.k_len); exact rfl) | ((with_reducible apply PV.k_is); exact rfl) | ((with_reducible apply PV.k_fld); exact rfl) | ((with_reducible apply PV.k_lst); exact rfl) | ((with_reducible apply PV.k_tru); exact rfl) | ((with_reducible apply PV.k_st); exact rfl) | ((with_reducible apply PV.b_f); exact rfl) | ((with_reducible apply PV.b_t); exact rfl) | ((with_reducible apply PV.b_f); first | exact decide_eq_false (by omega) | exact nt_f (by omega)) | ((with_reducible apply PV.b_t); first | exact decide_eq_true (by omega) | exact nt_t (by omega)) | (refine PV.k_and ⟨rfl, rfl⟩ ?_) | (refine PV.k_and (by decide) ?_) | (refine PV.k_and (Nat.le_of_ble_eq_true rfl) ?_) | (refine PV.k_and rfl ?_)))
  refine PV.w_for ?_
  (repeat (first | (with_reducible refine ⟨_, ev_addL _ _ (Nat.le_of_ble_eq_true rfl), ?_⟩) | ((with_reducible apply PV.w_var); exact rfl) | ((with_reducible apply PV.w_callS); exact rfl) | ((with_reducible apply PV.w_aug); exact rfl) | ((with_reducible apply PV.w_appM); exact rfl) | ((with_reducible apply PV.w_frz); exact rfl) | ((with_reducible apply PV.w_frzP); exact rfl) | ((with_reducible apply PV.w_appL); exact rfl) | ((with_reducible apply PV.k_set); simp only [List.set_cons_zero, List.set_cons_succ]; exact rfl) | ((with_reducible apply PV.k_pick); simp only [PV.pick, List.nil_append, List.cons_append, List.append_nil, List.filterMap_cons, List.filterMap_nil, List.getElem?_cons_zero, List.getElem?_cons_succ]; exact rfl) | ((with_reducible apply PV.k_env); (try (simp only [PV.tgT, PV.tgN, PV.tgsN, List.length_cons, List.length_nil, Nat.reduceAdd, ↓reduceIte, List.set_cons_zero, List.set_cons_succ, Option.some.injEq])); exact rfl) | (with_reducible apply PV.w_nat) | (with_reducible apply PV.w_con) | (with_reducible apply PV.w_op) | (with_reducible apply PV.w_un) | (with_reducible apply PV.w_unF) | (with_reducible apply PV.w_cons) | (with_reducible apply PV.w_nil) | (with_reducible apply PV.w_star) | (with_reducible apply PV.w_seq) | (with_reducible apply PV.w_call) | (with_reducible apply PV.w_callF0) | (with_reducible apply PV.w_callK) | (with_reducible apply PV.w_app) | (with_reducible apply PV.w_cmeth) | (with_reducible apply PV.w_meth) | (with_reducible apply PV.w_prop) | (with_reducible apply PV.w_fld) | (with_reducible apply PV.w_if) | (with_reducible apply PV.w_andV) | (with_reducible apply PV.w_orV) | (with_reducible apply PV.w_notV) | (with_reducible apply PV.w_tst) | (with_reducible apply PV.w_tru) | (with_reducible apply PV.w_truO) | (with_reducible apply PV.w_notO) | (with_reducible apply PV.w_boolO) | (with_reducible apply PV.w_and) | (with_reducible apply PV.w_or) | (with_reducible apply PV.w_not) | (with_reducible apply PV.w_yes) | (with_reducible apply PV.w_chain) | (with_reducible apply PV.w_no) | (with_reducible apply PV.w_part) | (with_reducible apply PV.w_sl) | (with_reducible apply PV.w_slS) | (with_reducible apply PV.w_iLst) | (with_reducible apply PV.w_iTup) | (with_reducible apply PV.w_iEnL) | (with_reducible apply PV.w_iCall) | (with_reducible apply PV.w_next) | (with_reducible apply PV.w_bk) | (with_reducible apply PV.w_ct) | (with_reducible apply PV.w_sSeq) | (with_reducible apply PV.w_ret) | (with_reducible apply PV.w_retN) | (with_reducible apply PV.w_set) | (with_reducible apply PV.w_drop) | (with_reducible apply PV.w_sIf) | (with_reducible apply PV.w_asg) | (with_reducible apply PV.w_par) | (with_reducible apply PV.w_setM) | (with_reducible apply PV.w_setF) | (with_reducible apply PV.k_bl) | (with_reducible apply PV.k_int) | (with_reducible apply PV.k_tup) | (with_reducible apply PV.k_obj) | ((with_reducible apply PV.k_add); first | exact n_add _ _ | exact ev_add _ _) | ((with_reducible apply PV.k_sub); first | exact n_sub (by omega) | exact ev_sub _ _) | ((with_reducible apply PV.k_mul); first | exact n_mul (by omega) | exact ev_mul (by omega)) | ((with_reducible apply PV.k_div); first | exact n_div (by omega) (by omega) | exact ev_divL (by omega) (by omega)) | ((with_reducible apply PV.k_mod); first | exact n_mod (by omega) | exact ev_mod (by omega)) | ((with_reducible apply PV.k_cmp); first | exact n_lt _ _ | exact n_le _ _ | exact n_gt _ _ | exact ev_cmp _ _ _) | ((with_reducible apply PV.k_eq); first | exact n_eq _ _ | exact n_ne _ _ | exact ev_eq _ _ | exact ev_ne _ _ | exact ev_eqB _ _ | exact ev_neB _ _) | ((with_reducible apply PV.k_min); first | exact n_min _ _ | exact ev_min _ _) | ((with_reducible apply PV.k_max); first | exact n_max _ _ | exact ev_max _ _) | ((with_reducible apply PV.k_abs); first | exact ev_abs _) | ((with_reducible apply PV.k_gint); first | exact ev_int _ | exact ev_intB _) | ((with_reducible apply PV.k_neg); exact rfl) | ((with_reducible apply PV.k_ml); exact rfl) | ((with_reducible apply PV.k_ix); exact rfl) | ((with_reducible apply PV.k_len); exact rfl) | ((with_reducible apply PV.k_is); exact rfl) | ((with_reducible apply PV.k_fld); exact rfl) | ((with_reducible apply PV.k_lst); exact rfl) | ((with_reducible apply PV.k_tru); exact rfl) | ((with_reducible apply PV.k_st); exact rfl) | ((with_reducible apply PV.b_f); exact rfl) | ((with_reducible apply PV.b_t); exact rfl) | ((with_reducible apply PV.b_f); first | exact decide_eq_false (by omega) | exact nt_f (by omega)) | ((with_reducible apply PV.b_t); first | exact decide_eq_true (by omega) | exact nt_t (by omega)) | (refine PV.k_and ⟨rfl, rfl⟩ ?_) | (refine PV.k_and (by decide) ?_) | (refine PV.k_and (Nat.le_of_ble_eq_true rfl) ?_) | (refine PV.k_and rfl ?_)))
  have hi : ∀ d ∈ ([dI x, dI y, dI z] ++ [dI (z + 1)] : List D), ∃ n : Nat, d = dI n := by
    simp only [List.cons_append, List.nil_append, List.forall_mem_cons]
    exact ⟨⟨_, rfl⟩, ⟨_, rfl⟩, ⟨_, rfl⟩, ⟨_, rfl⟩, fun _ h => nomatch h⟩
  refine ⟨fun k δ => ∃ S' x9 x10, δ = [x0, .st S', x2, x3, x4, .p (.lst [dI x, dI y, dI z]), x6, x7, .p (oD A), x9, x10] ∧ Gd (b + 3 * (4 - k)) S', ⟨_, _, _, rfl, g⟩, fun j d δ hj ⟨S', y9, y10, e, g'⟩ => ?_, fun δ ⟨S', y9, y10, e, g'⟩ => ?_⟩
  · subst e
    obtain ⟨n, rfl⟩ := hi d (List.mem_of_getElem? hj)
    have hj4 : j < 4 := by
      have := (List.getElem?_eq_some_iff.mp hj).1
      exact this
    refine ⟨_, (by (first | (simp only [PV.wipeE, PV.restE, PV.tgN, PV.tgT, PV.tgsN, List.length_cons, List.length_nil, Nat.reduceAdd, ↓reduceIte, List.getElem?_cons_zero, List.getElem?_cons_succ, List.set_cons_zero, List.set_cons_succ] <;> exact rfl) | exact rfl)), ?_⟩
    dsimp only
    obtain ⟨v1, S1, t1, _, d1⟩ := tk (n := 90) (b := b + 3 * (4 - (j + 1)) + 2) (g'.mono (by omega)) (by omega) (by omega)
    obtain ⟨v2, S2, t2, _, d2⟩ := tkB (n := 10 ^ 26) (b := b + 3 * (4 - (j + 1)) + 1) d1 (by omega) (by omega)
    obtain ⟨d, S3, hd, t3, d3⟩ := e_pick [dI v1, dI v2] S2 (b + 3 * (4 - (j + 1))) d2 (by simp) (by show 2 < 1000000000; omega)
    obtain ⟨m, rfl⟩ : ∃ m : Nat, d = dI m := by
      rcases List.mem_cons.mp hd with rfl | hd
      · exact ⟨_, rfl⟩
      · rcases List.mem_cons.mp hd with rfl | hd
        · exact ⟨_, rfl⟩
        · exact nomatch hd
    have q := e_back cA sA n m
    unfold y_law_2
    (repeat (first | (with_reducible refine ⟨_, _, t1, ?_⟩) | (with_reducible refine ⟨_, n_pow (by omega) (by omega), ?_⟩) | (with_reducible refine ⟨_, _, t2, ?_⟩) | (with_reducible refine ⟨_, _, t3, ?_⟩) | (with_reducible refine ⟨_, q, ?_⟩) | ((with_reducible apply PV.w_var); exact rfl) | ((with_reducible apply PV.w_callS); exact rfl) | ((with_reducible apply PV.w_aug); exact rfl) | ((with_reducible apply PV.w_appM); exact rfl) | ((with_reducible apply PV.w_frz); exact rfl) | ((with_reducible apply PV.w_frzP); exact rfl) | ((with_reducible apply PV.w_appL); exact rfl) | ((with_reducible apply PV.k_set); simp only [List.set_cons_zero, List.set_cons_succ]; exact rfl) | ((with_reducible apply PV.k_pick); simp only [PV.pick, List.nil_append, List.cons_append, List.append_nil, List.filterMap_cons, List.filterMap_nil, List.getElem?_cons_zero, List.getElem?_cons_succ]; exact rfl) | ((with_reducible apply PV.k_env); (try (simp only [PV.tgT, PV.tgN, PV.tgsN, List.length_cons, List.length_nil, Nat.reduceAdd, ↓reduceIte, List.set_cons_zero, List.set_cons_succ, Option.some.injEq])); exact rfl) | (with_reducible apply PV.w_nat) | (with_reducible apply PV.w_con) | (with_reducible apply PV.w_op) | (with_reducible apply PV.w_un) | (with_reducible apply PV.w_unF) | (with_reducible apply PV.w_cons) | (with_reducible apply PV.w_nil) | (with_reducible apply PV.w_star) | (with_reducible apply PV.w_seq) | (with_reducible apply PV.w_call) | (with_reducible apply PV.w_callF0) | (with_reducible apply PV.w_callK) | (with_reducible apply PV.w_app) | (with_reducible apply PV.w_cmeth) | (with_reducible apply PV.w_meth) | (with_reducible apply PV.w_prop) | (with_reducible apply PV.w_fld) | (with_reducible apply PV.w_if) | (with_reducible apply PV.w_andV) | (with_reducible apply PV.w_orV) | (with_reducible apply PV.w_notV) | (with_reducible apply PV.w_tst) | (with_reducible apply PV.w_tru) | (with_reducible apply PV.w_truO) | (with_reducible apply PV.w_notO) | (with_reducible apply PV.w_boolO) | (with_reducible apply PV.w_and) | (with_reducible apply PV.w_or) | (with_reducible apply PV.w_not) | (with_reducible apply PV.w_yes) | (with_reducible apply PV.w_chain) | (with_reducible apply PV.w_no) | (with_reducible apply PV.w_part) | (with_reducible apply PV.w_sl) | (with_reducible apply PV.w_slS) | (with_reducible apply PV.w_iLst) | (with_reducible apply PV.w_iTup) | (with_reducible apply PV.w_iEnL) | (with_reducible apply PV.w_iCall) | (with_reducible apply PV.w_next) | (with_reducible apply PV.w_bk) | (with_reducible apply PV.w_ct) | (with_reducible apply PV.w_sSeq) | (with_reducible apply PV.w_ret) | (with_reducible apply PV.w_retN) | (with_reducible apply PV.w_set) | (with_reducible apply PV.w_drop) | (with_reducible apply PV.w_sIf) | (with_reducible apply PV.w_asg) | (with_reducible apply PV.w_par) | (with_reducible apply PV.w_setM) | (with_reducible apply PV.w_setF) | (with_reducible apply PV.k_bl) | (with_reducible apply PV.k_int) | (with_reducible apply PV.k_tup) | (with_reducible apply PV.k_obj) | ((with_reducible apply PV.k_add); first | exact n_add _ _ | exact ev_add _ _) | ((with_reducible apply PV.k_sub); first | exact n_sub (by omega) | exact ev_sub _ _) | ((with_reducible apply PV.k_mul); first | exact n_mul (by omega) | exact ev_mul (by omega)) | ((with_reducible apply PV.k_div); first | exact n_div (by omega) (by omega) | exact ev_divL (by omega) (by omega)) | ((with_reducible apply PV.k_mod); first | exact n_mod (by omega) | exact ev_mod (by omega)) | ((with_reducible apply PV.k_cmp); first | exact n_lt _ _ | exact n_le _ _ | exact n_gt _ _ | exact ev_cmp _ _ _) | ((with_reducible apply PV.k_eq); first | exact n_eq _ _ | exact n_ne _ _ | exact ev_eq _ _ | exact ev_ne _ _ | exact ev_eqB _ _ | exact ev_neB _ _) | ((with_reducible apply PV.k_min); first | exact n_min _ _ | exact ev_min _ _) | ((with_reducible apply PV.k_max); first | exact n_max _ _ | exact ev_max _ _) | ((with_reducible apply PV.k_abs); first | exact ev_abs _) | ((with_reducible apply PV.k_gint); first | exact ev_int _ | exact ev_intB _) | ((with_reducible apply PV.k_neg); exact rfl) | ((with_reducible apply PV.k_ml); exact rfl) | ((with_reducible apply PV.k_ix); exact rfl) | ((with_reducible apply PV.k_len); exact rfl) | ((with_reducible apply PV.k_is); exact rfl) | ((with_reducible apply PV.k_fld); exact rfl) | ((with_reducible apply PV.k_lst); exact rfl) | ((with_reducible apply PV.k_tru); exact rfl) | ((with_reducible apply PV.k_st); exact rfl) | ((with_reducible apply PV.b_f); exact rfl) | ((with_reducible apply PV.b_t); exact rfl) | ((with_reducible apply PV.b_f); first | exact decide_eq_false (by omega) | exact nt_f (by omega)) | ((with_reducible apply PV.b_t); first | exact decide_eq_true (by omega) | exact nt_t (by omega)) | (refine PV.k_and ⟨rfl, rfl⟩ ?_) | (refine PV.k_and (by decide) ?_) | (refine PV.k_and (Nat.le_of_ble_eq_true rfl) ?_) | (refine PV.k_and rfl ?_)))
    exact ⟨_, _, _, rfl, d3⟩
  · subst e
    exact fin _ _ _ (g'.mono (by omega))
theorem law_turn (x0 : Sl) (b : Nat) (S : LSt) (g : Gd (b + 300) S) (x2 x3 x4 x5 x6 x7 x8 x9 x10 : Sl) {N : PV.Env → Prop} {T : D → PV.Env → Prop} {B C : PV.Env → Prop} (fin : ∀ S' y3 y4 y5 y6 y7 y8 y9 y10, Gd b S' → N [x0, .st S', x2, y3, y4, y5, y6, y7, y8, y9, y10]) :
    wS y_law_4 [x0, .st S, x2, x3, x4, x5, x6, x7, x8, x9, x10] N T B C := by
  obtain ⟨h1, c1, S1, t1, hh1, hc1, hz1, d1⟩ := e_set 30 S (b + 230) (by omega) (by omega) (g.mono (by omega))
  obtain ⟨h2, c2, S2, t2, hh2, hc2, hz2, d2⟩ := e_set 30 S1 (b + 160) (by omega) (by omega) d1
  obtain ⟨F, qF, cF⟩ := e_pattern h1 c1 (by omega) hc1 (by omega)
  obtain ⟨G, qG, cG⟩ := e_pattern h2 c2 (by omega) hc2 (by omega)
  obtain ⟨v1, S3, t3, l1, d3⟩ := tk (n := 100) (b := b + 159) d2 (by omega) (by omega)
  obtain ⟨v2, S4, t4, l2, d4⟩ := tkB (n := 10 ^ 12) (b := b + 158) d3 (by omega) (by omega)
  obtain ⟨v3, S5, t5, l3, d5⟩ := tkB (n := 10 ^ 28) (b := b + 157) d4 (by omega) (by omega)
  obtain ⟨x, y, z, q3, hxy, hyz, hz⟩ := sort3 v1 v2 v3 (10 ^ 28) (by omega) (by omega) (by omega)
  have eF : PD.EP (hasM h1 c1) 60 (c1.length * c2.length) := PD.EP.up (hasM_ep h1 c1 hc1) (by omega) hc2
  have eG : PD.EP (hasM h2 c2) 60 (c1.length * c2.length) := by rw [Nat.mul_comm]; exact PD.EP.up (hasM_ep h2 c2 hc2) (by omega) hc1
  have sm : Small 60 (c1.length * c2.length) := ⟨by omega, Nat.le_trans (Nat.mul_le_mul hz1 hz2) (by omega)⟩
  have sF := sml_of sm eF cF
  have sG := sml_of sm eG cG
  obtain ⟨R1, q1, k1⟩ := e_or cF cG sF sG
  obtain ⟨R2, q2, k2⟩ := e_and cF cG sF sG
  obtain ⟨R4, q4, k4⟩ := e_sub cF cG sF sG
  obtain ⟨R5, q5, k5⟩ := e_inv cF sF
  have sl : gSl (.lst [dI x, dI y, dI z]) (some ((1 : Nat) : Int)) none = some (.lst [dI y, dI z]) := rfl
  unfold y_law_4
  (repeat (first | (with_reducible refine ⟨_, _, t1, ?_⟩) | (with_reducible refine ⟨_, _, t2, ?_⟩) | (with_reducible refine ⟨_, _, t3, ?_⟩) | (with_reducible refine ⟨_, _, t4, ?_⟩) | (with_reducible refine ⟨_, _, t5, ?_⟩) | (with_reducible refine ⟨_, mD qF, ?_⟩) | (with_reducible refine ⟨_, mD qG, ?_⟩) | (with_reducible refine ⟨_, n_pow (by omega) (by omega), ?_⟩) | (with_reducible refine ⟨_, q3, ?_⟩) | ((with_reducible apply PV.w_var); exact rfl) | ((with_reducible apply PV.w_callS); exact rfl) | ((with_reducible apply PV.w_aug); exact rfl) | ((with_reducible apply PV.w_appM); exact rfl) | ((with_reducible apply PV.w_frz); exact rfl) | ((with_reducible apply PV.w_frzP); exact rfl) | ((with_reducible apply PV.w_appL); exact rfl) | ((with_reducible apply PV.k_set); simp only [List.set_cons_zero, List.set_cons_succ]; exact rfl) | ((with_reducible apply PV.k_pick); simp only [PV.pick, List.nil_append, List.cons_append, List.append_nil, List.filterMap_cons, List.filterMap_nil, List.getElem?_cons_zero, List.getElem?_cons_succ]; exact rfl) | ((with_reducible apply PV.k_env); (try (simp only [PV.tgT, PV.tgN, PV.tgsN, List.length_cons, List.length_nil, Nat.reduceAdd, ↓reduceIte, List.set_cons_zero, List.set_cons_succ, Option.some.injEq])); exact rfl) | (with_reducible apply PV.w_nat) | (with_reducible apply PV.w_con) | (with_reducible apply PV.w_op) | (with_reducible apply PV.w_un) | (with_reducible apply PV.w_unF) | (with_reducible apply PV.w_cons) | (with_reducible apply PV.w_nil) | (with_reducible apply PV.w_star) | (with_reducible apply PV.w_seq) | (with_reducible apply PV.w_call) | (with_reducible apply PV.w_callF0) | (with_reducible apply PV.w_callK) | (with_reducible apply PV.w_app) | (with_reducible apply PV.w_cmeth) | (with_reducible apply PV.w_meth) | (with_reducible apply PV.w_prop) | (with_reducible apply PV.w_fld) | (with_reducible apply PV.w_if) | (with_reducible apply PV.w_andV) | (with_reducible apply PV.w_orV) | (with_reducible apply PV.w_notV) | (with_reducible apply PV.w_tst) | (with_reducible apply PV.w_tru) | (with_reducible apply PV.w_truO) | (with_reducible apply PV.w_notO) | (with_reducible apply PV.w_boolO) | (with_reducible apply PV.w_and) | (with_reducible apply PV.w_or) | (with_reducible apply PV.w_not) | (with_reducible apply PV.w_yes) | (with_reducible apply PV.w_chain) | (with_reducible apply PV.w_no) | (with_reducible apply PV.w_part) | (with_reducible apply PV.w_sl) | (with_reducible apply PV.w_slS) | (with_reducible apply PV.w_iLst) | (with_reducible apply PV.w_iTup) | (with_reducible apply PV.w_iEnL) | (with_reducible apply PV.w_iCall) | (with_reducible apply PV.w_next) | (with_reducible apply PV.w_bk) | (with_reducible apply PV.w_ct) | (with_reducible apply PV.w_sSeq) | (with_reducible apply PV.w_ret) | (with_reducible apply PV.w_retN) | (with_reducible apply PV.w_set) | (with_reducible apply PV.w_drop) | (with_reducible apply PV.w_sIf) | (with_reducible apply PV.w_asg) | (with_reducible apply PV.w_par) | (with_reducible apply PV.w_setM) | (with_reducible apply PV.w_setF) | (with_reducible apply PV.k_bl) | (with_reducible apply PV.k_int) | (with_reducible apply PV.k_tup) | (with_reducible apply PV.k_obj) | ((with_reducible apply PV.k_add); first | exact n_add _ _ | exact ev_add _ _) | ((with_reducible apply PV.k_sub); first | exact n_sub (by omega) | exact ev_sub _ _) | ((with_reducible apply PV.k_mul); first | exact n_mul (by omega) | exact ev_mul (by omega)) | ((with_reducible apply PV.k_div); first | exact n_div (by omega) (by omega) | exact ev_divL (by omega) (by omega)) | ((with_reducible apply PV.k_mod); first | exact n_mod (by omega) | exact ev_mod (by omega)) | ((with_reducible apply PV.k_cmp); first | exact n_lt _ _ | exact n_le _ _ | exact n_gt _ _ | exact ev_cmp _ _ _) | ((with_reducible apply PV.k_eq); first | exact n_eq _ _ | exact n_ne _ _ | exact ev_eq _ _ | exact ev_ne _ _ | exact ev_eqB _ _ | exact ev_neB _ _) | ((with_reducible apply PV.k_min); first | exact n_min _ _ | exact ev_min _ _) | ((with_reducible apply PV.k_max); first | exact n_max _ _ | exact ev_max _ _) | ((with_reducible apply PV.k_abs); first | exact ev_abs _) | ((with_reducible apply PV.k_gint); first | exact ev_int _ | exact ev_intB _) | ((with_reducible apply PV.k_neg); exact rfl) | ((with_reducible apply PV.k_ml); exact rfl) | ((with_reducible apply PV.k_ix); exact rfl) | ((with_reducible apply PV.k_len); exact rfl) | ((with_reducible apply PV.k_is); exact rfl) | ((with_reducible apply PV.k_fld); exact rfl) | ((with_reducible apply PV.k_lst); exact rfl) | ((with_reducible apply PV.k_tru); exact rfl) | ((with_reducible apply PV.k_st); exact rfl) | ((with_reducible apply PV.b_f); exact rfl) | ((with_reducible apply PV.b_t); exact rfl) | ((with_reducible apply PV.b_f); first | exact decide_eq_false (by omega) | exact nt_f (by omega)) | ((with_reducible apply PV.b_t); first | exact decide_eq_true (by omega) | exact nt_t (by omega)) | (refine PV.k_and ⟨rfl, rfl⟩ ?_) | (refine PV.k_and (by decide) ?_) | (refine PV.k_and (Nat.le_of_ble_eq_true rfl) ?_) | (refine PV.k_and rfl ?_)))
  refine PV.w_mid (fun δ => ∃ y6 y7, δ = [x0, .st S5, x2, .p (oD F), .p (oD G), .p (.lst [dI x, dI y, dI z]), y6, y7, x8, x9, x10]) ?_ fun δ ⟨y6, y7, e⟩ => ?_
  · refine PV.w_for ?_
    refine wp.ok (a := PV.zipD [dI x, dI y, dI z] [dI y, dI z]) (δ1 := [x0, .st S5, x2, .p (oD F), .p (oD G), .p (.lst [dI x, dI y, dI z]), x6, x7, x8, x9, x10]) ?_ ?_
    · unfold PV.iZip
      rw [vE (d := .lst [dI x, dI y, dI z]) rfl, PV.R.bind_ok]
      rw [show dSl (dV 5) (dPart (dC (D.int 1))) dNo [x0, .st S5, x2, .p (oD F), .p (oD G), .p (.lst [dI x, dI y, dI z]), x6, x7, x8, x9, x10] = .ok (.lst [dI y, dI z]) [x0, .st S5, x2, .p (oD F), .p (oD G), .p (.lst [dI x, dI y, dI z]), x6, x7, x8, x9, x10] from slE rfl rfl rfl sl, PV.R.bind_ok]
    have hi : ∀ d ∈ PV.zipD [dI x, dI y, dI z] [dI y, dI z], ∃ p q : Nat, d = .tup [dI p, dI q] ∧ p ≤ q := by
      intro d hd
      have e : PV.zipD [dI x, dI y, dI z] [dI y, dI z] = [.tup [dI x, dI y], .tup [dI y, dI z]] := rfl
      rw [e] at hd
      rcases List.mem_cons.mp hd with rfl | hd
      · exact ⟨_, _, rfl, hxy⟩
      · rcases List.mem_cons.mp hd with rfl | hd
        · exact ⟨_, _, rfl, hyz⟩
        · exact nomatch hd
    refine ⟨fun k δ => ∃ y6 y7, δ = [x0, .st S5, x2, .p (oD F), .p (oD G), .p (.lst [dI x, dI y, dI z]), y6, y7, x8, x9, x10], ⟨_, _, rfl⟩, fun j d δ hj ⟨y6, y7, e⟩ => ?_, fun δ ⟨y6, y7, e⟩ => ⟨y6, y7, e⟩⟩
    subst e
    obtain ⟨p, q, rfl, hpq⟩ := hi d (List.mem_of_getElem? hj)
    refine ⟨_, (by (first | (simp only [PV.wipeE, PV.restE, PV.tgN, PV.tgT, PV.tgsN, List.length_cons, List.length_nil, Nat.reduceAdd, ↓reduceIte, List.getElem?_cons_zero, List.getElem?_cons_succ, List.set_cons_zero, List.set_cons_succ] <;> exact rfl) | exact rfl)), ?_⟩
    dsimp only
    have a1 := e_sums sm eF cF eG cG p q hpq
    have a2 := e_sums sm eG cG eF cF p (q + 40) (by omega)
    unfold y_law_1
    (repeat (first | (with_reducible refine ⟨_, a1, ?_⟩) | (with_reducible refine ⟨_, a2, ?_⟩) | ((with_reducible apply PV.w_var); exact rfl) | ((with_reducible apply PV.w_callS); exact rfl) | ((with_reducible apply PV.w_aug); exact rfl) | ((with_reducible apply PV.w_appM); exact rfl) | ((with_reducible apply PV.w_frz); exact rfl) | ((with_reducible apply PV.w_frzP); exact rfl) | ((with_reducible apply PV.w_appL); exact rfl) | ((with_reducible apply PV.k_set); simp only [List.set_cons_zero, List.set_cons_succ]; exact rfl) | ((with_reducible apply PV.k_pick); simp only [PV.pick, List.nil_append, List.cons_append, List.append_nil, List.filterMap_cons, List.filterMap_nil, List.getElem?_cons_zero, List.getElem?_cons_succ]; exact rfl) | ((with_reducible apply PV.k_env); (try (simp only [PV.tgT, PV.tgN, PV.tgsN, List.length_cons, List.length_nil, Nat.reduceAdd, ↓reduceIte, List.set_cons_zero, List.set_cons_succ, Option.some.injEq])); exact rfl) | (with_reducible apply PV.w_nat) | (with_reducible apply PV.w_con) | (with_reducible apply PV.w_op) | (with_reducible apply PV.w_un) | (with_reducible apply PV.w_unF) | (with_reducible apply PV.w_cons) | (with_reducible apply PV.w_nil) | (with_reducible apply PV.w_star) | (with_reducible apply PV.w_seq) | (with_reducible apply PV.w_call) | (with_reducible apply PV.w_callF0) | (with_reducible apply PV.w_callK) | (with_reducible apply PV.w_app) | (with_reducible apply PV.w_cmeth) | (with_reducible apply PV.w_meth) | (with_reducible apply PV.w_prop) | (with_reducible apply PV.w_fld) | (with_reducible apply PV.w_if) | (with_reducible apply PV.w_andV) | (with_reducible apply PV.w_orV) | (with_reducible apply PV.w_notV) | (with_reducible apply PV.w_tst) | (with_reducible apply PV.w_tru) | (with_reducible apply PV.w_truO) | (with_reducible apply PV.w_notO) | (with_reducible apply PV.w_boolO) | (with_reducible apply PV.w_and) | (with_reducible apply PV.w_or) | (with_reducible apply PV.w_not) | (with_reducible apply PV.w_yes) | (with_reducible apply PV.w_chain) | (with_reducible apply PV.w_no) | (with_reducible apply PV.w_part) | (with_reducible apply PV.w_sl) | (with_reducible apply PV.w_slS) | (with_reducible apply PV.w_iLst) | (with_reducible apply PV.w_iTup) | (with_reducible apply PV.w_iEnL) | (with_reducible apply PV.w_iCall) | (with_reducible apply PV.w_next) | (with_reducible apply PV.w_bk) | (with_reducible apply PV.w_ct) | (with_reducible apply PV.w_sSeq) | (with_reducible apply PV.w_ret) | (with_reducible apply PV.w_retN) | (with_reducible apply PV.w_set) | (with_reducible apply PV.w_drop) | (with_reducible apply PV.w_sIf) | (with_reducible apply PV.w_asg) | (with_reducible apply PV.w_par) | (with_reducible apply PV.w_setM) | (with_reducible apply PV.w_setF) | (with_reducible apply PV.k_bl) | (with_reducible apply PV.k_int) | (with_reducible apply PV.k_tup) | (with_reducible apply PV.k_obj) | ((with_reducible apply PV.k_add); first | exact n_add _ _ | exact ev_add _ _) | ((with_reducible apply PV.k_sub); first | exact n_sub (by omega) | exact ev_sub _ _) | ((with_reducible apply PV.k_mul); first | exact n_mul (by omega) | exact ev_mul (by omega)) | ((with_reducible apply PV.k_div); first | exact n_div (by omega) (by omega) | exact ev_divL (by omega) (by omega)) | ((with_reducible apply PV.k_mod); first | exact n_mod (by omega) | exact ev_mod (by omega)) | ((with_reducible apply PV.k_cmp); first | exact n_lt _ _ | exact n_le _ _ | exact n_gt _ _ | exact ev_cmp _ _ _) | ((with_reducible apply PV.k_eq); first | exact n_eq _ _ | exact n_ne _ _ | exact ev_eq _ _ | exact ev_ne _ _ | exact ev_eqB _ _ | exact ev_neB _ _) | ((with_reducible apply PV.k_min); first | exact n_min _ _ | exact ev_min _ _) | ((with_reducible apply PV.k_max); first | exact n_max _ _ | exact ev_max _ _) | ((with_reducible apply PV.k_abs); first | exact ev_abs _) | ((with_reducible apply PV.k_gint); first | exact ev_int _ | exact ev_intB _) | ((with_reducible apply PV.k_neg); exact rfl) | ((with_reducible apply PV.k_ml); exact rfl) | ((with_reducible apply PV.k_ix); exact rfl) | ((with_reducible apply PV.k_len); exact rfl) | ((with_reducible apply PV.k_is); exact rfl) | ((with_reducible apply PV.k_fld); exact rfl) | ((with_reducible apply PV.k_lst); exact rfl) | ((with_reducible apply PV.k_tru); exact rfl) | ((with_reducible apply PV.k_st); exact rfl) | ((with_reducible apply PV.b_f); exact rfl) | ((with_reducible apply PV.b_t); exact rfl) | ((with_reducible apply PV.b_f); first | exact decide_eq_false (by omega) | exact nt_f (by omega)) | ((with_reducible apply PV.b_t); first | exact decide_eq_true (by omega) | exact nt_t (by omega)) | (refine PV.k_and ⟨rfl, rfl⟩ ?_) | (refine PV.k_and (by decide) ?_) | (refine PV.k_and (Nat.le_of_ble_eq_true rfl) ?_) | (refine PV.k_and rfl ?_)))
    exact ⟨_, _, rfl⟩
  · subst e
    refine PV.w_for ?_
    (repeat (first | (with_reducible refine ⟨_, g2 q1, ?_⟩) | (with_reducible refine ⟨_, g2 q2, ?_⟩) | (with_reducible refine ⟨_, g2 q4, ?_⟩) | (with_reducible refine ⟨_, g1 q5, ?_⟩) | ((with_reducible apply PV.w_var); exact rfl) | ((with_reducible apply PV.w_callS); exact rfl) | ((with_reducible apply PV.w_aug); exact rfl) | ((with_reducible apply PV.w_appM); exact rfl) | ((with_reducible apply PV.w_frz); exact rfl) | ((with_reducible apply PV.w_frzP); exact rfl) | ((with_reducible apply PV.w_appL); exact rfl) | ((with_reducible apply PV.k_set); simp only [List.set_cons_zero, List.set_cons_succ]; exact rfl) | ((with_reducible apply PV.k_pick); simp only [PV.pick, List.nil_append, List.cons_append, List.append_nil, List.filterMap_cons, List.filterMap_nil, List.getElem?_cons_zero, List.getElem?_cons_succ]; exact rfl) | ((with_reducible apply PV.k_env); (try (simp only [PV.tgT, PV.tgN, PV.tgsN, List.length_cons, List.length_nil, Nat.reduceAdd, ↓reduceIte, List.set_cons_zero, List.set_cons_succ, Option.some.injEq])); exact rfl) | (with_reducible apply PV.w_nat) | (with_reducible apply PV.w_con) | (with_reducible apply PV.w_op) | (with_reducible apply PV.w_un) | (with_reducible apply PV.w_unF) | (with_reducible apply PV.w_cons) | (with_reducible apply PV.w_nil) | (with_reducible apply PV.w_star) | (with_reducible apply PV.w_seq) | (with_reducible apply PV.w_call) | (with_reducible apply PV.w_callF0) | (with_reducible apply PV.w_callK) | (with_reducible apply PV.w_app) | (with_reducible apply PV.w_cmeth) | (with_reducible apply PV.w_meth) | (with_reducible apply PV.w_prop) | (with_reducible apply PV.w_fld) | (with_reducible apply PV.w_if) | (with_reducible apply PV.w_andV) | (with_reducible apply PV.w_orV) | (with_reducible apply PV.w_notV) | (with_reducible apply PV.w_tst) | (with_reducible apply PV.w_tru) | (with_reducible apply PV.w_truO) | (with_reducible apply PV.w_notO) | (with_reducible apply PV.w_boolO) | (with_reducible apply PV.w_and) | (with_reducible apply PV.w_or) | (with_reducible apply PV.w_not) | (with_reducible apply PV.w_yes) | (with_reducible apply PV.w_chain) | (with_reducible apply PV.w_no) | (with_reducible apply PV.w_part) | (with_reducible apply PV.w_sl) | (with_reducible apply PV.w_slS) | (with_reducible apply PV.w_iLst) | (with_reducible apply PV.w_iTup) | (with_reducible apply PV.w_iEnL) | (with_reducible apply PV.w_iCall) | (with_reducible apply PV.w_next) | (with_reducible apply PV.w_bk) | (with_reducible apply PV.w_ct) | (with_reducible apply PV.w_sSeq) | (with_reducible apply PV.w_ret) | (with_reducible apply PV.w_retN) | (with_reducible apply PV.w_set) | (with_reducible apply PV.w_drop) | (with_reducible apply PV.w_sIf) | (with_reducible apply PV.w_asg) | (with_reducible apply PV.w_par) | (with_reducible apply PV.w_setM) | (with_reducible apply PV.w_setF) | (with_reducible apply PV.k_bl) | (with_reducible apply PV.k_int) | (with_reducible apply PV.k_tup) | (with_reducible apply PV.k_obj) | ((with_reducible apply PV.k_add); first | exact n_add _ _ | exact ev_add _ _) | ((with_reducible apply PV.k_sub); first | exact n_sub (by omega) | exact ev_sub _ _) | ((with_reducible apply PV.k_mul); first | exact n_mul (by omega) | exact ev_mul (by omega)) | ((with_reducible apply PV.k_div); first | exact n_div (by omega) (by omega) | exact ev_divL (by omega) (by omega)) | ((with_reducible apply PV.k_mod); first | exact n_mod (by omega) | exact ev_mod (by omega)) | ((with_reducible apply PV.k_cmp); first | exact n_lt _ _ | exact n_le _ _ | exact n_gt _ _ | exact ev_cmp _ _ _) | ((with_reducible apply PV.k_eq); first | exact n_eq _ _ | exact n_ne _ _ | exact ev_eq _ _ | exact ev_ne _ _ | exact ev_eqB _ _ | exact ev_neB _ _) | ((with_reducible apply PV.k_min); first | exact n_min _ _ | exact ev_min _ _) | ((with_reducible apply PV.k_max); first | exact n_max _ _ | exact ev_max _ _) | ((with_reducible apply PV.k_abs); first | exact ev_abs _) | ((with_reducible apply PV.k_gint); first | exact ev_int _ | exact ev_intB _) | ((with_reducible apply PV.k_neg); exact rfl) | ((with_reducible apply PV.k_ml); exact rfl) | ((with_reducible apply PV.k_ix); exact rfl) | ((with_reducible apply PV.k_len); exact rfl) | ((with_reducible apply PV.k_is); exact rfl) | ((with_reducible apply PV.k_fld); exact rfl) | ((with_reducible apply PV.k_lst); exact rfl) | ((with_reducible apply PV.k_tru); exact rfl) | ((with_reducible apply PV.k_st); exact rfl) | ((with_reducible apply PV.b_f); exact rfl) | ((with_reducible apply PV.b_t); exact rfl) | ((with_reducible apply PV.b_f); first | exact decide_eq_false (by omega) | exact nt_f (by omega)) | ((with_reducible apply PV.b_t); first | exact decide_eq_true (by omega) | exact nt_t (by omega)) | (refine PV.k_and ⟨rfl, rfl⟩ ?_) | (refine PV.k_and (by decide) ?_) | (refine PV.k_and (Nat.le_of_ble_eq_true rfl) ?_) | (refine PV.k_and rfl ?_)))
    have hi : ∀ d ∈ ([oD F, oD G, oD R1, oD R2, oD R4, oD R5] : List D), ∃ f A, d = oD A ∧ PD.Can f A ∧ Sml A := by
      simp only [List.forall_mem_cons]
      exact ⟨⟨_, _, rfl, cF, sF⟩, ⟨_, _, rfl, cG, sG⟩, ⟨_, _, rfl, k1, sml_of sm (PD.EP.op (fun a b => a || b) eF eG) k1⟩, ⟨_, _, rfl, k2, sml_of sm (PD.EP.op (fun a b => a && b) eF eG) k2⟩, ⟨_, _, rfl, k4, sml_of sm (PD.EP.op (fun a b => a && !b) eF eG) k4⟩, ⟨_, _, rfl, k5, sml_of sm (PD.EP.not eF) k5⟩, fun _ h => nomatch h⟩
    refine ⟨fun k δ => ∃ S' y8 y9 y10, δ = [x0, .st S', x2, .p (oD F), .p (oD G), .p (.lst [dI x, dI y, dI z]), y6, y7, y8, y9, y10] ∧ Gd (b + 12 * (6 - k)) S', ⟨_, _, _, _, rfl, d5.mono (by omega)⟩, fun j d δ hj ⟨S', y8, y9, y10, e, g'⟩ => ?_, fun δ ⟨S', y8, y9, y10, e, g'⟩ => ?_⟩
    · subst e
      obtain ⟨f, A, rfl, cA, sA⟩ := hi d (List.mem_of_getElem? hj)
      have hj6 : j < 6 := (List.getElem?_eq_some_iff.mp hj).1
      refine ⟨_, (by (first | (simp only [PV.wipeE, PV.restE, PV.tgN, PV.tgT, PV.tgsN, List.length_cons, List.length_nil, Nat.reduceAdd, ↓reduceIte, List.getElem?_cons_zero, List.getElem?_cons_succ, List.set_cons_zero, List.set_cons_succ] <;> exact rfl) | exact rfl)), ?_⟩
      dsimp only
      exact law_days x0 x2 _ _ y6 y7 x y z hxy hyz cA sA (b + 12 * (6 - (j + 1))) S' (g'.mono (by omega)) y9 y10 fun S2 z9 z10 g2 => ⟨_, _, _, _, rfl, g2⟩
    · subst e
      exact fin _ _ _ _ _ _ _ _ _ (g'.mono (by omega))
theorem begun_eq (ns : List Int) (hl : ns.length ≤ 63) : m__law_begun [.scr ns] .emp = some (.st ⟨fw ns, fc ns, 0, 0⟩, .emp) := if_pos hl
theorem gd0 (ns : List Int) (b : Nat) (h : b ≤ 10000000000000) : Gd b ⟨fw ns, fc ns, 0, 0⟩ := ⟨by show (0 : Int) ≤ 0; omega, by show (0 : Int) + _ ≤ _; omega⟩
theorem law_true (ns : List Int) (hl : ns.length ≤ 63) : ∃ s', m_law [.scr ns] .emp = some (.p (.bl true), s') := by
  refine mir_s (M := m_law) (wm_eq ?_)
  unfold b_law
  simp only [mkEnv, List.map_cons, List.map_nil, List.cons_append, List.nil_append, List.length_cons, List.length_nil, Nat.reduceAdd, Nat.reduceSub, List.replicate_succ, List.replicate_zero, List.take_succ_cons, List.take_zero, List.drop_succ_cons, List.drop_zero]
  (repeat (first | (with_reducible refine ⟨_, _, begun_eq ns hl, ?_⟩) | ((with_reducible apply PV.w_var); exact rfl) | ((with_reducible apply PV.w_callS); exact rfl) | ((with_reducible apply PV.w_aug); exact rfl) | ((with_reducible apply PV.w_appM); exact rfl) | ((with_reducible apply PV.w_frz); exact rfl) | ((with_reducible apply PV.w_frzP); exact rfl) | ((with_reducible apply PV.w_appL); exact rfl) | ((with_reducible apply PV.k_set); simp only [List.set_cons_zero, List.set_cons_succ]; exact rfl) | ((with_reducible apply PV.k_pick); simp only [PV.pick, List.nil_append, List.cons_append, List.append_nil, List.filterMap_cons, List.filterMap_nil, List.getElem?_cons_zero, List.getElem?_cons_succ]; exact rfl) | ((with_reducible apply PV.k_env); (try (simp only [PV.tgT, PV.tgN, PV.tgsN, List.length_cons, List.length_nil, Nat.reduceAdd, ↓reduceIte, List.set_cons_zero, List.set_cons_succ, Option.some.injEq])); exact rfl) | (with_reducible apply PV.w_nat) | (with_reducible apply PV.w_con) | (with_reducible apply PV.w_op) | (with_reducible apply PV.w_un) | (with_reducible apply PV.w_unF) | (with_reducible apply PV.w_cons) | (with_reducible apply PV.w_nil) | (with_reducible apply PV.w_star) | (with_reducible apply PV.w_seq) | (with_reducible apply PV.w_call) | (with_reducible apply PV.w_callF0) | (with_reducible apply PV.w_callK) | (with_reducible apply PV.w_app) | (with_reducible apply PV.w_cmeth) | (with_reducible apply PV.w_meth) | (with_reducible apply PV.w_prop) | (with_reducible apply PV.w_fld) | (with_reducible apply PV.w_if) | (with_reducible apply PV.w_andV) | (with_reducible apply PV.w_orV) | (with_reducible apply PV.w_notV) | (with_reducible apply PV.w_tst) | (with_reducible apply PV.w_tru) | (with_reducible apply PV.w_truO) | (with_reducible apply PV.w_notO) | (with_reducible apply PV.w_boolO) | (with_reducible apply PV.w_and) | (with_reducible apply PV.w_or) | (with_reducible apply PV.w_not) | (with_reducible apply PV.w_yes) | (with_reducible apply PV.w_chain) | (with_reducible apply PV.w_no) | (with_reducible apply PV.w_part) | (with_reducible apply PV.w_sl) | (with_reducible apply PV.w_slS) | (with_reducible apply PV.w_iLst) | (with_reducible apply PV.w_iTup) | (with_reducible apply PV.w_iEnL) | (with_reducible apply PV.w_iCall) | (with_reducible apply PV.w_next) | (with_reducible apply PV.w_bk) | (with_reducible apply PV.w_ct) | (with_reducible apply PV.w_sSeq) | (with_reducible apply PV.w_ret) | (with_reducible apply PV.w_retN) | (with_reducible apply PV.w_set) | (with_reducible apply PV.w_drop) | (with_reducible apply PV.w_sIf) | (with_reducible apply PV.w_asg) | (with_reducible apply PV.w_par) | (with_reducible apply PV.w_setM) | (with_reducible apply PV.w_setF) | (with_reducible apply PV.k_bl) | (with_reducible apply PV.k_int) | (with_reducible apply PV.k_tup) | (with_reducible apply PV.k_obj) | ((with_reducible apply PV.k_add); first | exact n_add _ _ | exact ev_add _ _) | ((with_reducible apply PV.k_sub); first | exact n_sub (by omega) | exact ev_sub _ _) | ((with_reducible apply PV.k_mul); first | exact n_mul (by omega) | exact ev_mul (by omega)) | ((with_reducible apply PV.k_div); first | exact n_div (by omega) (by omega) | exact ev_divL (by omega) (by omega)) | ((with_reducible apply PV.k_mod); first | exact n_mod (by omega) | exact ev_mod (by omega)) | ((with_reducible apply PV.k_cmp); first | exact n_lt _ _ | exact n_le _ _ | exact n_gt _ _ | exact ev_cmp _ _ _) | ((with_reducible apply PV.k_eq); first | exact n_eq _ _ | exact n_ne _ _ | exact ev_eq _ _ | exact ev_ne _ _ | exact ev_eqB _ _ | exact ev_neB _ _) | ((with_reducible apply PV.k_min); first | exact n_min _ _ | exact ev_min _ _) | ((with_reducible apply PV.k_max); first | exact n_max _ _ | exact ev_max _ _) | ((with_reducible apply PV.k_abs); first | exact ev_abs _) | ((with_reducible apply PV.k_gint); first | exact ev_int _ | exact ev_intB _) | ((with_reducible apply PV.k_neg); exact rfl) | ((with_reducible apply PV.k_ml); exact rfl) | ((with_reducible apply PV.k_ix); exact rfl) | ((with_reducible apply PV.k_len); exact rfl) | ((with_reducible apply PV.k_is); exact rfl) | ((with_reducible apply PV.k_fld); exact rfl) | ((with_reducible apply PV.k_lst); exact rfl) | ((with_reducible apply PV.k_tru); exact rfl) | ((with_reducible apply PV.k_st); exact rfl) | ((with_reducible apply PV.b_f); exact rfl) | ((with_reducible apply PV.b_t); exact rfl) | ((with_reducible apply PV.b_f); first | exact decide_eq_false (by omega) | exact nt_f (by omega)) | ((with_reducible apply PV.b_t); first | exact decide_eq_true (by omega) | exact nt_t (by omega)) | (refine PV.k_and ⟨rfl, rfl⟩ ?_) | (refine PV.k_and (by decide) ?_) | (refine PV.k_and (Nat.le_of_ble_eq_true rfl) ?_) | (refine PV.k_and rfl ?_)))
  refine PV.w_for ?_
  (repeat (first | (with_reducible refine ⟨_, rng_dI _ (by omega), ?_⟩) | ((with_reducible apply PV.w_var); exact rfl) | ((with_reducible apply PV.w_callS); exact rfl) | ((with_reducible apply PV.w_aug); exact rfl) | ((with_reducible apply PV.w_appM); exact rfl) | ((with_reducible apply PV.w_frz); exact rfl) | ((with_reducible apply PV.w_frzP); exact rfl) | ((with_reducible apply PV.w_appL); exact rfl) | ((with_reducible apply PV.k_set); simp only [List.set_cons_zero, List.set_cons_succ]; exact rfl) | ((with_reducible apply PV.k_pick); simp only [PV.pick, List.nil_append, List.cons_append, List.append_nil, List.filterMap_cons, List.filterMap_nil, List.getElem?_cons_zero, List.getElem?_cons_succ]; exact rfl) | ((with_reducible apply PV.k_env); (try (simp only [PV.tgT, PV.tgN, PV.tgsN, List.length_cons, List.length_nil, Nat.reduceAdd, ↓reduceIte, List.set_cons_zero, List.set_cons_succ, Option.some.injEq])); exact rfl) | (with_reducible apply PV.w_nat) | (with_reducible apply PV.w_con) | (with_reducible apply PV.w_op) | (with_reducible apply PV.w_un) | (with_reducible apply PV.w_unF) | (with_reducible apply PV.w_cons) | (with_reducible apply PV.w_nil) | (with_reducible apply PV.w_star) | (with_reducible apply PV.w_seq) | (with_reducible apply PV.w_call) | (with_reducible apply PV.w_callF0) | (with_reducible apply PV.w_callK) | (with_reducible apply PV.w_app) | (with_reducible apply PV.w_cmeth) | (with_reducible apply PV.w_meth) | (with_reducible apply PV.w_prop) | (with_reducible apply PV.w_fld) | (with_reducible apply PV.w_if) | (with_reducible apply PV.w_andV) | (with_reducible apply PV.w_orV) | (with_reducible apply PV.w_notV) | (with_reducible apply PV.w_tst) | (with_reducible apply PV.w_tru) | (with_reducible apply PV.w_truO) | (with_reducible apply PV.w_notO) | (with_reducible apply PV.w_boolO) | (with_reducible apply PV.w_and) | (with_reducible apply PV.w_or) | (with_reducible apply PV.w_not) | (with_reducible apply PV.w_yes) | (with_reducible apply PV.w_chain) | (with_reducible apply PV.w_no) | (with_reducible apply PV.w_part) | (with_reducible apply PV.w_sl) | (with_reducible apply PV.w_slS) | (with_reducible apply PV.w_iLst) | (with_reducible apply PV.w_iTup) | (with_reducible apply PV.w_iEnL) | (with_reducible apply PV.w_iCall) | (with_reducible apply PV.w_next) | (with_reducible apply PV.w_bk) | (with_reducible apply PV.w_ct) | (with_reducible apply PV.w_sSeq) | (with_reducible apply PV.w_ret) | (with_reducible apply PV.w_retN) | (with_reducible apply PV.w_set) | (with_reducible apply PV.w_drop) | (with_reducible apply PV.w_sIf) | (with_reducible apply PV.w_asg) | (with_reducible apply PV.w_par) | (with_reducible apply PV.w_setM) | (with_reducible apply PV.w_setF) | (with_reducible apply PV.k_bl) | (with_reducible apply PV.k_int) | (with_reducible apply PV.k_tup) | (with_reducible apply PV.k_obj) | ((with_reducible apply PV.k_add); first | exact n_add _ _ | exact ev_add _ _) | ((with_reducible apply PV.k_sub); first | exact n_sub (by omega) | exact ev_sub _ _) | ((with_reducible apply PV.k_mul); first | exact n_mul (by omega) | exact ev_mul (by omega)) | ((with_reducible apply PV.k_div); first | exact n_div (by omega) (by omega) | exact ev_divL (by omega) (by omega)) | ((with_reducible apply PV.k_mod); first | exact n_mod (by omega) | exact ev_mod (by omega)) | ((with_reducible apply PV.k_cmp); first | exact n_lt _ _ | exact n_le _ _ | exact n_gt _ _ | exact ev_cmp _ _ _) | ((with_reducible apply PV.k_eq); first | exact n_eq _ _ | exact n_ne _ _ | exact ev_eq _ _ | exact ev_ne _ _ | exact ev_eqB _ _ | exact ev_neB _ _) | ((with_reducible apply PV.k_min); first | exact n_min _ _ | exact ev_min _ _) | ((with_reducible apply PV.k_max); first | exact n_max _ _ | exact ev_max _ _) | ((with_reducible apply PV.k_abs); first | exact ev_abs _) | ((with_reducible apply PV.k_gint); first | exact ev_int _ | exact ev_intB _) | ((with_reducible apply PV.k_neg); exact rfl) | ((with_reducible apply PV.k_ml); exact rfl) | ((with_reducible apply PV.k_ix); exact rfl) | ((with_reducible apply PV.k_len); exact rfl) | ((with_reducible apply PV.k_is); exact rfl) | ((with_reducible apply PV.k_fld); exact rfl) | ((with_reducible apply PV.k_lst); exact rfl) | ((with_reducible apply PV.k_tru); exact rfl) | ((with_reducible apply PV.k_st); exact rfl) | ((with_reducible apply PV.b_f); exact rfl) | ((with_reducible apply PV.b_t); exact rfl) | ((with_reducible apply PV.b_f); first | exact decide_eq_false (by omega) | exact nt_f (by omega)) | ((with_reducible apply PV.b_t); first | exact decide_eq_true (by omega) | exact nt_t (by omega)) | (refine PV.k_and ⟨rfl, rfl⟩ ?_) | (refine PV.k_and (by decide) ?_) | (refine PV.k_and (Nat.le_of_ble_eq_true rfl) ?_) | (refine PV.k_and rfl ?_)))
  refine ⟨fun k δ => ∃ S x2 x3 x4 x5 x6 x7 x8 x9 x10, δ = [.p (.scr ns), .st S, x2, x3, x4, x5, x6, x7, x8, x9, x10] ∧ Gd (300 * (6 - k)) S, ⟨_, _, _, _, _, _, _, _, _, _, rfl, gd0 ns _ (by omega)⟩, fun j d δ hj ⟨S, x2, x3, x4, x5, x6, x7, x8, x9, x10, e, g⟩ => ?_, fun δ ⟨S, x2, x3, x4, x5, x6, x7, x8, x9, x10, e, g⟩ => ?_⟩
  · subst e
    obtain ⟨hj2, rfl⟩ := rng_at hj
    refine ⟨_, (by (first | (simp only [PV.wipeE, PV.restE, PV.tgN, PV.tgT, PV.tgsN, List.length_cons, List.length_nil, Nat.reduceAdd, ↓reduceIte, List.getElem?_cons_zero, List.getElem?_cons_succ, List.set_cons_zero, List.set_cons_succ] <;> exact rfl) | exact rfl)), ?_⟩
    exact law_turn _ (300 * (6 - (j + 1))) S (g.mono (by omega)) _ x3 x4 x5 x6 x7 x8 x9 x10 fun S' y3 y4 y5 y6 y7 y8 y9 y10 g' => ⟨_, _, _, _, _, _, _, _, _, _, rfl, g'⟩
  · subst e
    (repeat (first | ((with_reducible apply PV.w_var); exact rfl) | ((with_reducible apply PV.w_callS); exact rfl) | ((with_reducible apply PV.w_aug); exact rfl) | ((with_reducible apply PV.w_appM); exact rfl) | ((with_reducible apply PV.w_frz); exact rfl) | ((with_reducible apply PV.w_frzP); exact rfl) | ((with_reducible apply PV.w_appL); exact rfl) | ((with_reducible apply PV.k_set); simp only [List.set_cons_zero, List.set_cons_succ]; exact rfl) | ((with_reducible apply PV.k_pick); simp only [PV.pick, List.nil_append, List.cons_append, List.append_nil, List.filterMap_cons, List.filterMap_nil, List.getElem?_cons_zero, List.getElem?_cons_succ]; exact rfl) | ((with_reducible apply PV.k_env); (try (simp only [PV.tgT, PV.tgN, PV.tgsN, List.length_cons, List.length_nil, Nat.reduceAdd, ↓reduceIte, List.set_cons_zero, List.set_cons_succ, Option.some.injEq])); exact rfl) | (with_reducible apply PV.w_nat) | (with_reducible apply PV.w_con) | (with_reducible apply PV.w_op) | (with_reducible apply PV.w_un) | (with_reducible apply PV.w_unF) | (with_reducible apply PV.w_cons) | (with_reducible apply PV.w_nil) | (with_reducible apply PV.w_star) | (with_reducible apply PV.w_seq) | (with_reducible apply PV.w_call) | (with_reducible apply PV.w_callF0) | (with_reducible apply PV.w_callK) | (with_reducible apply PV.w_app) | (with_reducible apply PV.w_cmeth) | (with_reducible apply PV.w_meth) | (with_reducible apply PV.w_prop) | (with_reducible apply PV.w_fld) | (with_reducible apply PV.w_if) | (with_reducible apply PV.w_andV) | (with_reducible apply PV.w_orV) | (with_reducible apply PV.w_notV) | (with_reducible apply PV.w_tst) | (with_reducible apply PV.w_tru) | (with_reducible apply PV.w_truO) | (with_reducible apply PV.w_notO) | (with_reducible apply PV.w_boolO) | (with_reducible apply PV.w_and) | (with_reducible apply PV.w_or) | (with_reducible apply PV.w_not) | (with_reducible apply PV.w_yes) | (with_reducible apply PV.w_chain) | (with_reducible apply PV.w_no) | (with_reducible apply PV.w_part) | (with_reducible apply PV.w_sl) | (with_reducible apply PV.w_slS) | (with_reducible apply PV.w_iLst) | (with_reducible apply PV.w_iTup) | (with_reducible apply PV.w_iEnL) | (with_reducible apply PV.w_iCall) | (with_reducible apply PV.w_next) | (with_reducible apply PV.w_bk) | (with_reducible apply PV.w_ct) | (with_reducible apply PV.w_sSeq) | (with_reducible apply PV.w_ret) | (with_reducible apply PV.w_retN) | (with_reducible apply PV.w_set) | (with_reducible apply PV.w_drop) | (with_reducible apply PV.w_sIf) | (with_reducible apply PV.w_asg) | (with_reducible apply PV.w_par) | (with_reducible apply PV.w_setM) | (with_reducible apply PV.w_setF) | (with_reducible apply PV.k_bl) | (with_reducible apply PV.k_int) | (with_reducible apply PV.k_tup) | (with_reducible apply PV.k_obj) | ((with_reducible apply PV.k_add); first | exact n_add _ _ | exact ev_add _ _) | ((with_reducible apply PV.k_sub); first | exact n_sub (by omega) | exact ev_sub _ _) | ((with_reducible apply PV.k_mul); first | exact n_mul (by omega) | exact ev_mul (by omega)) | ((with_reducible apply PV.k_div); first | exact n_div (by omega) (by omega) | exact ev_divL (by omega) (by omega)) | ((with_reducible apply PV.k_mod); first | exact n_mod (by omega) | exact ev_mod (by omega)) | ((with_reducible apply PV.k_cmp); first | exact n_lt _ _ | exact n_le _ _ | exact n_gt _ _ | exact ev_cmp _ _ _) | ((with_reducible apply PV.k_eq); first | exact n_eq _ _ | exact n_ne _ _ | exact ev_eq _ _ | exact ev_ne _ _ | exact ev_eqB _ _ | exact ev_neB _ _) | ((with_reducible apply PV.k_min); first | exact n_min _ _ | exact ev_min _ _) | ((with_reducible apply PV.k_max); first | exact n_max _ _ | exact ev_max _ _) | ((with_reducible apply PV.k_abs); first | exact ev_abs _) | ((with_reducible apply PV.k_gint); first | exact ev_int _ | exact ev_intB _) | ((with_reducible apply PV.k_neg); exact rfl) | ((with_reducible apply PV.k_ml); exact rfl) | ((with_reducible apply PV.k_ix); exact rfl) | ((with_reducible apply PV.k_len); exact rfl) | ((with_reducible apply PV.k_is); exact rfl) | ((with_reducible apply PV.k_fld); exact rfl) | ((with_reducible apply PV.k_lst); exact rfl) | ((with_reducible apply PV.k_tru); exact rfl) | ((with_reducible apply PV.k_st); exact rfl) | ((with_reducible apply PV.b_f); exact rfl) | ((with_reducible apply PV.b_t); exact rfl) | ((with_reducible apply PV.b_f); first | exact decide_eq_false (by omega) | exact nt_f (by omega)) | ((with_reducible apply PV.b_t); first | exact decide_eq_true (by omega) | exact nt_t (by omega)) | (refine PV.k_and ⟨rfl, rfl⟩ ?_) | (refine PV.k_and (by decide) ?_) | (refine PV.k_and (Nat.le_of_ble_eq_true rfl) ?_) | (refine PV.k_and rfl ?_)))
    rfl

set_option maxHeartbeats 0

abbrev R0 : PySem.W.OpenRow := PySem.W.OpenLaw.row PySem.Challenge.rw_clockfolds_k10_whole_counts_add_up
abbrev hk : PySem.W.Hook := PV.hookP 6 fa fn ex
def ob (s : PySem.W.SharedT) : PV.AlP := PV.obsP 6 fa fn ex (HandSHeadRun.getT s)
theorem ob_eq (s : PySem.W.SharedT) : ob s = hk.obs s.abs := PV.obsP_eq (HandSHeadRun.getT_eq s)
theorem run (w : World) : HandSHeadRun.RunEq R0 (PySem.W.view R0.prog [38]) hk ob 5000 ("_wall" :: "ClockError" :: "BadNumber" :: "BadDays" :: "TooFew" :: "is_number" :: "ones" :: "lowest" :: "places" :: "mask" :: "bits_of" :: "greatest_divisor" :: "repeat" :: "prime_divisors" :: "shortest" :: "canonical" :: "window" :: "stretched" :: "aligned" :: "number_before" :: "place_of" :: "is_days" :: "are_truths" :: "need_number" :: "DaySet" :: "_law_begun" :: "_law_mixed" :: "_law_take" :: "_law_pick" :: "_law_truths" :: "_law_set" :: "_law_pattern" :: "_law_sums_right" :: "_law_back_right" :: [] : List PySem.Str) w := by
  intro os
  kernel_rfl
end K10

open PySem PySem.W PySem.Calls PyProof.Rows
theorem PySem.Challenge.cw_clockfolds_k10_whole_counts_add_up_holds : PySem.Challenge.rw_clockfolds_k10_whole_counts_add_up.Holds := by
  w_on; o_law
  refine HandSHeadRun.head_any (r := OpenLaw.row PySem.Challenge.rw_clockfolds_k10_whole_counts_add_up) (q := view (OpenLaw.row PySem.Challenge.rw_clockfolds_k10_whole_counts_add_up).prog [38]) (H := K10.hk) (ob := K10.ob) (M := 5000) (loose := ("_wall" :: "ClockError" :: "BadNumber" :: "BadDays" :: "TooFew" :: "is_number" :: "ones" :: "lowest" :: "places" :: "mask" :: "bits_of" :: "greatest_divisor" :: "repeat" :: "prime_divisors" :: "shortest" :: "canonical" :: "window" :: "stretched" :: "aligned" :: "number_before" :: "place_of" :: "is_days" :: "are_truths" :: "need_number" :: "DaySet" :: "_law_begun" :: "_law_mixed" :: "_law_take" :: "_law_pick" :: "_law_truths" :: "_law_set" :: "_law_pattern" :: "_law_sums_right" :: "_law_back_right" :: [] : List PySem.Str)) (d := HandSHeadRun.topDef (OpenLaw.row PySem.Challenge.rw_clockfolds_k10_whole_counts_add_up).prog 38) (kwd := []) K10.ob_eq
    (by kernel_rfl) (fun s => by kernel_rfl) K10.run (by kernel_rfl) (by kernel_rfl) (by kernel_rfl) (by rfl) (by first | assumption | decide +kernel) (by decide +kernel) ⟨rfl, rfl, rfl, rfl, rfl, by decide +kernel⟩ ?hw ?hc
  case hw => w_witness2
  case hc =>
    refine PV.walk_end (l := PySem.Challenge.rw_clockfolds_k10_whole_counts_add_up) (n := 63) (k := 9) (x := "script") (CX := L2.CX0) rfl (by decide) (by kernel_rfl) ⟨rfl, by decide, by decide⟩ ?F (fun _ _ _ _ z => z)
    intro w mg fa h Y G hmg0
    obtain ⟨K, KX, c⟩ := Y
    have hmg : mg ("law" : PySem.Str) = some (.ref fa) := by
      have e : (HandSHeadRun.topDef (OpenLaw.row PySem.Challenge.rw_clockfolds_k10_whole_counts_add_up).prog 38).name = ("law" : PySem.Str) := by kernel_rfl
      rw [← e]
      exact hmg0
    have gm : K10.Gm K mg := ⟨h, KX, G, c⟩
    have e := hmg.symm.trans (gm.glo (x := "law") (by decide))
    cases e
    obtain ⟨fd, F⟩ := gm.fn 39 (p := K10.p_law) rfl
    refine ⟨K, fd, K10.m_law, KX, ?_, fun ns hl => K10.law_true ns hl, fun base _ _ => ?_⟩
    · have b := L2.FunD.bindsA (ps := ["script"]) F fun _ _ _ _ _ _ us hl => match us, hl with | [_], _ => rfl
      exact fun s v => b s [v] rfl
    · obtain ⟨fd2, F2, o⟩ := K10.ok_law (P := (PySem.Challenge.rw_clockfolds_k10_whole_counts_add_up).prog) (w := w) (base := base) gm
      have ef : fd2 = fd := PV.FunD.fd_eq F2 F
      subst ef
      exact o.fn
