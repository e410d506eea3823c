import PyProof.Rows.All
import Wide.All
import OpenK.AllK
import Wide.FinOn
import HandS.Lambda
import HandS.ForMost
import HandS.Walk
import HandS.Deep
import HandS.Wide
import HandS.TupAny
import KE.SortData
import KE.DataMinMax
import KE.DataAny
import KE.DataCmp
import HandS.Flow
import HandS.Star
import HandS.WideBits
import HandS.TupLen
import HandS.Conv
import KE.DataIsa
import PyProof.ReprRoads
import HandS.SetFor
import PyProof.TupleOfSeq
import HandS.Strs
import HandS.Style
import HandS.NoneIn
import HandS.Small
import HandS.Zip
import KE.GoesEnum
import HandS.Nested
import HandS.Words
import HandS.EndTab
import PySem.Challenge.RW_timedways_k44_rooms
set_option Elab.async false
set_option maxRecDepth 100000
set_option linter.all false
set_option autoImplicit false
set_option maxHeartbeats 200000
/-! Ev1: values as data, frames as lists of slots, what a part of a run may change. -/
namespace Ev
open PySem PySem.Spec PyProof.Rows L2

/-- the content of an object that one slot (or nobody yet) holds alone -/
inductive C where
  | l (xs : List PyData)
  | k (kvs : List (Key × PyData))
  | t (kvs : List (List Key × PyData))
/-- what a slot holds: data that stays as it is; an object of its own -/
inductive R where
  | d (x : PyData)
  | c (x : C)
  | s (ns : List Int)
/-- what an expression gives: data; a tuple that is tracked for sure; the script; a new object; the object of a slot -/
inductive Rv where
  | d (x : PyData)
  | t (xs : List PyData)
  | s (ns : List Int)
  | n (x : C)
  | b (i : Nat)
abbrev Env := List (Option R)
structure Exn where
  cls : Str
  arg : Option PyData
inductive Out (α : Type) where
  | ok (a : α) (env : Env)
  | exc (x : Exn) (env : Env)
  | no
abbrev M (α : Type) := Env → Out α
def M.ret {α : Type} (a : α) : M α := fun env => .ok a env
def M.no {α : Type} : M α := fun _ => .no
def M.bind {α β : Type} (m : M α) (k : α → M β) : M β := fun env => match m env with
  | .ok a env' => k a env'
  | .exc x env' => .exc x env'
  | .no => .no
@[simp] theorem M.bind_ok {α β : Type} {m : M α} {k : α → M β} {env env' : Env} {a : α} (h : m env = .ok a env') : M.bind m k env = k a env' := by
  unfold M.bind; rw [h]

section
variable {K : PySem.W.Frag}

/-! ### data in a heap (lists are tracked ones, so that + and * read them too) -/
mutual
inductive Dq (K : PySem.W.Frag) (H : Hp) : V → PyData → Prop
  | non : Dq K H .non .none
  | bl (b : Bool) : Dq K H (.bl b) (.bool b)
  | int (i : Int) : Dq K H (.int i) (.int i)
  | str (x : Str) : Dq K H (.str x) (.str x)
  | lst {a : Addr} {xs : List V} {ds : List PyData} : H a = some (.lst xs) → DqAll K H xs ds → Dq K H (.ref a) (.list ds)
  | tup {a : Addr} {xs : List V} {ds : List PyData} : SqT K H a xs → DqAll K H xs ds → Dq K H (.ref a) (.tuple ds)
inductive DqAll (K : PySem.W.Frag) (H : Hp) : List V → List PyData → Prop
  | nil : DqAll K H [] []
  | cons {v : V} {vs : List V} {d : PyData} {ds : List PyData} : Dq K H v d → DqAll K H vs ds → DqAll K H (v :: vs) (d :: ds)
end
mutual
theorem Dq.dp {H : Hp} : ∀ {d : PyData} {v : V}, Dq K H v d → Dp K H v d
  | .none, _, h => by cases h; exact .non
  | .bool b, _, h => by cases h; exact .bl b
  | .int i, _, h => by cases h; exact .int i
  | .str x, _, h => by cases h; exact .str x
  | .list ds, _, h => by
    cases h with
    | lst hs ha => exact .lst (SqL.of hs) (DqAll.dp ha)
  | .tuple ds, _, h => by
    cases h with
    | tup hs ha => exact .tup hs (DqAll.dp ha)
  | .dict _, _, h => by cases h
theorem DqAll.dp {H : Hp} : ∀ {ds : List PyData} {vs : List V}, DqAll K H vs ds → DpAll K H vs ds
  | [], _, h => by cases h; exact .nil
  | d :: ds, _, h => by
    cases h with
    | cons h1 h2 => exact .cons (Dq.dp h1) (DqAll.dp h2)
end
theorem same_T {F H : Hp} {a : Addr} {xs : List V} (e : Same F H) (h : SqT K F a xs) : SqT K H a xs := by
  rcases h with (h | ⟨o, h⟩) | h
  · exact .inl (.inl (e _ _ h))
  · exact .inl (.inr ⟨o, e _ _ h⟩)
  · exact .inr h
mutual
theorem Dq.mono {F H : Hp} (e : Same F H) : ∀ {d : PyData} {v : V}, Dq K F v d → Dq K H v d
  | .none, _, h => by cases h; exact .non
  | .bool b, _, h => by cases h; exact .bl b
  | .int i, _, h => by cases h; exact .int i
  | .str x, _, h => by cases h; exact .str x
  | .list ds, _, h => by
    cases h with
    | lst hs ha => exact .lst (e _ _ hs) (DqAll.mono e ha)
  | .tuple ds, _, h => by
    cases h with
    | tup hs ha => exact .tup (same_T e hs) (DqAll.mono e ha)
  | .dict _, _, h => by cases h
theorem DqAll.mono {F H : Hp} (e : Same F H) : ∀ {ds : List PyData} {vs : List V}, DqAll K F vs ds → DqAll K H vs ds
  | [], _, h => by cases h; exact .nil
  | d :: ds, _, h => by
    cases h with
    | cons h1 h2 => exact .cons (Dq.mono e h1) (DqAll.mono e h2)
end
theorem DqAll.length {F : Hp} : ∀ {vs : List V} {ds : List PyData}, DqAll K F vs ds → vs.length = ds.length
  | _, _, .nil => rfl
  | _, _, .cons _ t => congrArg (· + 1) (DqAll.length t)
theorem DqAll.get {F : Hp} : ∀ {vs : List V} {ds : List PyData} {i : Nat} {d : PyData}, DqAll K F vs ds → ds[i]? = some d → ∃ v, vs[i]? = some v ∧ Dq K F v d
  | _, _, i, d, .nil, h => by simp at h
  | _, _, 0, d, .cons a _, h => by simp at h; subst h; exact ⟨_, rfl, a⟩
  | _, _, i + 1, d, .cons _ t, h => by
    obtain ⟨v, e, q⟩ := DqAll.get (i := i) t (by simpa using h)
    exact ⟨v, by simpa using e, q⟩
theorem DqAll.getV {F : Hp} : ∀ {vs : List V} {ds : List PyData} {i : Nat} {v : V}, DqAll K F vs ds → vs[i]? = some v → ∃ d, ds[i]? = some d ∧ Dq K F v d
  | _, _, i, d, .nil, h => by simp at h
  | _, _, 0, d, .cons a _, h => by simp at h; subst h; exact ⟨_, rfl, a⟩
  | _, _, i + 1, d, .cons _ t, h => by
    obtain ⟨v, e, q⟩ := DqAll.getV (i := i) t (by simpa using h)
    exact ⟨v, by simpa using e, q⟩
theorem DqAll.append {F : Hp} : ∀ {vs us : List V} {ds es : List PyData}, DqAll K F vs ds → DqAll K F us es → DqAll K F (vs ++ us) (ds ++ es)
  | _, _, _, _, .nil, h => h
  | _, _, _, _, .cons a t, h => .cons a (DqAll.append t h)
theorem DqAll.take {F : Hp} : ∀ {vs : List V} {ds : List PyData} (n : Nat), DqAll K F vs ds → DqAll K F (vs.take n) (ds.take n)
  | _, _, 0, _ => by simp; exact .nil
  | _, _, n + 1, .nil => by simp; exact .nil
  | _, _, n + 1, .cons a t => .cons a (DqAll.take n t)
theorem DqAll.drop {F : Hp} : ∀ {vs : List V} {ds : List PyData} (n : Nat), DqAll K F vs ds → DqAll K F (vs.drop n) (ds.drop n)
  | _, _, 0, h => by simpa using h
  | _, _, n + 1, .nil => by simp; exact .nil
  | _, _, n + 1, .cons _ t => by simpa using DqAll.drop n t
theorem DqAll.set {F : Hp} {v : V} {d : PyData} (q : Dq K F v d) : ∀ {vs : List V} {ds : List PyData} (i : Nat), DqAll K F vs ds → DqAll K F (vs.set i v) (ds.set i d)
  | _, _, _, .nil => .nil
  | _, _, 0, .cons _ t => .cons q t
  | _, _, i + 1, .cons a t => .cons a (DqAll.set q i t)
theorem DqAll.ints {F : Hp} : ∀ {vs : List V} {ns : List Int}, DqAll K F vs (ns.map PyData.int) → vs = ns.map V.int
  | _, [], h => by cases h; rfl
  | _, n :: ns, h => by
    cases h with
    | cons a t => cases a; rw [DqAll.ints t]; rfl
theorem DqAll.of_ints {F : Hp} : ∀ {ns : List Int}, DqAll K F (ns.map V.int) (ns.map PyData.int)
  | [] => .nil
  | n :: ns => .cons (.int n) DqAll.of_ints

variable (K)
def KD {κ : Type} (F : Hp) : List (κ × V) → List (κ × PyData) → Prop := Paired fun p q => p.1 = q.1 ∧ Dq K F p.2 q.2
def CR (F : Hp) : HO → C → Prop
  | .lst vs, .l xs => DqAll K F vs xs
  | .dK kvs, .k es => KD K F kvs es
  | .dT kvs, .t es => KD K F kvs es
  | _, _ => False
variable {K}
theorem KD.mono {κ : Type} {F H : Hp} (e : Same F H) {a : List (κ × V)} {b : List (κ × PyData)} (h : KD K F a b) : KD K H a b := Paired.mapP h fun _ _ q => ⟨q.1, Dq.mono e q.2⟩
theorem CR.mono {F H : Hp} (e : Same F H) {o : HO} {c : C} (h : CR K F o c) : CR K H o c := by
  cases o <;> cases c <;> first | exact h.elim | exact DqAll.mono e h | exact KD.mono e h

/-! ### slots -/
def Own (σ : L2.St) (env : Env) (i : Nat) (p : Addr) : Prop := σ[i]? = some (some (.ref p)) ∧ ∃ c, env[i]? = some (some (.c c))
variable (K) in
def SR (W : Addr → Prop) (F H : Hp) : Option V → Option R → Prop
  | _, none => True
  | some v, some (.d x) => Dq K F v x
  | some v, some (.c c) => ∃ p o, v = .ref p ∧ H p = some o ∧ CR K F o c ∧ F p = none ∧ ¬ W p
  | some v, some (.s ns) => ∃ a, v = .ref a ∧ SqL K F a (ns.map V.int)
  | none, some _ => False
def isTup : HO → Bool
  | .tup _ => true
  | .tbl _ => true
  | _ => false
theorem CR.notTup {F : Hp} {o : HO} {c : C} (h : CR K F o c) : isTup o = false := by
  cases o <;> cases c <;> first | exact h.elim | rfl
/-- the tables of code objects that makers of lambdas keep -/
class Tabl where
  T : List (Addr × Str)
  /-- slots that hold a function that was handed in, and what they hold -/
  fx : List Nat
  fv : Nat → V
  /-- code objects of lambdas that are in use -/
  cs : List (Addr × Str)
  /-- what was finished data when the frame was made -/
  f0 : Hp
/-- no function handed in -/
abbrev Tabl.base (t : Tabl) : Tabl := ⟨t.T, [], fun _ => .non, t.cs, t.f0⟩
variable [Tbi : Tabl]
def TabsX (H : Hp) : Prop := LamX.Tabs Tbi.T H ∧ ∀ x ∈ Tbi.cs, H x.1 = some (LamX.CodeO x.1 x.2)
def FinX (F : Hp) : Prop := (∀ a ps, F a ≠ some (.tbl ps)) ∧ Same Tbi.f0 F
theorem tabs_new {H : Hp} {p : Addr} {o : HO} (t : TabsX H) (h : H p = none) : TabsX (upd H p o) := ⟨t.1.ext fun b u e => (upd_ne (ne_of_none e h)).trans e, fun x hx => (upd_ne (ne_of_none (t.2 x hx) h)).trans (t.2 x hx)⟩
theorem tabs_upd {H : Hp} {p : Addr} {o o' : HO} (t : TabsX H) (h : H p = some o) (h1 : ∀ ps, o ≠ .tbl ps) (h2 : ∀ c q, o ≠ LamX.CodeO c q) : TabsX (upd H p o') := by
  have cd : ∀ {c : Addr} {q : Str}, H c = some (LamX.CodeO c q) → upd H p o' c = some (LamX.CodeO c q) := fun {c q} e5 => (upd_ne fun e => by
    rw [e, h] at e5
    exact h2 _ _ (Option.some.inj e5)).trans e5
  refine ⟨fun x hx => ?_, fun x hx => cd (t.2 x hx)⟩
  obtain ⟨ps, e1, e2, e3⟩ := t.1 x hx
  refine ⟨ps, (upd_ne fun e => ?_).trans e1, e2, fun pos cv hc => ?_⟩
  · rw [e, h] at e1
    exact h1 ps (Option.some.inj e1)
  · obtain ⟨c, e4, e5⟩ := e3 pos cv hc
    exact ⟨c, e4, cd e5⟩
theorem tabs_cr {K : PySem.W.Frag} {F H : Hp} {p : Addr} {o o' : HO} {c : C} (t : TabsX H) (h : H p = some o) (hc : CR K F o c) : TabsX (upd H p o') := by
  refine tabs_upd t h (fun ps e => ?_) fun a q e => ?_
  · subst e; cases c <;> exact hc.elim
  · unfold LamX.CodeO at e
    subst e; cases c <;> exact hc.elim
theorem tabs_lst {H : Hp} {p : Addr} {o' : HO} {xs : List V} (t : TabsX H) (h : H p = some (.lst xs)) : TabsX (upd H p o') :=
  tabs_upd t h (fun ps e => by cases e) fun a q e => by unfold LamX.CodeO at e; cases e
theorem tabs_ne {H : Hp} {p : Addr} (t : TabsX H) (h : ∀ ps, H p ≠ some (.tbl ps)) : ∀ q ∈ Tbi.T, q.1 ≠ p := fun q hq e => by
  obtain ⟨ps, e1, _⟩ := t.1 q hq
  rw [e] at e1
  exact h ps e1
variable (K) in
/-- the slots as data: F the part of the heap H that stays; W what belongs to others -/
structure Rel (W : Addr → Prop) (F H : Hp) (σ : L2.St) (env : Env) : Prop where
  len : σ.length = env.length
  fz : Same F H
  fw : ∀ a, W a → F a = none ∧ ∃ o, H a = some o ∧ isTup o = false
  sl : ∀ (i : Nat) x r, σ[i]? = some x → env[i]? = some r → SR K W F H x r
  ds : ∀ (i j : Nat) p, Own σ env i p → Own σ env j p → i = j
  tb : TabsX H
  fn : ∀ j ∈ Tbi.fx, σ[j]? = some (some (Tbi.fv j))
  tf : FinX F
def SLe : Option R → Option R → Prop
  | none, r => r = none
  | some (.d x), r => r = some (.d x)
  | some (.s x), r => r = some (.s x)
  | some (.c _), r => r.isSome = true
structure ELe (env env' : Env) : Prop where
  len : env'.length = env.length
  sl : ∀ (i : Nat) r, env[i]? = some r → ∃ r', env'[i]? = some r' ∧ SLe r r'
variable (K) in
/-- from (env, F, H) to (env', F', H'): what an expression may do -/
structure Aft (W : Addr → Prop) (σ : L2.St) (env : Env) (F H : Hp) (env' : Env) (F' H' : Hp) : Prop where
  le : ELe env env'
  same : Same F F'
  keep : ∀ a, W a → H' a = H a
  rel : Rel K W F' H' σ env'
theorem SLe.refl : ∀ r : Option R, SLe r r
  | none => rfl
  | some (.d _) => rfl
  | some (.s _) => rfl
  | some (.c _) => rfl
theorem SLe.trans : ∀ {a b c : Option R}, SLe a b → SLe b c → SLe a c
  | none, _, _, h1, h2 => by cases h1; exact h2
  | some (.d _), _, _, h1, h2 => by cases h1; exact h2
  | some (.s _), _, _, h1, h2 => by cases h1; exact h2
  | some (.c _), some (.d _), _, _, h2 => by cases h2; rfl
  | some (.c _), some (.s _), _, _, h2 => by cases h2; rfl
  | some (.c _), some (.c _), _, _, h2 => h2
  | some (.c _), none, _, h1, _ => by cases h1
theorem ELe.refl (env : Env) : ELe env env := ⟨rfl, fun i r h => ⟨r, h, SLe.refl r⟩⟩
theorem ELe.trans {a b c : Env} (h1 : ELe a b) (h2 : ELe b c) : ELe a c :=
  ⟨h2.len.trans h1.len, fun i r h => by
    obtain ⟨r1, e1, l1⟩ := h1.sl i r h
    obtain ⟨r2, e2, l2⟩ := h2.sl i r1 e1
    exact ⟨r2, e2, l1.trans l2⟩⟩
theorem ELe.own {σ : L2.St} {env env' : Env} (h : ELe env env') {i : Nat} {p : Addr} (o : Own σ env' i p) : Own σ env i p := by
  obtain ⟨e, c, q⟩ := o
  refine ⟨e, ?_⟩
  have hi : i < env.length := by
    rw [← h.len]
    exact (List.getElem?_eq_some_iff.mp q).1
  cases hr : env[i]? with
  | none => rw [List.getElem?_eq_none_iff] at hr; omega
  | some r =>
    obtain ⟨r', e', l⟩ := h.sl i r hr
    rw [q] at e'; cases e'
    match r, l with
    | some (.c c'), _ => exact ⟨c', rfl⟩
theorem ELe.bound {env env' : Env} (h : ELe env env') {i : Nat} {r : R} (e : env[i]? = some (some r)) : ∃ r', env'[i]? = some (some r') := by
  obtain ⟨r', e', l⟩ := h.sl i _ e
  match r, r', l with
  | .d x, _, l => cases l; exact ⟨_, e'⟩
  | .s x, _, l => cases l; exact ⟨_, e'⟩
  | .c _, some r', _ => exact ⟨r', e'⟩
section
variable {W W' : Addr → Prop} {σ : L2.St} {env env1 env2 : Env} {F H F1 H1 F2 H2 : Hp}
theorem Aft.refl (r : Rel K W F H σ env) : Aft K W σ env F H env F H := ⟨ELe.refl _, Same.refl _, fun _ _ => rfl, r⟩
theorem Aft.trans (a : Aft K W σ env F H env1 F1 H1) (b : Aft K W σ env1 F1 H1 env2 F2 H2) : Aft K W σ env F H env2 F2 H2 :=
  ⟨a.le.trans b.le, a.same.trans b.same, fun x hx => (b.keep x hx).trans (a.keep x hx), b.rel⟩
theorem Rel.at (r : Rel K W F H σ env) {i : Nat} {x : R} (e : env[i]? = some (some x)) : ∃ v, σ[i]? = some (some v) ∧ SR K W F H (some v) (some x) := by
  have hi : i < σ.length := by rw [r.len]; exact (List.getElem?_eq_some_iff.mp e).1
  have hs : σ[i]? = some σ[i] := by simp [hi]
  have q := r.sl i _ _ hs e
  cases h : σ[i] with
  | none =>
    rw [h] at q
    cases x <;> exact q.elim
  | some v => rw [h] at q hs; exact ⟨v, hs, q⟩
/-- others' things fewer -/
theorem Rel.less (r : Rel K W' F H σ env) (h : ∀ a, W a → W' a) : Rel K W F H σ env := by
  refine ⟨r.len, r.fz, fun a ha => r.fw a (h a ha), fun i x y h1 h2 => ?_, r.ds, r.tb, r.fn, r.tf⟩
  have q := r.sl i x y h1 h2
  match x, y, q with
  | _, none, _ => exact True.intro
  | some v, some (.d x), q => exact q
  | some v, some (.s x), q => exact q
  | some v, some (.c c), ⟨p, o, e, hp, hc, hf, hw⟩ => exact ⟨p, o, e, hp, hc, hf, fun z => hw (h p z)⟩
theorem Aft.less (a : Aft K W' σ env F H env1 F1 H1) (h : ∀ a, W a → W' a) : Aft K W σ env F H env1 F1 H1 :=
  ⟨a.le, a.same, fun x hx => a.keep x (h x hx), a.rel.less h⟩
/-- something of nobody becomes others' thing -/
theorem Rel.more (r : Rel K W F H σ env) {p : Addr} (hf : F p = none) (hh : ∃ o, H p = some o ∧ isTup o = false) (ho : ∀ i, ¬ Own σ env i p) : Rel K (fun a => W a ∨ a = p) F H σ env := by
  refine ⟨r.len, r.fz, fun a ha => ?_, fun i x y h1 h2 => ?_, r.ds, r.tb, r.fn, r.tf⟩
  · rcases ha with ha | rfl
    · exact r.fw a ha
    · exact ⟨hf, hh⟩
  · have q := r.sl i x y h1 h2
    match x, y, q with
    | _, none, _ => exact True.intro
    | some v, some (.d x), q => exact q
    | some v, some (.s x), q => exact q
    | some v, some (.c c), ⟨p', o, e, hp, hc, hf', hw⟩ =>
      refine ⟨p', o, e, hp, hc, hf', fun z => ?_⟩
      rcases z with z | z
      · exact hw z
      · subst e
        subst z
        exact ho i ⟨h1, c, h2⟩
end

/-! ### what an expression gives -/
variable (K) in
def RRv (W : Addr → Prop) (F H : Hp) (σ : L2.St) (env : Env) (v : V) : Rv → Prop
  | .d x => Dq K F v x
  | .t xs => ∃ a vs, v = .ref a ∧ F a = some (.tup vs) ∧ DqAll K F vs xs
  | .s ns => ∃ a, v = .ref a ∧ SqL K F a (ns.map V.int)
  | .n c => ∃ p o, v = .ref p ∧ H p = some o ∧ CR K F o c ∧ F p = none ∧ ¬ W p ∧ ∀ i, ¬ Own σ env i p
  | .b i => σ[i]? = some (some v) ∧ ∃ r, env[i]? = some (some r)
/-- the address of a new object that is held by nobody yet -/
def pend (v : V) : Rv → Addr → Prop
  | .n _ => fun a => v = .ref a
  | _ => fun _ => False
abbrev Wp (W : Addr → Prop) (v : V) (r : Rv) : Addr → Prop := fun a => W a ∨ pend v r a
section
variable {W : Addr → Prop} {σ : L2.St} {env env' : Env} {F H F' H' : Hp} {v : V} {r : Rv}
theorem RRv.hold (q : RRv K W F H σ env v r) (rl : Rel K W F H σ env) : Rel K (Wp W v r) F H σ env := by
  cases r with
  | d x => exact rl.less fun a ha => ha.elim id False.elim
  | t x => exact rl.less fun a ha => ha.elim id False.elim
  | s x => exact rl.less fun a ha => ha.elim id False.elim
  | b i => exact rl.less fun a ha => ha.elim id False.elim
  | n c =>
    obtain ⟨p, o, rfl, hp, hc, hf, hw, ho⟩ := q
    refine (rl.more (p := p) hf ⟨o, hp, hc.notTup⟩ ho).less fun a ha => ?_
    rcases ha with ha | ha
    · exact .inl ha
    · exact .inr (V.ref.inj ha).symm
theorem RRv.keep (q : RRv K W F H σ env v r) (a : Aft K (Wp W v r) σ env F H env' F' H') : RRv K W F' H' σ env' v r := by
  cases r with
  | d x => exact Dq.mono a.same q
  | t x => obtain ⟨p, vs, e, h, r⟩ := q; exact ⟨p, vs, e, a.same _ _ h, DqAll.mono a.same r⟩
  | s x => obtain ⟨p, e, h⟩ := q; exact ⟨p, e, a.same.seq h⟩
  | b i => obtain ⟨h1, r, h2⟩ := q; exact ⟨h1, a.le.bound h2⟩
  | n c =>
    obtain ⟨p, o, rfl, hp, hc, hf, hw, ho⟩ := q
    have hk := a.keep p (.inr rfl)
    exact ⟨p, o, rfl, hk.trans hp, hc.mono a.same, (a.rel.fw p (.inr rfl)).1, hw, fun i z => ho i (a.le.own z)⟩
theorem RRv.less {W' : Addr → Prop} (q : RRv K W' F H σ env v r) (h : ∀ a, W a → W' a) : RRv K W F H σ env v r := by
  cases r with
  | d x => exact q
  | t x => exact q
  | s x => exact q
  | b i => exact q
  | n c =>
    obtain ⟨p, o, e, hp, hc, hf, hw, ho⟩ := q
    exact ⟨p, o, e, hp, hc, hf, fun z => hw (h p z), ho⟩
end

/-! ### exceptions; what holds behind a part -/
variable (K) in
def XR (mg : Str → Option Value) (F H : Hp) (x : Exn) (cls : Value) (od : Option Addr) : Prop :=
  ∃ C, mg x.cls = some (.ref C) ∧ cls = .ref C ∧ match x.arg with
    | none => od = none
    | some d => ∃ a f v, od = some a ∧ H a = some (.xd [(f, v)]) ∧ F a = some (.xd [(f, v)]) ∧ Dq K F v d
variable (K) in
def post {α : Type} (mg : Str → Option Value) (E : XK) (W : Addr → Prop) (σ : L2.St) (env : Env) (F H : Hp) (o : Out α) (Q : α → Env → Hp → Hp → Prop) : Prop :=
  match o with
  | .ok a env' => ∀ F' H', Aft K W σ env F H env' F' H' → Q a env' F' H'
  | .exc x env' => ∀ F' H' cls od, Aft K W σ env F H env' F' H' → XR K mg F' H' x cls od → E cls od H'
  | .no => False
section
variable {α β : Type} {mg : Str → Option Value} {E : XK} {W : Addr → Prop} {σ : L2.St} {env env1 : Env} {F H F1 H1 : Hp}
theorem post.imp {o : Out α} {Q Q' : α → Env → Hp → Hp → Prop} (h : post K mg E W σ env F H o Q) (k : ∀ a env' F' H', o = .ok a env' → Aft K W σ env F H env' F' H' → Q a env' F' H' → Q' a env' F' H') : post K mg E W σ env F H o Q' := by
  cases o with
  | ok a env' => exact fun F' H' x => k a env' F' H' rfl x (h F' H' x)
  | exc x env' => exact h
  | no => exact h
theorem post.more {W' : Addr → Prop} {o : Out α} {Q : α → Env → Hp → Hp → Prop} (h : post K mg E W σ env F H o Q) (k : ∀ a, W a → W' a) : post K mg E W' σ env F H o (fun a env' F' H' => Aft K W' σ env F H env' F' H' → Q a env' F' H') := by
  cases o with
  | ok a env' => exact fun F' H' x _ => h F' H' (x.less k)
  | exc x env' => exact fun F' H' cls od a => h F' H' cls od (a.less k)
  | no => exact h
/-- on from behind a part -/
theorem post.from {o : Out α} {Q : α → Env → Hp → Hp → Prop} (a : Aft K W σ env F H env1 F1 H1) (h : post K mg E W σ env F H o Q) : post K mg E W σ env1 F1 H1 o (fun x env' F' H' => Q x env' F' H') := by
  cases o with
  | ok x env' => exact fun F' H' b => h F' H' (a.trans b)
  | exc x env' => exact fun F' H' cls od b => h F' H' cls od (a.trans b)
  | no => exact h
theorem post_bind {m : M α} {k : α → M β} {Q : β → Env → Hp → Hp → Prop} (h : post K mg E W σ env F H (M.bind m k env) Q) :
    post K mg E W σ env F H (m env) (fun a env' F' H' => post K mg E W σ env' F' H' (k a env') Q) := by
  unfold M.bind at h
  cases hm : m env with
  | ok a env' => rw [hm] at h; exact fun F' H' x => post.from x h
  | exc x env' => rw [hm] at h; exact h
  | no => rw [hm] at h; exact h
end

/-! ### readings -/
variable (K) in
/-- the reading of an expression that goes as f does -/
def tE (mg : Str → Option Value) (E : XK) (f : M Rv) : TE := fun σ H Q =>
  ∃ W F env, Rel K W F H σ env ∧ post K mg E W σ env F H (f env) fun r env' F' H' => ∀ v, RRv K W F' H' σ env' v r → Q v H'
variable (K) in
def tT (mg : Str → Option Value) (E : XK) (f : M Bool) : TT := fun σ H Q =>
  ∃ W F env, Rel K W F H σ env ∧ post K mg E W σ env F H (f env) fun r env' F' H' => Q r H'
variable (K) in
def RRvs (σ : L2.St) (env : Env) (F H : Hp) : (Addr → Prop) → List V → List Rv → Prop
  | _, [], [] => True
  | W, v :: vs, r :: rs => RRv K W F H σ env v r ∧ RRvs σ env F H (Wp W v r) vs rs
  | _, _, _ => False
variable (K) in
def tA (mg : Str → Option Value) (E : XK) (f : M (List Rv)) : TA := fun σ H Q =>
  ∃ W F env, Rel K W F H σ env ∧ post K mg E W σ env F H (f env) fun rs env' F' H' => ∀ vs, RRvs K σ env' F' H' W vs rs → Q vs H'
theorem _root_.L2.PE.imp {X : Cx} {e : Expr} {t t' : TE} (h : PE X e t) (k : ∀ σ H Q, t' σ H Q → t σ H Q) : PE X e t' := ⟨fun pins s σ H Q I q => h.run pins s σ H Q I (k σ H Q q)⟩
theorem _root_.L2.PT.imp {X : Cx} {e : Expr} {t t' : TT} (h : PT X e t) (k : ∀ σ H Q, t' σ H Q → t σ H Q) : PT X e t' := ⟨fun pins s σ H Q I q => h.run pins s σ H Q I (k σ H Q q)⟩
theorem _root_.L2.PA.imp {X : Cx} {e : List Expr} {t t' : TA} (h : PA X e t) (k : ∀ σ H Q, t' σ H Q → t σ H Q) : PA X e t' := ⟨fun pos pins s σ H Q I q => h.run pos pins s σ H Q I (k σ H Q q)⟩
theorem _root_.L2.PS.imp {X : Cx} {e : Stmt} {t t' : TS} (h : PS X e t) (k : ∀ D σ H, t' D σ H → t D σ H) : PS X e t' := ⟨fun pins s σ H D I q => h.run pins s σ H D I (k D σ H q)⟩
theorem _root_.L2.PSs.imp {X : Cx} {e : List Stmt} {t t' : TS} (h : PSs X e t) (k : ∀ D σ H, t' D σ H → t D σ H) : PSs X e t' := ⟨fun pins s σ H D I q => h.run pins s σ H D I (k D σ H q)⟩

section
variable {mg : Str → Option Value} {E : XK} {σ : L2.St} {H : Hp} {Q : VK}
/-- two in a row -/
theorem tE_bin {fa fb : M Rv} {k : Rv → Rv → M Rv} (h : tE K mg E (M.bind fa fun x => M.bind fb fun y => k x y) σ H Q) {R' : V → V → Hp → Prop}
    (hr : ∀ W F env H v u x y, Rel K W F H σ env → RRv K W F H σ env v x → RRv K (Wp W v x) F H σ env u y →
      post K mg E W σ env F H (k x y env) (fun r env' F' H' => ∀ w, RRv K W F' H' σ env' w r → Q w H') → R' v u H) :
    tE K mg E fa σ H (fun v H1 => tE K mg E fb σ H1 (fun u H2 => R' v u H2)) := by
  obtain ⟨W, F, env, rl, h⟩ := h
  refine ⟨W, F, env, rl, ?_⟩
  refine (post_bind h).imp fun x env1 F1 H1 _ a1 h1 v rv => ?_
  refine ⟨Wp W v x, F1, env1, rv.hold a1.rel, ?_⟩
  refine ((post_bind h1).more (W' := Wp W v x) fun _ => .inl).imp fun y env2 F2 H2 _ a2 h2 u ru => ?_
  exact hr W F2 env2 H2 v u x y (a2.rel.less fun _ => .inl) (rv.keep a2) ru (h2 a2)
theorem tE_one {fa : M Rv} {k : Rv → M Rv} (h : tE K mg E (M.bind fa k) σ H Q) {R' : V → Hp → Prop}
    (hr : ∀ W F env H v x, Rel K W F H σ env → RRv K W F H σ env v x →
      post K mg E W σ env F H (k x env) (fun r env' F' H' => ∀ w, RRv K W F' H' σ env' w r → Q w H') → R' v H) : tE K mg E fa σ H R' := by
  obtain ⟨W, F, env, rl, h⟩ := h
  refine ⟨W, F, env, rl, ?_⟩
  exact (post_bind h).imp fun x env1 F1 H1 _ a1 h1 v rv => hr W F1 env1 H1 v x a1.rel rv h1
theorem tA_args {fa : M (List Rv)} {k : List Rv → M Rv} (h : tE K mg E (M.bind fa k) σ H Q) {R' : List V → Hp → Prop}
    (hr : ∀ W F env H vs xs, Rel K W F H σ env → RRvs K σ env F H W vs xs →
      post K mg E W σ env F H (k xs env) (fun r env' F' H' => ∀ w, RRv K W F' H' σ env' w r → Q w H') → R' vs H) : tA K mg E fa σ H R' := by
  obtain ⟨W, F, env, rl, h⟩ := h
  refine ⟨W, F, env, rl, ?_⟩
  exact (post_bind h).imp fun x env1 F1 H1 _ a1 h1 v rv => hr W F1 env1 H1 v x a1.rel rv h1
end
end
end Ev
set_option maxHeartbeats 200000
/-! Ev2: names, constants, operators, tests. -/
namespace Ev
open PySem PySem.Spec PyProof.Rows L2
variable [Tbi : Tabl]

def lk : Rv → Env → Option R
  | .d x, _ => some (.d x)
  | .t xs, _ => some (.d (.tuple xs))
  | .s ns, _ => some (.s ns)
  | .n c, _ => some (.c c)
  | .b i, env => (env[i]?).join
def Rv.new : C → Rv := .n
section
variable {K : PySem.W.Frag} {mg : Str → Option Value} {E : XK}
variable (K) in
def Hold (F H : Hp) (v : V) : R → Prop
  | .d x => Dq K F v x
  | .s ns => ∃ a, v = .ref a ∧ SqL K F a (ns.map V.int)
  | .c c => ∃ p o, v = .ref p ∧ H p = some o ∧ CR K F o c ∧ F p = none
theorem join_some {α : Type} {o : Option (Option α)} {a : α} (h : o.join = some a) : o = some (some a) := by
  cases o with
  | none => cases h
  | some x => cases x with
    | none => cases h
    | some y => cases h; rfl
section
variable {W : Addr → Prop} {σ : L2.St} {env env' : Env} {F H F' H' : Hp} {v : V} {x : Rv} {r : R}
theorem hold_of (rl : Rel K W F H σ env) (q : RRv K W F H σ env v x) (h : lk x env = some r) : Hold K F H v r := by
  cases x with
  | d x => cases h; exact q
  | t xs => cases h; obtain ⟨p, vs, rfl, h, r⟩ := q; exact .tup (SqT.of h) r
  | s ns => cases h; exact q
  | n c => cases h; obtain ⟨p, o, e, hp, hc, hf, _⟩ := q; exact ⟨p, o, e, hp, hc, hf⟩
  | b i =>
    have h := join_some h
    obtain ⟨v', hv, hs⟩ := rl.at h
    obtain ⟨e, _⟩ := q
    rw [e] at hv; cases hv
    cases r with
    | d x => exact hs
    | s ns => exact hs
    | c c => obtain ⟨p, o, e, hp, hc, hf, _⟩ := hs; exact ⟨p, o, e, hp, hc, hf⟩
/-! ### new objects -/
theorem Rel.free (rl : Rel K W F H σ env) {p : Addr} (h : H p = none) : F p = none := rl.fz.free h
theorem Rel.notW (rl : Rel K W F H σ env) {p : Addr} (h : H p = none) : ¬ W p := fun z => by
  obtain ⟨_, o, e, _⟩ := rl.fw p z
  rw [h] at e; cases e
theorem Rel.notOwn (rl : Rel K W F H σ env) {p : Addr} (h : H p = none) : ∀ i, ¬ Own σ env i p := fun i ⟨h1, c, h2⟩ => by
  obtain ⟨q, o, e, hp, _⟩ := rl.sl i _ _ h1 h2
  cases e
  rw [hp] at h; cases h
/-- a new object that belongs to nobody yet -/
theorem aft_new (rl : Rel K W F H σ env) {p : Addr} {o : HO} (h : H p = none) : Aft K W σ env F H env F (upd H p o) := by
  have hs : Same H (upd H p o) := fun a u e => by rw [upd_ne (ne_of_none e h)]; exact e
  refine ⟨ELe.refl _, Same.refl _, fun a ha => upd_ne fun e => rl.notW h (by rw [← e]; exact ha), rl.len, rl.fz.trans hs, fun a ha => ⟨(rl.fw a ha).1, ?_⟩, fun i y r h1 h2 => ?_, rl.ds, tabs_new rl.tb h, rl.fn, rl.tf⟩
  · rw [upd_ne fun e => rl.notW h (by rw [← e]; exact ha)]; exact (rl.fw a ha).2
  · have q := rl.sl i y r h1 h2
    match y, r, q with
    | _, none, _ => exact True.intro
    | some v, some (.d x), q => exact q
    | some v, some (.s x), q => exact q
    | some v, some (.c c), ⟨p', u, e, hp, hc, hf, hw⟩ => exact ⟨p', u, e, hs _ _ hp, hc, hf, hw⟩
theorem Rel.upF (rl : Rel K W F H σ env) {p : Addr} {o : HO} (hf : F p = none) (hh : H p = some o) (hw : ¬ W p) (ho : ∀ i, ¬ Own σ env i p) (hT : ∀ ps, o ≠ .tbl ps := by intro _ h; cases h) : Rel K W (upd F p o) H σ env := by
  have hs : Same F (upd F p o) := fun a u e => by rw [upd_ne (ne_of_none e hf)]; exact e
  refine ⟨rl.len, fun a u e => ?_, fun a ha => ⟨?_, (rl.fw a ha).2⟩, fun i y r h1 h2 => ?_, rl.ds, rl.tb, rl.fn, ⟨fun a ps e => ?_, rl.tf.2.trans hs⟩⟩
  rotate_left 3
  · by_cases ea : a = p
    · subst ea; rw [upd_same] at e; exact hT ps (Option.some.inj e)
    · rw [upd_ne ea] at e; exact rl.tf.1 a ps e
  · by_cases ea : a = p
    · subst ea; rw [upd_same] at e; cases e; exact hh
    · rw [upd_ne ea] at e; exact rl.fz a u e
  · rw [upd_ne fun e => hw (by rw [← e]; exact ha)]; exact (rl.fw a ha).1
  · have q := rl.sl i y r h1 h2
    match y, r, q with
    | _, none, _ => exact True.intro
    | some v, some (.d x), q => exact Dq.mono hs q
    | some v, some (.s x), ⟨a, e, q⟩ => exact ⟨a, e, hs.seq q⟩
    | some v, some (.c c), ⟨p', u, e, hp, hc, hf', hw'⟩ =>
      refine ⟨p', u, e, hp, hc.mono hs, ?_, hw'⟩
      rw [upd_ne ?_]
      · exact hf'
      · intro z; subst e; subst z; exact ho i ⟨h1, c, h2⟩
/-- a thing of nobody becomes data -/
theorem aft_frz (rl : Rel K W F H σ env) {p : Addr} {o : HO} (hf : F p = none) (hh : H p = some o) (hw : ¬ W p) (ho : ∀ i, ¬ Own σ env i p) (hT : ∀ ps, o ≠ .tbl ps := by intro _ h; cases h) : Aft K W σ env F H env (upd F p o) H :=
  ⟨ELe.refl _, fun a u e => by rw [upd_ne (ne_of_none e hf)]; exact e, fun _ _ => rfl, rl.upF hf hh hw ho hT⟩
theorem aft_data (rl : Rel K W F H σ env) {p : Addr} {o : HO} (h : H p = none) (hT : ∀ ps, o ≠ .tbl ps := by intro _ h; cases h) : Aft K W σ env F H env (upd F p o) (upd H p o) := by
  have a := aft_new (o := o) rl h
  exact a.trans (aft_frz a.rel (rl.free h) upd_same (rl.notW h) (fun i z => rl.notOwn h i z) hT)
theorem up_new {F : Hp} {p : Addr} {o : HO} (hf : F p = none) : Same F (upd F p o) := fun a u e => by rw [upd_ne (ne_of_none e hf)]; exact e

/-! ### names, constants -/
def vVar (i : Nat) : M Rv := fun env => match env[i]? with
  | some (some (.d x)) => .ok (.d x) env
  | some (some (.s x)) => .ok (.s x) env
  | some (some (.c _)) => .ok (.b i) env
  | _ => .no
theorem de_var {X : Cx} {i : Nat} {x : Str} {pos : Pos} (hN : X.N[i]? = some x) (hv : Vis X.env.scope x) (hd : (x == ("__debug__" : Str)) = false) (hcd : (x == ("__classdict__" : Str)) = false) : PE X (.Name x pos) (tE K mg E (vVar i)) := by
  refine (pe_var hN hv hd hcd).imp fun σ H Q ⟨W, F, env, rl, h⟩ => ?_
  unfold vVar at h
  cases he : env[i]? with
  | none => rw [he] at h; exact h.elim
  | some o =>
    cases o with
    | none => rw [he] at h; exact h.elim
    | some r =>
      obtain ⟨v, hv, hs⟩ := rl.at he
      refine ⟨v, hv, ?_⟩
      rw [he] at h
      cases r with
      | d x => exact h F H (Aft.refl rl) v hs
      | s x => exact h F H (Aft.refl rl) v hs
      | c c => exact h F H (Aft.refl rl) v ⟨hv, _, he⟩
def vC (d : PyData) : M Rv := M.ret (.d d)
theorem tE_ret {d : PyData} {v : V} (hv : ∀ F : Hp, Dq K F v d) {σ : L2.St} {H : Hp} {Q : VK} (h : tE K mg E (vC d) σ H Q) : Q v H := by
  obtain ⟨W, F, env, rl, h⟩ := h
  exact h F H (Aft.refl rl) v (hv F)
theorem de_int {X : Cx} {i : Int} {j pos} : PE X (.Constant (.int i) j pos) (tE K mg E (vC (.int i))) := pe_int.imp fun _ _ _ h => tE_ret (fun _ => .int i) h
theorem de_bl {X : Cx} {b : Bool} {j pos} : PE X (.Constant (.bool b) j pos) (tE K mg E (vC (.bool b))) := pe_bl.imp fun _ _ _ h => tE_ret (fun _ => .bl b) h
theorem de_non {X : Cx} {j pos} : PE X (.Constant .none j pos) (tE K mg E (vC .none)) := pe_non.imp fun _ _ _ h => tE_ret (fun _ => .non) h
theorem de_str {X : Cx} {x : Str} {j pos} : PE X (.Constant (.str x) j pos) (tE K mg E (vC (.str x))) := pe_str.imp fun _ _ _ h => tE_ret (fun _ => .str x) h
/-- a module's constant -/
theorem de_glob {X : Cx} {x : Str} {d : PyData} {v : V} {u : Value} {pos : Pos} (hg : Gl X x) (hm : X.mg x = some u) (r : RelV v u) (hv : Dq K (fun _ => none) v d) (hd : (x == ("__debug__" : Str)) = false) : PE X (.Name x pos) (tE K mg E (vC d)) :=
  (pe_glob hg hm r hd).imp fun _ _ _ h => tE_ret (fun _ => Dq.mono (fun _ _ e => by simp at e) hv) h

/-! ### operators by values -/
variable (K mg E) in
/-- what an operation on two values does, against the layer's rule r -/
def Op2 (r : R2) (k : Rv → Rv → M Rv) : Prop := ∀ (W : Addr → Prop) (σ : L2.St) (F : Hp) (env : Env) (H : Hp) (v u : V) (x y : Rv) (Q : VK), Rel K W F H σ env → RRv K W F H σ env v x → RRv K (Wp W v x) F H σ env u y →
  post K mg E W σ env F H (k x y env) (fun r env' F' H' => ∀ w, RRv K W F' H' σ env' w r → Q w H') → r v u H Q
theorem de_op {X : Cx} {a b : Expr} {op : Operator} {pos : Pos} {r : R2} {fa fb : M Rv} {k : Rv → Rv → M Rv} (ho : OpR X (binaryOp op) r) (hk : Op2 K mg E r k) (ha : PE X a (tE K mg E fa)) (hb : PE X b (tE K mg E fb)) :
    PE X (.BinOp a op b pos) (tE K mg E (M.bind fa fun x => M.bind fb fun y => k x y)) :=
  (pe_op ho ha hb).imp fun σ H Q h => tE_bin h (R' := fun v u H2 => r v u H2 Q) fun W F env H v u x y rl rx ry hq => hk W σ F env H v u x y Q rl rx ry hq
theorem de_cmp {X : Cx} {a b : Expr} {op : CmpOp} {pos : Pos} {r : R2} {fa fb : M Rv} {k : Rv → Rv → M Rv} (ho : OpR X (compareOp op) r) (hk : Op2 K mg E r k) (ha : PE X a (tE K mg E fa)) (hb : PE X b (tE K mg E fb)) (hm : behindInMarks op b = false) :
    PE X (.Compare a [op] [b] pos) (tE K mg E (M.bind fa fun x => M.bind fb fun y => k x y)) :=
  (pe_cmpR ho ha hb hm).imp fun σ H Q h => tE_bin h (R' := fun v u H2 => r v u H2 Q) fun W F env H v u x y rl rx ry hq => hk W σ F env H v u x y Q rl rx ry hq
/-- a result by a look at what two values hold -/
def lift2 (f : R → R → Option Rv) : Rv → Rv → M Rv := fun x y env => match lk x env, lk y env with
  | some a, some b => match f a b with
    | some z => .ok z env
    | none => .no
  | _, _ => .no
theorem lift2_ok {f : R → R → Option Rv} {W : Addr → Prop} {σ : L2.St} {F : Hp} {env : Env} {H : Hp} {v u : V} {x y : Rv} {Q : Rv → Env → Hp → Hp → Prop} (rl : Rel K W F H σ env) (rx : RRv K W F H σ env v x) (ry : RRv K (Wp W v x) F H σ env u y)
    (h : post K mg E W σ env F H (lift2 f x y env) Q) :
    ∃ a b z, Hold K F H v a ∧ Hold K F H u b ∧ f a b = some z ∧ post K mg E W σ env F H (.ok z env) Q := by
  unfold lift2 at h
  cases hx : lk x env with
  | none => rw [hx] at h; exact h.elim
  | some a =>
    cases hy : lk y env with
    | none => rw [hx, hy] at h; exact h.elim
    | some b =>
      rw [hx, hy] at h
      simp only at h
      cases hf : f a b with
      | none => rw [hf] at h; exact h.elim
      | some d =>
        rw [hf] at h
        exact ⟨a, b, d, hold_of rl rx hx, hold_of rl (ry.less fun _ => .inl) hy, hf, h⟩
/-- .. of one -/
def lift1 (f : R → Option Rv) : Rv → M Rv := fun x env => match lk x env with
  | some a => match f a with
    | some z => .ok z env
    | none => .no
  | _ => .no
theorem lift1_ok {f : R → Option Rv} {W : Addr → Prop} {σ : L2.St} {F : Hp} {env : Env} {H : Hp} {v : V} {x : Rv} {Q : Rv → Env → Hp → Hp → Prop} (rl : Rel K W F H σ env) (rx : RRv K W F H σ env v x)
    (h : post K mg E W σ env F H (lift1 f x env) Q) : ∃ a z, Hold K F H v a ∧ f a = some z ∧ post K mg E W σ env F H (.ok z env) Q := by
  unfold lift1 at h
  cases hx : lk x env with
  | none => rw [hx] at h; exact h.elim
  | some a =>
    rw [hx] at h
    simp only at h
    cases hf : f a with
    | none => rw [hf] at h; exact h.elim
    | some d =>
      rw [hf] at h
      exact ⟨a, d, hold_of rl rx hx, hf, h⟩
section
variable {W : Addr → Prop} {σ : L2.St} {F : Hp} {env : Env} {H : Hp} {p : Addr} {o : HO} {c : C} {d : PyData} {v : V} {Q : VK}
theorem res_new (h : post K mg E W σ env F H (.ok (.n c) env) (fun r env' F' H' => ∀ w, RRv K W F' H' σ env' w r → Q w H')) (rl : Rel K W F H σ env) (hp : H p = none) (hc : CR K F o c) : Q (.ref p) (upd H p o) :=
  h F (upd H p o) (aft_new rl hp) (.ref p) ⟨p, o, rfl, upd_same, hc, rl.free hp, rl.notW hp, rl.notOwn hp⟩
theorem res_data (h : post K mg E W σ env F H (.ok (.d d) env) (fun r env' F' H' => ∀ w, RRv K W F' H' σ env' w r → Q w H')) (rl : Rel K W F H σ env) (hp : H p = none) (hd : Dq K (upd F p o) (.ref p) d) (hT : ∀ ps, o ≠ .tbl ps := by intro _ h; cases h) : Q (.ref p) (upd H p o) :=
  h (upd F p o) (upd H p o) (aft_data rl hp hT) (.ref p) hd
theorem res_same (h : post K mg E W σ env F H (.ok (.d d) env) (fun r env' F' H' => ∀ w, RRv K W F' H' σ env' w r → Q w H')) (rl : Rel K W F H σ env) (hd : Dq K F v d) : Q v H := h F H (Aft.refl rl) v hd
end
/-- a value by a look at what two values hold; the heap as it was -/
def look2 (f : R → R → Option PyData) : Rv → Rv → M Rv := lift2 fun a b => (f a b).map .d
theorem look2_ok {f : R → R → Option PyData} {W : Addr → Prop} {σ : L2.St} {F : Hp} {env : Env} {H : Hp} {v u : V} {x y : Rv} {Q : VK} (rl : Rel K W F H σ env) (rx : RRv K W F H σ env v x) (ry : RRv K (Wp W v x) F H σ env u y)
    (h : post K mg E W σ env F H (look2 f x y env) (fun r env' F' H' => ∀ w, RRv K W F' H' σ env' w r → Q w H')) :
    ∃ a b d, Hold K F H v a ∧ Hold K F H u b ∧ f a b = some d ∧ (∀ w, Dq K F w d → Q w H) := by
  obtain ⟨a, b, z, ha, hb, hf, hq⟩ := lift2_ok rl rx ry h
  cases hd : f a b with
  | none => rw [hd] at hf; cases hf
  | some d => rw [hd] at hf; cases hf; exact ⟨a, b, d, ha, hb, hd, fun w hw => res_same hq rl hw⟩

/-! ### ints -/
def i2 (g : Int → Int → PyData) : R → R → Option PyData
  | .d (.int i), .d (.int j) => some (g i j)
  | _, _ => none
def i2c (c : Int → Int → Bool) (g : Int → Int → PyData) : R → R → Option PyData
  | .d (.int i), .d (.int j) => if c i j = true then some (g i j) else none
  | _, _ => none
theorem i2_some {g : Int → Int → PyData} {a b : R} {d : PyData} (h : i2 g a b = some d) : ∃ i j, a = .d (.int i) ∧ b = .d (.int j) ∧ d = g i j := by
  unfold i2 at h
  split at h
  · cases h; exact ⟨_, _, rfl, rfl, rfl⟩
  · cases h
theorem i2c_some {c : Int → Int → Bool} {g : Int → Int → PyData} {a b : R} {d : PyData} (h : i2c c g a b = some d) : ∃ i j, a = .d (.int i) ∧ b = .d (.int j) ∧ c i j = true ∧ d = g i j := by
  unfold i2c at h
  split at h
  · split at h
    · cases h; exact ⟨_, _, rfl, rfl, by assumption, rfl⟩
    · cases h
  · cases h
theorem hold_int {F H : Hp} {v : V} {i : Int} (h : Hold K F H v (.d (.int i))) : v = .int i := by
  have h : Dq K F v (.int i) := h
  cases h; rfl
theorem hold_bool {F H : Hp} {v : V} {i : Bool} (h : Hold K F H v (.d (.bool i))) : v = .bl i := by
  have h : Dq K F v (.bool i) := h
  cases h; rfl
theorem hold_str {F H : Hp} {v : V} {i : Str} (h : Hold K F H v (.d (.str i))) : v = .str i := by
  have h : Dq K F v (.str i) := h
  cases h; rfl
theorem op2_i {g : Int → Int → Int} : Op2 K mg E (rI0 fun i j => .int (g i j)) (look2 (i2 fun i j => .int (g i j))) := fun W σ F env H v u x y Q rl rx ry h => by
  obtain ⟨a, b, d, ha, hb, hf, hq⟩ := look2_ok rl rx ry h
  obtain ⟨i, j, rfl, rfl, rfl⟩ := i2_some hf
  exact ⟨i, j, hold_int ha, hold_int hb, hq _ (.int _)⟩
theorem op2_ic {c : Int → Int → Bool} {C : Int → Int → Prop} {g : Int → Int → Int} (hc : ∀ i j, c i j = true → C i j) : Op2 K mg E (rI C fun i j => .int (g i j)) (look2 (i2c c fun i j => .int (g i j))) := fun W σ F env H v u x y Q rl rx ry h => by
  obtain ⟨a, b, d, ha, hb, hf, hq⟩ := look2_ok rl rx ry h
  obtain ⟨i, j, rfl, rfl, h, rfl⟩ := i2c_some hf
  exact ⟨i, j, hold_int ha, hold_int hb, hc i j h, hq _ (.int _)⟩
theorem op2_b {g : Int → Int → Bool} : Op2 K mg E (rI0 fun i j => .bl (g i j)) (look2 (i2 fun i j => .bool (g i j))) := fun W σ F env H v u x y Q rl rx ry h => by
  obtain ⟨a, b, d, ha, hb, hf, hq⟩ := look2_ok rl rx ry h
  obtain ⟨i, j, rfl, rfl, rfl⟩ := i2_some hf
  exact ⟨i, j, hold_int ha, hold_int hb, hq _ (.bl _)⟩
end
end
end Ev
set_option maxHeartbeats 200000
/-! Ev3: +, *, comparisons, tests. -/
namespace Ev
open PySem PySem.Spec PyProof.Rows L2
variable [Tbi : Tabl]
section
variable {K : PySem.W.Frag} {mg : Str → Option Value} {E : XK}
def lst : R → Option (List PyData)
  | .d (.list xs) => some xs
  | .c (.l xs) => some xs
  | _ => none
theorem hold_list {F H : Hp} {v : V} {r : R} {xs : List PyData} (e : Same F H) (h : Hold K F H v r) (hl : lst r = some xs) : ∃ a vs, v = .ref a ∧ H a = some (.lst vs) ∧ DqAll K F vs xs := by
  unfold lst at hl
  split at hl
  · cases hl
    have h : Dq K F v (.list xs) := h
    cases h with
    | lst h1 h2 => exact ⟨_, _, rfl, e _ _ h1, h2⟩
  · cases hl
    obtain ⟨p, o, rfl, hp, hc, _⟩ := h
    cases o <;> first | exact hc.elim | exact ⟨_, _, rfl, hp, hc⟩
  · cases hl
theorem hold_tuple {F H : Hp} {v : V} {xs : List PyData} (h : Hold K F H v (.d (.tuple xs))) : ∃ a vs, v = .ref a ∧ SqT K F a vs ∧ DqAll K F vs xs := by
  have h : Dq K F v (.tuple xs) := h
  cases h with
  | tup h1 h2 => exact ⟨_, _, rfl, h1, h2⟩
/-- a value as data at the heap (an own list as it stands) -/
def dat : R → Option PyData
  | .d x => some x
  | .c (.l xs) => some (.list xs)
  | _ => none
theorem hold_dat {F H : Hp} {v : V} {r : R} {d : PyData} (e : Same F H) (h : Hold K F H v r) (hd : dat r = some d) : Dq K H v d := by
  unfold dat at hd
  split at hd
  · cases hd; exact Dq.mono e h
  · cases hd
    obtain ⟨a, vs, rfl, h1, h2⟩ := hold_list e h rfl
    exact .lst h1 (DqAll.mono e h2)
  · cases hd

/-! ### + and * -/
def addR : R → R → Option Rv
  | .d (.int i), .d (.int j) => some (.d (.int (i + j)))
  | .d (.str s), .d (.str t) => if s.length + t.length ≤ sizeLine then some (.d (.str (s ++ t))) else none
  | .d (.tuple xs), .d (.tuple ys) => if xs.length + ys.length ≤ sizeLine then some (.d (.tuple (xs ++ ys))) else none
  | a, b => match lst a, lst b with
    | some xs, some ys => if xs.length + ys.length ≤ sizeLine then some (.n (.l (xs ++ ys))) else none
    | _, _ => none
theorem addR_some {a b : R} {z : Rv} (h : addR a b = some z) :
    (∃ i j, a = .d (.int i) ∧ b = .d (.int j) ∧ z = .d (.int (i + j))) ∨ (∃ s t : Str, a = .d (.str s) ∧ b = .d (.str t) ∧ s.length + t.length ≤ sizeLine ∧ z = .d (.str (s ++ t))) ∨
    (∃ xs ys, a = .d (.tuple xs) ∧ b = .d (.tuple ys) ∧ xs.length + ys.length ≤ sizeLine ∧ z = .d (.tuple (xs ++ ys))) ∨
    (∃ xs ys, lst a = some xs ∧ lst b = some ys ∧ xs.length + ys.length ≤ sizeLine ∧ z = .n (.l (xs ++ ys))) := by
  unfold addR at h
  split at h
  · cases h; exact .inl ⟨_, _, rfl, rfl, rfl⟩
  · split at h
    · cases h; exact .inr (.inl ⟨_, _, rfl, rfl, by assumption, rfl⟩)
    · cases h
  · split at h
    · cases h; exact .inr (.inr (.inl ⟨_, _, rfl, rfl, by assumption, rfl⟩))
    · cases h
  · split at h
    · split at h
      · cases h; exact .inr (.inr (.inr ⟨_, _, by assumption, by assumption, by assumption, rfl⟩))
      · cases h
    · cases h
def rAddAll (K : PySem.W.Frag) : R2 := fun x y H Q => (rI0 fun i j => .int (i + j)) x y H Q ∨ ((∃ i j, x = .str i ∧ y = .str j ∧ i.length + j.length ≤ sizeLine ∧ Q (.str (i ++ j)) H) ∨ (rCatA K x y H Q ∨ rCat x y H Q))
theorem or_add {X : Cx} : OpR X (binaryOp .Add) (rAddAll X.K) := op_add.or (op_add_str.or (op_catA.or op_cat))
theorem op2_add : Op2 K mg E (rAddAll K) (lift2 addR) := fun W σ F env H v u x y Q rl rx ry h => by
  obtain ⟨a, b, z, ha, hb, hf, hq⟩ := lift2_ok rl rx ry h
  rcases addR_some hf with ⟨i, j, rfl, rfl, rfl⟩ | ⟨s, t, rfl, rfl, hz, rfl⟩ | ⟨xs, ys, rfl, rfl, hz, rfl⟩ | ⟨xs, ys, h1, h2, hz, rfl⟩
  · exact .inl ⟨i, j, hold_int ha, hold_int hb, res_same hq rl (.int _)⟩
  · exact .inr (.inl ⟨s, t, hold_str ha, hold_str hb, hz, res_same hq rl (.str _)⟩)
  · obtain ⟨p, vs, rfl, hp, hv⟩ := hold_tuple ha
    obtain ⟨q, us, rfl, hq', hu⟩ := hold_tuple hb
    have l1 := hv.length
    have l2 := hu.length
    refine .inr (.inr (.inl ⟨p, q, vs, us, rfl, rfl, same_T rl.fz hp, same_T rl.fz hq', by omega, fun e => ?_, fun e0 e => ?_, fun _ _ l hl => ?_⟩))
    · subst e
      have : xs = [] := by cases hv; rfl
      subst this
      exact res_same hq rl (.tup hq' hu)
    · subst e
      have : ys = [] := by cases hu; rfl
      subst this
      rw [List.append_nil] at hq
      exact res_same hq rl (.tup hp hv)
    · exact res_data hq rl hl (.tup (SqT.of upd_same) (DqAll.mono (up_new (rl.free hl)) (hv.append hu)))
  · obtain ⟨p, vs, rfl, hp, hv⟩ := hold_list rl.fz ha h1
    obtain ⟨q, us, rfl, hq', hu⟩ := hold_list rl.fz hb h2
    have l1 := hv.length
    have l2 := hu.length
    exact .inr (.inr (.inr ⟨p, q, vs, us, rfl, rfl, hp, hq', by omega, fun l hl => res_new hq rl hl (hv.append hu)⟩))
def mulR : R → R → Option Rv
  | .d (.int i), .d (.int j) => if i.natAbs.log2 + j.natAbs.log2 < 1000000 then some (.d (.int (i * j))) else none
  | a, .d (.int k) => match lst a with
    | some xs => if -(2 ^ 63) ≤ k ∧ k < 2 ^ 63 ∧ xs.length * k.toNat ≤ sizeLine then some (.n (.l (List.replicate k.toNat xs).flatten)) else none
    | none => none
  | _, _ => none
theorem mulR_some {a b : R} {z : Rv} (h : mulR a b = some z) :
    (∃ i j : Int, a = .d (.int i) ∧ b = .d (.int j) ∧ i.natAbs.log2 + j.natAbs.log2 < 1000000 ∧ z = .d (.int (i * j))) ∨
    (∃ xs k, lst a = some xs ∧ b = .d (.int k) ∧ (-(2 ^ 63) ≤ k ∧ k < 2 ^ 63 ∧ xs.length * k.toNat ≤ sizeLine) ∧ z = .n (.l (List.replicate k.toNat xs).flatten)) := by
  unfold mulR at h
  split at h
  · split at h
    · cases h; exact .inl ⟨_, _, rfl, rfl, by assumption, rfl⟩
    · cases h
  · split at h
    · split at h
      · cases h; exact .inr ⟨_, _, by assumption, rfl, by assumption, rfl⟩
      · cases h
    · cases h
  · cases h
theorem DqAll.rep {F : Hp} {vs : List V} {ds : List PyData} (h : DqAll K F vs ds) : ∀ n : Nat, DqAll K F (List.replicate n vs).flatten (List.replicate n ds).flatten
  | 0 => .nil
  | n + 1 => by
    rw [List.replicate_succ, List.replicate_succ, List.flatten_cons, List.flatten_cons]
    exact h.append (DqAll.rep h n)
def rMulAll : R2 := fun x y H Q => (rI CMulW fun i j => .int (i * j)) x y H Q ∨ rRep x y H Q
theorem or_mul {X : Cx} : OpR X (binaryOp .Mult) rMulAll := op_mulW.or op_rep
theorem op2_mul : Op2 K mg E rMulAll (lift2 mulR) := fun W σ F env H v u x y Q rl rx ry h => by
  obtain ⟨a, b, z, ha, hb, hf, hq⟩ := lift2_ok rl rx ry h
  rcases mulR_some hf with ⟨i, j, rfl, rfl, hz, rfl⟩ | ⟨xs, k, h1, rfl, ⟨k1, k2, hz⟩, rfl⟩
  · exact .inl ⟨i, j, hold_int ha, hold_int hb, hz, res_same hq rl (.int _)⟩
  · obtain ⟨p, vs, rfl, hp, hv⟩ := hold_list rl.fz ha h1
    have l1 := hv.length
    exact .inr ⟨p, k, vs, rfl, hold_int hb, hp, k1, k2, by rw [l1]; exact hz, fun l hl => res_new hq rl hl (hv.rep _)⟩
def subF := look2 (i2 fun i j => .int (i - j))
theorem op2_sub : Op2 K mg E (rI0 fun i j => .int (i - j)) subF := op2_i
def modF := look2 (i2c (fun _ j => decide (j ≠ 0)) fun i j => .int (i.fmod j))
theorem op2_mod : Op2 K mg E (rI (fun _ j => j ≠ 0) fun i j => .int (i.fmod j)) modF := op2_ic fun _ _ h => by have h := of_decide_eq_true h; exact h
def divF := look2 (i2c (fun _ j => decide (0 < j ∧ j.natAbs.log2 < 9000)) fun i j => .int (i / j))
theorem op2_div : Op2 K mg E (rI CDivW fun i j => .int (i / j)) divF := op2_ic fun _ _ h => by have h := of_decide_eq_true h; exact h
def powF := look2 (i2c (fun i j => decide (0 ≤ j ∧ j ≤ 1000000 ∧ i.natAbs < 2 ^ 64)) fun i j => .int (i ^ j.toNat))
theorem op2_pow : Op2 K mg E (rI CPow fun i j => .int (i ^ j.toNat)) powF := op2_ic fun _ _ h => by have h := of_decide_eq_true h; exact h
def shlF := look2 (i2c (fun i j => decide (0 ≤ j ∧ j ≤ 1000000 ∧ i.natAbs < 2 ^ 64)) fun i j => .int (i * 2 ^ j.toNat))
theorem op2_shl : Op2 K mg E (rI CPow fun i j => .int (i * 2 ^ j.toNat)) shlF := op2_ic fun _ _ h => by have h := of_decide_eq_true h; exact h
def shrF := look2 (i2c (fun _ j => decide (0 ≤ j)) fun i j => .int (i / 2 ^ j.toNat))
theorem op2_shr : Op2 K mg E (rI (fun _ j => 0 ≤ j) fun i j => .int (i / 2 ^ j.toNat)) shrF := op2_ic fun _ _ h => by have h := of_decide_eq_true h; exact h
def andF := look2 (i2 fun i j => .int (Builtin.bitAnd i j))
theorem op2_and : Op2 K mg E (rI0 fun i j => .int (Builtin.bitAnd i j)) andF := op2_i
def orF := look2 (i2 fun i j => .int (Builtin.bitOr i j))
theorem op2_or : Op2 K mg E (rI0 fun i j => .int (Builtin.bitOr i j)) orF := op2_i

/-! ### == and != -/
def eqR (a b : R) : Option PyData := match dat a, dat b with
  | some d, some e => if SeqAt.shaped d = true ∧ SeqAt.shaped e = true then some (.bool (PyData.eqv d e)) else none
  | _, _ => none
def neR (a b : R) : Option PyData := match dat a, dat b with
  | some d, some e => if SeqAt.shaped d = true ∧ SeqAt.shaped e = true then some (.bool (!PyData.eqv d e)) else none
  | _, _ => none
theorem op2_eq : Op2 K mg E (rEqD K) (look2 eqR) := fun W σ F env H v u x y Q rl rx ry h => by
  obtain ⟨a, b, d, ha, hb, hf, hq⟩ := look2_ok rl rx ry h
  unfold eqR at hf
  split at hf
  · rename_i d1 d2 e1 e2
    split at hf
    · rename_i hs
      cases hf
      exact ⟨d1, d2, (hold_dat rl.fz ha e1).dp, (hold_dat rl.fz hb e2).dp, hs.1, hs.2, hq _ (.bl _)⟩
    · cases hf
  · cases hf
theorem op2_ne : Op2 K mg E (rNeD K) (look2 neR) := fun W σ F env H v u x y Q rl rx ry h => by
  obtain ⟨a, b, d, ha, hb, hf, hq⟩ := look2_ok rl rx ry h
  unfold neR at hf
  split at hf
  · rename_i d1 d2 e1 e2
    split at hf
    · rename_i hs
      cases hf
      exact ⟨d1, d2, (hold_dat rl.fz ha e1).dp, (hold_dat rl.fz hb e2).dp, hs.1, hs.2, hq _ (.bl _)⟩
    · cases hf
  · cases hf
/-! ### <, <=, >, >= of data -/
def notNone : PyData → Bool
  | .none => false
  | _ => true
open PySem.W in
def ordR (g : PyData → PyData → Bool) (a b : R) : Option PyData := match dat a, dat b with
  | some d, some e => if alike d e = true ∧ notNone d = true ∧ d.depth ≤ 64 then some (.bool (g d e)) else none
  | _, _ => none
open PySem.W in
def rOrd (K : PySem.W.Frag) (g : PyData → PyData → Bool) : R2 := fun x y H Q => ∃ d e, Dp K H x d ∧ Dp K H y e ∧ alike d e = true ∧ d ≠ .none ∧ d.depth ≤ 64 ∧ Q (.bl (g d e)) H
open PySem.W in
theorem op2_ord {g : PyData → PyData → Bool} : Op2 K mg E (rOrd K g) (look2 (ordR g)) := fun W σ F env H v u x y Q rl rx ry h => by
  obtain ⟨a, b, d, ha, hb, hf, hq⟩ := look2_ok rl rx ry h
  unfold ordR at hf
  split at hf
  · rename_i d1 d2 e1 e2
    split at hf
    · rename_i hs
      cases hf
      exact ⟨d1, d2, (hold_dat rl.fz ha e1).dp, (hold_dat rl.fz hb e2).dp, hs.1, by rintro rfl; exact absurd hs.2.1 (by simp [notNone]), hs.2.2, hq _ (.bl _)⟩
    · cases hf
  · cases hf
section
open PySem.W
variable {X : Cx}
theorem or_lt (hu : X.A.units + 64 < cLine) : OpR X (compareOp .Lt) (rOrd X.K dataLt) := by
  intro pins s σ H x y v u Q I rx ry h
  obtain ⟨d, e, hd, he, ha, hn, h64, q⟩ := h
  obtain ⟨as, r1⟩ := Dp.reads I d x v hd rx
  obtain ⟨bs, r2⟩ := Dp.reads I e y u he ry
  exact lt_data r1 r2 ha hn (by omega) ⟨.bl _, H, I, rfl, q⟩
theorem or_gt (hu : X.A.units + 64 < cLine) : OpR X (compareOp .Gt) (rOrd X.K fun d e => dataLt e d) := by
  intro pins s σ H x y v u Q I rx ry h
  obtain ⟨d, e, hd, he, ha, hn, h64, q⟩ := h
  obtain ⟨as, r1⟩ := Dp.reads I d x v hd rx
  obtain ⟨bs, r2⟩ := Dp.reads I e y u he ry
  exact gt_data r1 r2 ha hn (by omega) ⟨.bl _, H, I, rfl, q⟩
theorem or_le (hu : X.A.units + 64 < cLine) : OpR X (compareOp .LtE) (rOrd X.K fun d e => !dataLt e d) := by
  intro pins s σ H x y v u Q I rx ry h
  obtain ⟨d, e, hd, he, ha, hn, h64, q⟩ := h
  obtain ⟨as, r1⟩ := Dp.reads I d x v hd rx
  obtain ⟨bs, r2⟩ := Dp.reads I e y u he ry
  exact le_data r1 r2 ha hn (by omega) ⟨.bl _, H, I, rfl, q⟩
theorem or_ge (hu : X.A.units + 64 < cLine) : OpR X (compareOp .GtE) (rOrd X.K fun d e => !dataLt d e) := by
  intro pins s σ H x y v u Q I rx ry h
  obtain ⟨d, e, hd, he, ha, hn, h64, q⟩ := h
  obtain ⟨as, r1⟩ := Dp.reads I d x v hd rx
  obtain ⟨bs, r2⟩ := Dp.reads I e y u he ry
  exact ge_data r1 r2 ha hn (by omega) ⟨.bl _, H, I, rfl, q⟩
end
end
end Ev
set_option maxHeartbeats 200000
/-! Ev4: tests, and, or, not, if, in, displays, subscripts, slices. -/
namespace Ev
open PySem PySem.Spec PyProof.Rows L2
variable [Tbi : Tabl]
section
variable {K : PySem.W.Frag} {mg : Str → Option Value} {E : XK} {X : Cx}

/-! ### truth -/
def truth : R → Option Bool
  | .d .none => some false
  | .d (.bool b) => some b
  | .d (.int i) => some (i != 0)
  | .d (.str s) => if s.length ≤ sizeLine then some ((s.length : Int) != 0) else none
  | .d (.list xs) => some (!xs.isEmpty)
  | .d (.tuple xs) => some (!xs.isEmpty)
  | .d (.dict _) => none
  | .s ns => some (!ns.isEmpty)
  | .c (.l xs) => some (!xs.isEmpty)
  | .c (.k kvs) => some (!kvs.isEmpty)
  | .c (.t _) => none
theorem empty_all {F : Hp} {vs : List V} {ds : List PyData} (h : DqAll K F vs ds) : vs.isEmpty = ds.isEmpty := by cases h <;> rfl
theorem empty_kd {κ : Type} {F : Hp} {vs : List (κ × V)} {ds : List (κ × PyData)} (h : KD K F vs ds) : vs.isEmpty = ds.isEmpty := by cases h <;> rfl
theorem truth_ok {F H : Hp} {v : V} {r : R} {k : Bool} (e : Same F H) (h : Hold K F H v r) (ht : truth r = some k) : TruV K v H k := by
  match r, h, ht with
  | .d .none, h, ht => have h : Dq K F v .none := h; cases h; cases ht; rfl
  | .d (.bool b), h, ht => cases hold_bool h; cases ht; rfl
  | .d (.int b), h, ht => cases hold_int h; cases ht; rfl
  | .d (.str b), h, ht =>
    cases hold_str h
    simp only [truth] at ht
    split at ht
    · cases ht; exact ⟨by assumption, rfl⟩
    · cases ht
  | .d (.list xs), h, ht =>
    cases ht
    obtain ⟨a, vs, rfl, h1, h2⟩ := hold_list e h rfl
    exact .inl ⟨vs, SqL.of h1, by rw [empty_all h2]⟩
  | .d (.tuple xs), h, ht =>
    cases ht
    obtain ⟨a, vs, rfl, h1, h2⟩ := hold_tuple h
    exact .inr (.inl ⟨vs, same_T e h1, by rw [empty_all h2]⟩)
  | .s ns, ⟨a, ea, hs⟩, ht =>
    cases ht
    subst ea
    exact .inl ⟨_, Same.seq e hs, by cases ns <;> rfl⟩
  | .c (.l xs), h, ht =>
    cases ht
    obtain ⟨a, vs, rfl, h1, h2⟩ := hold_list e h rfl
    exact .inl ⟨vs, SqL.of h1, by rw [empty_all h2]⟩
  | .c (.k xs), ⟨p, o, ep, hp, hc, _⟩, ht =>
    cases ht
    subst ep
    cases o <;> first | exact hc.elim | exact .inr (.inr ⟨_, hp, by rw [empty_kd hc]⟩)
def truM (x : Rv) : M Bool := fun env => match lk x env with
  | some a => match truth a with
    | some b => .ok b env
    | none => .no
  | none => .no
theorem truM_ok {W : Addr → Prop} {σ : L2.St} {F : Hp} {env : Env} {H : Hp} {v : V} {x : Rv} {Q : Bool → Env → Hp → Hp → Prop} (rl : Rel K W F H σ env) (rx : RRv K W F H σ env v x)
    (h : post K mg E W σ env F H (truM x env) Q) : ∃ k, TruV K v H k ∧ Q k env F H := by
  unfold truM at h
  cases hx : lk x env with
  | none => rw [hx] at h; exact h.elim
  | some a =>
    rw [hx] at h
    simp only at h
    cases hf : truth a with
    | none => rw [hf] at h; exact h.elim
    | some d =>
      rw [hf] at h
      exact ⟨d, truth_ok rl.fz (hold_of rl rx hx) hf, h F H (Aft.refl rl)⟩
/-- bind to a test -/
theorem tT_one {fa : M Rv} {k : Rv → M Bool} {σ : L2.St} {H : Hp} {Q : Bool → Hp → Prop} (h : tT K mg E (M.bind fa k) σ H Q) {R' : V → Hp → Prop}
    (hr : ∀ W F env H v x, Rel K W F H σ env → RRv K W F H σ env v x → post K mg E W σ env F H (k x env) (fun r env' F' H' => Q r H') → R' v H) : tE K mg E fa σ H R' := by
  obtain ⟨W, F, env, rl, h⟩ := h
  refine ⟨W, F, env, rl, ?_⟩
  exact (post_bind h).imp fun x env1 F1 H1 _ a1 h1 v rv => hr W F1 env1 H1 v x a1.rel rv h1
theorem tE_bindT {ft : M Bool} {k : Bool → M Rv} {σ : L2.St} {H : Hp} {Q : VK} (h : tE K mg E (M.bind ft k) σ H Q) : tT K mg E ft σ H (fun b H1 => tE K mg E (k b) σ H1 Q) := by
  obtain ⟨W, F, env, rl, h⟩ := h
  refine ⟨W, F, env, rl, ?_⟩
  exact (post_bind h).imp fun x env1 F1 H1 _ a1 h1 => ⟨W, F1, env1, a1.rel, h1⟩
theorem tT_bindT {ft : M Bool} {k : Bool → M Bool} {σ : L2.St} {H : Hp} {Q : Bool → Hp → Prop} (h : tT K mg E (M.bind ft k) σ H Q) : tT K mg E ft σ H (fun b H1 => tT K mg E (k b) σ H1 Q) := by
  obtain ⟨W, F, env, rl, h⟩ := h
  refine ⟨W, F, env, rl, ?_⟩
  exact (post_bind h).imp fun x env1 F1 H1 _ a1 h1 => ⟨W, F1, env1, a1.rel, h1⟩
theorem tT_ret {b : Bool} {σ : L2.St} {H : Hp} {Q : Bool → Hp → Prop} (h : tT K mg E (M.ret b) σ H Q) : Q b H := by
  obtain ⟨W, F, env, rl, h⟩ := h
  exact h F H (Aft.refl rl)
/-- any expression as a test -/
def vT (f : M Rv) : M Bool := M.bind f truM
theorem dt_val {e : Expr} {f : M Rv} (h : PE X e (tE X.K mg E f)) (he : ∀ whole, isTrue e X.env whole = (do let v ← whole; standAt e.pos; holding [v] (truthy v))) : PT X e (tT X.K mg E (vT f)) :=
  (pt_truth h he).imp fun σ H Q h => tT_one h fun W F env H v x rl rx hq => by
    obtain ⟨k, h1, h2⟩ := truM_ok rl rx hq
    exact ⟨k, h1, h2⟩
/-- a truth value as a test -/
def bM : Rv → M Bool
  | .d (.bool b) => M.ret b
  | _ => M.no
def vB (f : M Rv) : M Bool := M.bind f bM
theorem tT_vB {f : M Rv} {σ : L2.St} {H : Hp} {Q : Bool → Hp → Prop} (h : tT K mg E (vB f) σ H Q) : tE K mg E f σ H (fun x H' => ∃ k, x = .bl k ∧ Q k H') :=
  tT_one h fun W F env H v x rl rx hq => by
    unfold bM at hq
    split at hq
    · cases rx
      exact ⟨_, rfl, hq F H (Aft.refl rl)⟩
    · exact hq.elim
theorem dt_cmp {a b : Expr} {op : CmpOp} {pos : Pos} {r : R2} {fa fb : M Rv} {k : Rv → Rv → M Rv} (ho : OpR X (compareOp op) r) (hk : Op2 K mg E r k) (ha : PE X a (tE K mg E fa)) (hb : PE X b (tE K mg E fb)) (hm : behindInMarks op b = false) :
    PT X (.Compare a [op] [b] pos) (tT K mg E (vB (M.bind fa fun x => M.bind fb fun y => k x y))) :=
  (pt_cmpR ho ha hb hm).imp fun σ H Q h => tE_bin (tT_vB h) (R' := fun v u H2 => r v u H2 _) fun W F env H v u x y rl rx ry hq => hk W σ F env H v u x y _ rl rx ry hq
def chainF (fa fb fc : M Rv) (k k' : Rv → Rv → M Rv) : M Rv := M.bind fa fun x => M.bind fb fun y => match y with
  | .d d => M.bind (vB (k x (.d d))) fun t => cond t (M.bind fc fun z => k' (.d d) z) (vC (.bool false))
  | _ => M.no
theorem tE_chain {fa fb fc : M Rv} {k k' : Rv → Rv → M Rv} {r r' : R2} (hk : Op2 K mg E r k) (hk' : Op2 K mg E r' k') {σ : L2.St} {H : Hp} {Q : VK} (h : tE K mg E (chainF fa fb fc k k') σ H Q) :
    tChain r r' (tE K mg E fa) (tE K mg E fb) (tE K mg E fc) σ H Q := by
  refine tE_bin h (R' := fun v u H2 => r v u H2 _) fun W F env H v u x y rl rx ry hq => ?_
  cases y with
  | d d =>
    refine hk W σ F env H v u x (.d d) _ rl rx ry ?_
    have hq := post_bind (post_bind hq)
    refine hq.imp fun z env1 F1 H1 hok a1 h1 w rw => ?_
    unfold bM at h1
    split at h1
    · rename_i b
      have rw' : Dq K F1 w (.bool b) := rw
      cases rw'
      refine ⟨_, rfl, ?_⟩
      have h2 := h1 F1 H1 (Aft.refl a1.rel)
      cases b with
      | false =>
        rw [if_neg Bool.false_ne_true]
        exact h2 F1 H1 (Aft.refl a1.rel) _ (.bl _)
      | true =>
        rw [if_pos rfl]
        refine ⟨W, F1, env1, a1.rel, (post_bind h2).imp fun z' env2 F2 H2 _ a2 h3 v3 rv3 => ?_⟩
        refine hk' W σ F2 env2 H2 u v3 (.d d) z' _ a2.rel (Dq.mono (a1.same.trans a2.same) (show Dq K F u d from ry)) (rv3.less fun a ha => ?_) h3
        rcases ha with ha | ha
        · exact ha
        · exact ha.elim
    · exact h1.elim
  | _ => exact hq.elim
theorem de_chain {a b c : Expr} {op op' : CmpOp} {pos : Pos} {r r' : R2} {fa fb fc : M Rv} {k k' : Rv → Rv → M Rv} (ho : OpR X (compareOp op) r) (hk : Op2 K mg E r k) (ho' : OpR X (compareOp op') r') (hk' : Op2 K mg E r' k') (ha : PE X a (tE K mg E fa)) (hb : PE X b (tE K mg E fb)) (hc : PE X c (tE K mg E fc))
    (h1 : op' ≠ .In) (h2 : op' ≠ .NotIn) : PE X (.Compare a [op, op'] [b, c] pos) (tE K mg E (chainF fa fb fc k k')) := (pe_chain ho ho' ha hb hc (show behindInMarks op' c = false from nobehind _ h1 h2)).imp fun σ H Q h => tE_chain hk hk' h
theorem dt_chain {a b c : Expr} {op op' : CmpOp} {pos : Pos} {r r' : R2} {fa fb fc : M Rv} {k k' : Rv → Rv → M Rv} (ho : OpR X (compareOp op) r) (hk : Op2 K mg E r k) (ho' : OpR X (compareOp op') r') (hk' : Op2 K mg E r' k') (ha : PE X a (tE K mg E fa)) (hb : PE X b (tE K mg E fb)) (hc : PE X c (tE K mg E fc))
    (h1 : op' ≠ .In) (h2 : op' ≠ .NotIn) : PT X (.Compare a [op, op'] [b, c] pos) (tT K mg E (vB (chainF fa fb fc k k'))) := (pt_chain ho ho' ha hb hc (show behindInMarks op' c = false from nobehind _ h1 h2)).imp fun σ H Q h => tE_chain hk hk' (tT_vB h)
end
end Ev
set_option maxHeartbeats 200000
/-! Ev5: and, or, not, if, is None, in. -/
namespace Ev
open PySem PySem.Spec PyProof.Rows L2
variable [Tbi : Tabl]
section
variable {K : PySem.W.Frag} {mg : Str → Option Value} {E : XK} {X : Cx} {a b c : Expr} {rest : List Expr} {pos : Pos}

/-! ### and, or, not: tests -/
def andT (f g : M Bool) : M Bool := M.bind f fun t => cond t g (M.ret false)
def orT (f g : M Bool) : M Bool := M.bind f fun t => cond t (M.ret true) g
def notT (f : M Bool) : M Bool := M.bind f fun t => M.ret (!t)
theorem dw_and1 {f : M Bool} (ha : PT X a (tT K mg E f)) : PW X (.BoolOp .And [a] pos) (tT K mg E f) := pw_and1 ha
theorem dw_or1 {f : M Bool} (ha : PT X a (tT K mg E f)) : PW X (.BoolOp .Or [a] pos) (tT K mg E f) := pw_or1 ha
theorem _root_.L2.PW.imp {X : Cx} {e : Expr} {t t' : TT} (h : PW X e t) (k : ∀ σ H Q, t' σ H Q → t σ H Q) : PW X e t' := ⟨fun wh pins s σ H Q I q => h.run wh pins s σ H Q I (k σ H Q q)⟩
theorem dw_and {f g : M Bool} (ha : PT X a (tT K mg E f)) (hb : PW X (.BoolOp .And (b :: rest) pos) (tT K mg E g)) : PW X (.BoolOp .And (a :: b :: rest) pos) (tT K mg E (andT f g)) := by
  refine (pw_and ha hb).imp fun σ H Q h => ?_
  obtain ⟨W, F, env, rl, h⟩ := tT_bindT h
  refine ⟨W, F, env, rl, h.imp fun k env' F' H' _ _ q => ?_⟩
  cases k with
  | true => rw [if_pos rfl]; exact q
  | false => rw [if_neg Bool.false_ne_true]; exact tT_ret q
theorem dw_or {f g : M Bool} (ha : PT X a (tT K mg E f)) (hb : PW X (.BoolOp .Or (b :: rest) pos) (tT K mg E g)) : PW X (.BoolOp .Or (a :: b :: rest) pos) (tT K mg E (orT f g)) := by
  refine (pw_or ha hb).imp fun σ H Q h => ?_
  obtain ⟨W, F, env, rl, h⟩ := tT_bindT h
  refine ⟨W, F, env, rl, h.imp fun k env' F' H' _ _ q => ?_⟩
  cases k with
  | true => rw [if_pos rfl]; exact tT_ret q
  | false => rw [if_neg Bool.false_ne_true]; exact q
theorem dt_not {f : M Bool} (ha : PT X a (tT K mg E f)) : PT X (.UnaryOp .Not a pos) (tT K mg E (notT f)) := by
  refine (pt_not ha).imp fun σ H Q h => ?_
  obtain ⟨W, F, env, rl, h⟩ := tT_bindT h
  exact ⟨W, F, env, rl, h.imp fun k env' F' H' _ _ q => tT_ret q⟩
/-! ### and, or, not, if: values -/
def andV (f g : M Rv) : M Rv := M.bind f fun x => M.bind (truM x) fun t => cond t g (M.ret x)
def orV (f g : M Rv) : M Rv := M.bind f fun x => M.bind (truM x) fun t => cond t (M.ret x) g
def notV (f : M Rv) : M Rv := M.bind (vT f) fun t => vC (.bool (!t))
def ifV (t : M Bool) (f g : M Rv) : M Rv := M.bind t fun t => cond t f g
theorem tru_bind {W : Addr → Prop} {σ : L2.St} {F : Hp} {env : Env} {H : Hp} {v : V} {x : Rv} {k : Bool → M Rv} {Q : Rv → Env → Hp → Hp → Prop} (rl : Rel K W F H σ env) (rx : RRv K W F H σ env v x)
    (h : post K mg E W σ env F H (M.bind (truM x) k env) Q) : ∃ t, TruV K v H t ∧ post K mg E W σ env F H (k t env) Q := by
  exact truM_ok rl rx (post_bind h)
theorem de_and {f g : M Rv} (ha : PE X a (tE X.K mg E f)) (hb : PE X (.BoolOp .And (b :: rest) pos) (tE X.K mg E g)) : PE X (.BoolOp .And (a :: b :: rest) pos) (tE X.K mg E (andV f g)) := by
  refine (pe_andT ha hb).imp fun σ H Q h => tE_one h (R' := fun x H1 => ∃ k, TruV X.K x H1 k ∧ if k = true then tE X.K mg E g σ H1 Q else Q x H1) fun W F env H v x rl rx hq => ?_
  obtain ⟨t, h1, h2⟩ := tru_bind rl rx hq
  refine ⟨t, h1, ?_⟩
  cases t with
  | true => rw [if_pos rfl]; exact ⟨W, F, env, rl, h2⟩
  | false => rw [if_neg Bool.false_ne_true]; exact h2 F H (Aft.refl rl) v rx
theorem de_or {f g : M Rv} (ha : PE X a (tE X.K mg E f)) (hb : PE X (.BoolOp .Or (b :: rest) pos) (tE X.K mg E g)) : PE X (.BoolOp .Or (a :: b :: rest) pos) (tE X.K mg E (orV f g)) := by
  refine (pe_orT ha hb).imp fun σ H Q h => tE_one h (R' := fun x H1 => ∃ k, TruV X.K x H1 k ∧ if k = true then Q x H1 else tE X.K mg E g σ H1 Q) fun W F env H v x rl rx hq => ?_
  obtain ⟨t, h1, h2⟩ := tru_bind rl rx hq
  refine ⟨t, h1, ?_⟩
  cases t with
  | false => rw [if_neg Bool.false_ne_true]; exact ⟨W, F, env, rl, h2⟩
  | true => rw [if_pos rfl]; exact h2 F H (Aft.refl rl) v rx
theorem de_one {op : BoolOp} {f : M Rv} (ha : PE X a (tE K mg E f)) : PE X (.BoolOp op [a] pos) (tE K mg E f) := pe_one ha
theorem de_not {f : M Rv} (ha : PE X a (tE X.K mg E f)) : PE X (.UnaryOp .Not a pos) (tE X.K mg E (notV f)) := by
  refine (pe_notT ha).imp fun σ H Q h => ?_
  refine tT_one (tE_bindT h) (R' := fun x H1 => ∃ k, TruV X.K x H1 k ∧ Q (.bl (!k)) H1) fun W F env H v x rl rx hq => ?_
  obtain ⟨t, h1, h2⟩ := truM_ok rl rx hq
  exact ⟨t, h1, tE_ret (fun _ => .bl _) h2⟩
theorem de_if {t : M Bool} {f g : M Rv} (hc : PT X c (tT K mg E t)) (ha : PE X a (tE K mg E f)) (hb : PE X b (tE K mg E g)) : PE X (.IfExp c a b pos) (tE K mg E (ifV t f g)) := by
  refine (pe_ifExp hc ha hb).imp fun σ H Q h => ?_
  obtain ⟨W, F, env, rl, h⟩ := tE_bindT h
  refine ⟨W, F, env, rl, h.imp fun k env' F' H' _ _ q => ?_⟩
  cases k with
  | true => rw [if_pos rfl]; exact q
  | false => rw [if_neg Bool.false_ne_true]; exact q

/-! ### is None -/
def isNone : R → Bool
  | .d .none => true
  | _ => false
def isN (f : M Rv) : M Rv := M.bind f (lift1 fun r => some (.d (.bool (isNone r))))
def notN (f : M Rv) : M Rv := M.bind f (lift1 fun r => some (.d (.bool (!isNone r))))
theorem hold_none {F H : Hp} {v : V} {r : R} (h : Hold K F H v r) : decide (v = .non) = isNone r := by
  match r, h with
  | .d x, h =>
    have h : Dq K F v x := h
    cases h <;> rfl
  | .s ns, ⟨a, e, _⟩ => subst e; rfl
  | .c _, ⟨a, o, e, _⟩ => subst e; rfl
theorem tE_isN {f : M Rv} {σ : L2.St} {H : Hp} {Q : VK} (h : tE K mg E (isN f) σ H Q) : tE K mg E f σ H (fun x H1 => Q (.bl (decide (x = .non))) H1) :=
  tE_one h (R' := fun x H1 => Q (.bl (decide (x = .non))) H1) fun W F env H v x rl rx hq => by
    obtain ⟨a, z, ha, hf, hq⟩ := lift1_ok rl rx hq
    cases hf
    rw [hold_none ha]
    exact res_same hq rl (.bl _)
theorem tE_notN {f : M Rv} {σ : L2.St} {H : Hp} {Q : VK} (h : tE K mg E (notN f) σ H Q) : tE K mg E f σ H (fun x H1 => Q (.bl (!decide (x = .non))) H1) :=
  tE_one h (R' := fun x H1 => Q (.bl (!decide (x = .non))) H1) fun W F env H v x rl rx hq => by
    obtain ⟨a, z, ha, hf, hq⟩ := lift1_ok rl rx hq
    cases hf
    rw [hold_none ha]
    exact res_same hq rl (.bl _)
theorem de_isN {f : M Rv} {j pos'} (ha : PE X a (tE K mg E f)) : PE X (.Compare a [.Is] [.Constant .none j pos'] pos) (tE K mg E (isN f)) := (pe_cmp (pc_isN ha)).imp fun σ H Q h => tE_isN h
theorem de_notN {f : M Rv} {j pos'} (ha : PE X a (tE K mg E f)) : PE X (.Compare a [.IsNot] [.Constant .none j pos'] pos) (tE K mg E (notN f)) := (pe_cmp (pc_notN ha)).imp fun σ H Q h => tE_notN h
theorem dt_isN {f : M Rv} {j pos'} (ha : PE X a (tE K mg E f)) : PT X (.Compare a [.Is] [.Constant .none j pos'] pos) (tT K mg E (vB (isN f))) := (pt_cmp (pc_isN ha)).imp fun σ H Q h => tE_isN (tT_vB h)
theorem dt_notN {f : M Rv} {j pos'} (ha : PE X a (tE K mg E f)) : PT X (.Compare a [.IsNot] [.Constant .none j pos'] pos) (tT K mg E (vB (notN f))) := (pt_cmp (pc_notN ha)).imp fun σ H Q h => tE_notN (tT_vB h)

/-! ### in, not in -/
/-- a key as data -/
def keyD : Key → PyData
  | .inl i => .int i
  | .inr x => .str x
def dKey : PyData → Option Key
  | .int i => some (.inl i)
  | .str x => some (.inr x)
  | _ => none
def dKeys : List PyData → Option (List Key)
  | [] => some []
  | d :: ds => match dKey d, dKeys ds with
    | some k, some ks => some (k :: ks)
    | _, _ => none
theorem dKey_ok {F : Hp} {v : V} {d : PyData} {k : Key} (h : Dq K F v d) (e : dKey d = some k) : v = kV k := by
  cases h <;> first | (cases e; done) | (cases e; rfl)
theorem dKeys_ok {F : Hp} : ∀ {ds : List PyData} {vs : List V} {ks : List Key}, DqAll K F vs ds → dKeys ds = some ks → vs = ks.map kV
  | [], _, _, h, e => by cases h; cases e; rfl
  | d :: ds, _, ks, h, e => by
    cases h with
    | cons h1 h2 =>
      unfold dKeys at e
      split at e
      · rename_i k ks' e1 e2
        cases e
        rw [List.map_cons, dKey_ok h1 e1, dKeys_ok h2 e2]
      · cases e
theorem kd_val {κ : Type} [DecidableEq κ] {F : Hp} : ∀ {kvs : List (κ × V)} {es : List (κ × PyData)} (k : κ), KD K F kvs es → (match valV kvs k, (es.find? fun p => decide (p.1 = k)).map (·.2) with | some v, some d => Dq K F v d | none, none => True | _, _ => False)
  | [], _, k, h => by cases h; exact True.intro
  | p :: kvs, _, k, h => by
    cases h with
    | cons h1 h2 =>
      rename_i q es
      obtain ⟨e, hd⟩ := h1
      have ih := kd_val k h2
      by_cases hk : p.1 = k
      · rw [valV_pos hk, List.find?_cons_of_pos (by simp [← e, hk])]
        exact hd
      · rw [valV_neg hk, List.find?_cons_of_neg (by simp [← e, hk])]
        exact ih
def valD {κ : Type} [DecidableEq κ] (es : List (κ × PyData)) (k : κ) : Option PyData := (es.find? fun p => decide (p.1 = k)).map (·.2)
/-- is the first in the second -/
def inR (a b : R) : Option Bool := match b with
  | .d (.list xs) | .d (.tuple xs) | .c (.l xs) => match dat a with
    | some d => if SeqAt.shaped d = true ∧ SeqAt.shaped (.list xs) = true then some (xs.any fun z => PyData.eqv z d) else none
    | none => none
  | .d (.str t) => match a with
    | .d (.str s) => some (!(Builtin.Str.occurrences t s 0 t.length 1).isEmpty)
    | _ => none
  | .c (.k kvs) => match a with
    | .d d => (dKey d).map fun k => (valD kvs k).isSome
    | _ => none
  | .c (.t kvs) => match a with
    | .d (.tuple ds) => (dKeys ds).map fun k => (valD kvs k).isSome
    | _ => none
  | _ => none
end
end Ev
set_option maxHeartbeats 1000000
/-! Ev6: in, displays, arguments, subscripts, slices. -/
namespace Ev
open PySem PySem.Spec PyProof.Rows L2
variable [Tbi : Tabl]
section
variable {K : PySem.W.Frag} {mg : Str → Option Value} {E : XK} {X : Cx} {a b c : Expr} {rest : List Expr} {pos : Pos}

/-! ### a dict asked by a key, the key's tuple of any kind -/
def DAsk (K : PySem.W.Frag) (H : Hp) (a : Addr) (y : V) (r : Option V) : Prop :=
  (∃ kvs k, H a = some (.dK kvs) ∧ y = kV k ∧ r = valV kvs k) ∨ ∃ kvs k b, H a = some (.dT kvs) ∧ y = .ref b ∧ SqT K H b (k.map kV) ∧ r = valV kvs k
section
variable {pins : List (Addr × Obj)} {σ : L2.St} {H : Hp} {s : Shared} {p : Addr} {y v : V} {u : Value} {o : Option V} {A : Around} {EX : Value → Shared → Prop}
theorem key_at {k : List Key} {q : Addr} (I : Inv X pins σ H s) (h : SqT X.K H q (k.map kV)) : (tupleKind (mixKind X.prog X.w)).is s.heap k q := by
  obtain ⟨its, r, ⟨ob, h1, h2, n, h3⟩, _⟩ := I.tuple h
  exact ⟨ob, its.toArray, n, h1, h2, h3, by simpa using items_are r⟩
theorem ask_in {Q : Value → Shared → Prop} (hu : A.units + 1 < cLine) (I : Inv X pins σ H s) (g : DAsk X.K H p y o) (ry : RelV y u) (h : ∀ s', Inv X pins σ H s' → Q (.bool o.isSome) s') : wpAny (model X.prog X.w) A (compareOp .In u (.ref p)) Q EX s := by
  rcases g with ⟨kvs, k, e, ey, l⟩ | ⟨kvs, k, q, e, ey, eb, l⟩
  · exact d_in hu I (.inl ⟨kvs, k, .inl e, ey, l⟩) ry h
  · subst ey
    cases (show u = Value.ref q from ry)
    obtain ⟨z, hd, xs, rel, dd⟩ := dt_rd I.hok (.inl e)
    refine wpAny_in_heap (tupleKind_room_in1 hu) (key_at I eb) hd dd ?_
    have q := (rel.val k).isSome_eq
    rw [Option.isSome_map] at q
    rw [← q, ← l]
    exact h _ (I.tok _)
theorem ask_notIn {Q : Value → Shared → Prop} (hu : A.units + 1 < cLine) (I : Inv X pins σ H s) (g : DAsk X.K H p y o) (ry : RelV y u) (h : ∀ s', Inv X pins σ H s' → Q (.bool (!o.isSome)) s') : wpAny (model X.prog X.w) A (compareOp .NotIn u (.ref p)) Q EX s := by
  rcases g with ⟨kvs, k, e, ey, l⟩ | ⟨kvs, k, q, e, ey, eb, l⟩
  · exact d_notIn hu I (.inl ⟨kvs, k, .inl e, ey, l⟩) ry h
  · subst ey
    cases (show u = Value.ref q from ry)
    obtain ⟨z, hd, xs, rel, dd⟩ := dt_rd I.hok (.inl e)
    refine wpAny_notIn_heap (tupleKind_room_in1 hu) (key_at I eb) hd dd ?_
    have q := (rel.val k).isSome_eq
    rw [Option.isSome_map] at q
    rw [← q, ← l]
    exact h _ (I.tok _)
theorem ask_get {Q : Value → Shared → Prop} (hu : A.units + 1 < cLine) (I : Inv X pins σ H s) (g : DAsk X.K H p y (some v)) (ry : RelV y u) (h : ∀ w' s', Inv X pins σ H s' → RelV v w' → Q w' s') : wpAny (model X.prog X.w) A (getItem (.ref p) u) Q EX s := by
  rcases g with ⟨kvs, k, e, ey, l⟩ | ⟨kvs, k, q, e, ey, eb, l⟩
  · exact d_getItem hu I (.inl ⟨kvs, k, .inl e, ey, l⟩) ry h
  · subst ey
    cases (show u = Value.ref q from ry)
    obtain ⟨z, hd, xs, rel, dd⟩ := dt_rd I.hok (.inl e)
    obtain ⟨w', hw, rw'⟩ := RelO.some_of (v := v) (o := (atKey xs k).map (·.2)) (by rw [l]; exact rel.val k)
    obtain ⟨p, hp, hp2⟩ := Option.map_eq_some_iff.mp hw
    refine wpAny_getItem_heap (tupleKind_room_in1 hu) (key_at I eb) dd hp ?_
    rw [hp2]
    exact h w' _ (I.tok _) rw'
theorem ask_is (I : Inv X pins σ H s) (g : DAsk X.K H p y o) : s.TypeIs (.ref p) "dict" := by
  rcases g with ⟨kvs, k, e, _, _⟩ | ⟨kvs, k, b, e, _, _, _⟩
  · obtain ⟨_, _, vs, _, dd⟩ := dk_rd I.hok (.inl e)
    exact dd.typeIs
  · obtain ⟨_, _, xs, _, dd⟩ := dt_rd I.hok (.inl e)
    exact dd.typeIs
end
/-- asked as data -/
def askR (b : R) (d : PyData) : Option (Option PyData) := match b with
  | .c (.k kvs) => (dKey d).map (valD kvs)
  | .c (.t kvs) => match d with
    | .tuple ds => (dKeys ds).map (valD kvs)
    | _ => none
  | _ => none
def OptD (K : PySem.W.Frag) (F : Hp) : Option V → Option PyData → Prop
  | some v, some d => Dq K F v d
  | none, none => True
  | _, _ => False
theorem ask_of {F H : Hp} {v u : V} {r : R} {d : PyData} {o : Option PyData} (e : Same F H) (hr : Hold K F H u r) (hv : Dq K F v d) (h : askR r d = some o) : ∃ p w, u = .ref p ∧ DAsk K H p v w ∧ OptD K F w o := by
  unfold askR at h
  split at h
  · obtain ⟨p, ob, rfl, hp, hc, hfp⟩ := hr
    cases ob <;> first | exact hc.elim | skip
    rename_i es
    cases hk : dKey d with
    | none => rw [hk] at h; cases h
    | some k =>
      rw [hk] at h
      cases h
      refine ⟨p, valV es k, rfl, .inl ⟨es, k, hp, dKey_ok hv hk, rfl⟩, ?_⟩
      have q := kd_val k (show KD K F es _ from hc)
      unfold valD OptD
      exact q
  · split at h
    · rename_i ds
      obtain ⟨p, ob, rfl, hp, hc, hfp⟩ := hr
      cases ob <;> first | exact hc.elim | skip
      rename_i es
      cases hk : dKeys ds with
      | none => rw [hk] at h; cases h
      | some k =>
        rw [hk] at h
        cases h
        cases hv with
        | tup h1 h2 =>
          have e1 := dKeys_ok h2 hk
          subst e1
          refine ⟨p, valV es k, rfl, .inr ⟨es, k, _, hp, rfl, same_T e h1, rfl⟩, ?_⟩
          have q := kd_val k (show KD K F es _ from hc)
          unfold valD OptD
          exact q
    · cases h
  · cases h
theorem optD_some {F : Hp} {w : Option V} {o : Option PyData} (h : OptD K F w o) : w.isSome = o.isSome := by
  cases w <;> cases o <;> first | rfl | exact h.elim

/-- is the first in the second -/
def inR' (a b : R) : Option Bool := match b with
  | .d (.list xs) => match dat a with
    | some d => if SeqAt.shaped d = true ∧ SeqAt.shaped (.list xs) = true then some (xs.any fun z => PyData.eqv z d) else none
    | none => none
  | .d (.tuple xs) => match dat a with
    | some d => if SeqAt.shaped d = true ∧ SeqAt.shaped (.tuple xs) = true then some (xs.any fun z => PyData.eqv z d) else none
    | none => none
  | .c (.l xs) => match dat a with
    | some d => if SeqAt.shaped d = true ∧ SeqAt.shaped (.list xs) = true then some (xs.any fun z => PyData.eqv z d) else none
    | none => none
  | .d (.str t) => match a with
    | .d (.str s) => some (!(Builtin.Str.occurrences t s 0 t.length 1).isEmpty)
    | _ => none
  | b => match a with
    | .d d => (askR b d).map Option.isSome
    | _ => none
def rInAll (K : PySem.W.Frag) (neg : Bool) : R2 := fun x y H Q =>
  (∃ d ds, Dp K H x d ∧ (Dp K H y (.list ds) ∨ Dp K H y (.tuple ds)) ∧ SeqAt.shaped d = true ∧ SeqAt.shaped (.list ds) = true ∧ Q (.bl (xor neg (ds.any fun z => PyData.eqv z d))) H) ∨
  (∃ i j, x = .str i ∧ y = .str j ∧ Q (.bl (xor neg (!(Builtin.Str.occurrences j i 0 j.length 1).isEmpty))) H) ∨
  (∃ p o, y = .ref p ∧ DAsk K H p x o ∧ Q (.bl (xor neg o.isSome)) H)
theorem or_in (hu : X.A.units + 65 < cLine) : OpR X (compareOp .In) (rInAll X.K false) := by
  intro pins s σ H x y v u Q I rx ry h
  rcases h with ⟨d, ds, hd, he, sd, se, q⟩ | ⟨i, j, rfl, rfl, q⟩ | ⟨p, o, rfl, g, q⟩
  · rw [Bool.false_xor] at q
    rcases he with he | he
    · exact op_inD hu pins s σ H x y v u Q I rx ry ⟨d, ds, hd, he, sd, se, q⟩
    · obtain ⟨as, r1⟩ := Dp.reads I d x v hd rx
      obtain ⟨bs, r2⟩ := Dp.reads I (.tuple ds) y u he ry
      exact SeqAt.in_tuple_reads r2 r1 (SeqAt.canLay_of_shaped se) (SeqAt.canLay_of_shaped sd) (room_in_shaped sd hu) ⟨.bl _, H, I, rfl, q⟩
  · rw [Bool.false_xor] at q
    exact op_in_str pins s σ H _ _ v u Q I rx ry ⟨i, j, rfl, rfl, q⟩
  · rw [Bool.false_xor] at q
    obtain rfl : u = Value.ref p := ry
    exact ask_in (by omega) I g rx fun s' I' => ⟨.bl _, H, I', rfl, q⟩
theorem or_notIn (hu : X.A.units + 65 < cLine) : OpR X (compareOp .NotIn) (rInAll X.K true) := by
  intro pins s σ H x y v u Q I rx ry h
  rcases h with ⟨d, ds, hd, he, sd, se, q⟩ | ⟨i, j, rfl, rfl, q⟩ | ⟨p, o, rfl, g, q⟩
  · rw [Bool.true_xor] at q
    rcases he with he | he
    · exact op_notInD hu pins s σ H x y v u Q I rx ry ⟨d, ds, hd, he, sd, se, q⟩
    · obtain ⟨as, r1⟩ := Dp.reads I d x v hd rx
      obtain ⟨bs, r2⟩ := Dp.reads I (.tuple ds) y u he ry
      exact SeqAt.notIn_tuple_reads r2 r1 (SeqAt.canLay_of_shaped se) (SeqAt.canLay_of_shaped sd) (room_in_shaped sd hu) ⟨.bl _, H, I, rfl, q⟩
  · rw [Bool.true_xor] at q
    exact op_notin_str pins s σ H _ _ v u Q I rx ry ⟨i, j, rfl, rfl, q⟩
  · rw [Bool.true_xor] at q
    obtain rfl : u = Value.ref p := ry
    exact ask_notIn (by omega) I g rx fun s' I' => ⟨.bl _, H, I', rfl, q⟩
def inF (neg : Bool) : Rv → Rv → M Rv := look2 fun a b => (inR' a b).map fun t => .bool (xor neg t)
theorem op2_in {neg : Bool} : Op2 K mg E (rInAll K neg) (inF neg) := fun W σ F env H v u x y Q rl rx ry h => by
  obtain ⟨a, b, d, ha, hb, hf, hq⟩ := look2_ok rl rx ry h
  cases ht : inR' a b with
  | none => rw [ht] at hf; cases hf
  | some t =>
    rw [ht] at hf
    cases hf
    have hq := hq _ (.bl _)
    unfold inR' at ht
    split at ht
    · split at ht
      · rename_i d1 e1
        split at ht
        · rename_i hs
          cases ht
          exact .inl ⟨d1, _, (hold_dat rl.fz ha e1).dp, .inl (hold_dat rl.fz hb rfl).dp, hs.1, hs.2, hq⟩
        · cases ht
      · cases ht
    · split at ht
      · rename_i d1 e1
        split at ht
        · rename_i hs
          cases ht
          exact .inl ⟨d1, _, (hold_dat rl.fz ha e1).dp, .inr (hold_dat rl.fz hb rfl).dp, hs.1, hs.2, hq⟩
        · cases ht
      · cases ht
    · split at ht
      · rename_i d1 e1
        split at ht
        · rename_i hs
          cases ht
          exact .inl ⟨d1, _, (hold_dat rl.fz ha e1).dp, .inl (hold_dat rl.fz hb rfl).dp, hs.1, hs.2, hq⟩
        · cases ht
      · cases ht
    · split at ht
      · cases ht
        exact .inr (.inl ⟨_, _, hold_str ha, hold_str hb, hq⟩)
      · cases ht
    · split at ht
      · rename_i d1
        cases hk : askR b d1 with
        | none => rw [hk] at ht; cases ht
        | some o =>
          rw [hk] at ht
          cases ht
          obtain ⟨p, w, rfl, g, e⟩ := ask_of rl.fz hb (show Dq K F v d1 from ha) hk
          refine .inr (.inr ⟨p, w, rfl, g, ?_⟩)
          rw [optD_some e]
          exact hq
      · cases ht
end
end Ev
set_option maxHeartbeats 1000000
/-! Ev7: what becomes data; arguments, displays, subscripts, slices. -/
namespace Ev
open PySem PySem.Spec PyProof.Rows L2
variable [Tbi : Tabl]
section
variable {K : PySem.W.Frag} {mg : Str → Option Value} {E : XK} {X : Cx} {a b c e : Expr} {es : List Expr} {pos : Pos}

/-! ### a value becomes data -/
def frzI (i : Nat) : M PyData := fun env => match env[i]? with
  | some (some (.d x)) => .ok x env
  | some (some (.c (.l xs))) => .ok (.list xs) (env.set i (some (.d (.list xs))))
  | _ => .no
def asD : Rv → M PyData
  | .d x => M.ret x
  | .t xs => M.ret (.tuple xs)
  | .n (.l xs) => M.ret (.list xs)
  | .b i => frzI i
  | _ => M.no
section
variable {W : Addr → Prop} {σ : L2.St} {F : Hp} {env : Env} {H : Hp} {v : V} {x : Rv}
theorem aft_slot (rl : Rel K W F H σ env) {i : Nat} {xs : List PyData} (h : env[i]? = some (some (.c (.l xs)))) {v : V} (hv : σ[i]? = some (some v)) :
    ∃ p vs, v = .ref p ∧ DqAll K F vs xs ∧ Aft K W σ env F H (env.set i (some (.d (.list xs)))) (upd F p (.lst vs)) H ∧ (upd F p (.lst vs)) p = some (.lst vs) := by
  obtain ⟨p, o, rfl, hp, hc, hf, hw⟩ := rl.sl i _ _ hv h
  cases o <;> first | exact hc.elim | skip
  rename_i vs
  have hs : Same F (upd F p (.lst vs)) := up_new hf
  have hi : i < env.length := (List.getElem?_eq_some_iff.mp h).1
  have oi : Own σ env i p := ⟨hv, _, h⟩
  refine ⟨p, vs, rfl, hc, ⟨⟨List.length_set .., fun j r hr => ?_⟩, hs, fun _ _ => rfl, ⟨by rw [List.length_set]; exact rl.len, fun a u e => ?_, fun a ha => ⟨?_, (rl.fw a ha).2⟩, fun j y r h1 h2 => ?_, fun j k q o1 o2 => ?_, rl.tb, rl.fn, ⟨fun a ps e => ?_, rl.tf.2.trans hs⟩⟩⟩, upd_same⟩
  rotate_left 5
  · by_cases ea : a = p
    · subst ea; rw [upd_same] at e; cases e
    · rw [upd_ne ea] at e; exact rl.tf.1 a ps e
  · by_cases hj : i = j
    · subst hj
      rw [h] at hr; cases hr
      exact ⟨_, List.getElem?_set_self hi, rfl⟩
    · exact ⟨r, by rw [List.getElem?_set_ne hj]; exact hr, SLe.refl r⟩
  · by_cases ea : a = p
    · subst ea; rw [upd_same] at e; cases e; exact hp
    · rw [upd_ne ea] at e; exact rl.fz a u e
  · rw [upd_ne fun e => hw (by rw [← e]; exact ha)]; exact (rl.fw a ha).1
  · by_cases hj : i = j
    · subst hj
      rw [List.getElem?_set_self hi] at h2; cases h2
      rw [hv] at h1; cases h1
      exact .lst upd_same (DqAll.mono hs hc)
    · rw [List.getElem?_set_ne hj] at h2
      have q := rl.sl j y r h1 h2
      match y, r, q with
      | _, none, _ => exact True.intro
      | some v, some (.d x), q => exact Dq.mono hs q
      | some v, some (.s x), ⟨a, e, q⟩ => exact ⟨a, e, hs.seq q⟩
      | some v, some (.c c), ⟨p', u, e, hp', hc', hf', hw'⟩ =>
        refine ⟨p', u, e, hp', hc'.mono hs, ?_, hw'⟩
        rw [upd_ne ?_]
        · exact hf'
        · intro z
          subst e
          subst z
          exact hj (rl.ds i j p' oi ⟨h1, c, h2⟩)
  · have own : ∀ j q, Own σ (env.set i (some (.d (.list xs)))) j q → Own σ env j q := fun j q ⟨e1, c, e2⟩ => by
      by_cases hj : i = j
      · subst hj; rw [List.getElem?_set_self hi] at e2; cases e2
      · rw [List.getElem?_set_ne hj] at e2; exact ⟨e1, c, e2⟩
    exact rl.ds j k q (own j q o1) (own k q o2)
theorem asD_run (rl : Rel K W F H σ env) (rx : RRv K W F H σ env v x) : asD x env = .no ∨ ∃ d env' F', asD x env = .ok d env' ∧ Aft K W σ env F H env' F' H ∧ Dq K F' v d := by
  cases x with
  | d x => exact .inr ⟨x, env, F, rfl, Aft.refl rl, rx⟩
  | t xs => obtain ⟨p, vs, rfl, h1, h2⟩ := rx; exact .inr ⟨_, env, F, rfl, Aft.refl rl, .tup (SqT.of h1) h2⟩
  | s ns => exact .inl rfl
  | n c =>
    cases c with
    | l xs =>
      obtain ⟨p, o, rfl, hp, hc, hf, hw, ho⟩ := rx
      cases o <;> first | exact hc.elim | skip
      exact .inr ⟨_, env, _, rfl, aft_frz rl hf hp hw ho, .lst upd_same (DqAll.mono (up_new hf) hc)⟩
    | k kvs => exact .inl rfl
    | t kvs => exact .inl rfl
  | b i =>
    obtain ⟨hv, r, hr⟩ := rx
    show frzI i env = .no ∨ ∃ d env' F', frzI i env = .ok d env' ∧ Aft K W σ env F H env' F' H ∧ Dq K F' v d
    unfold frzI
    rw [hr]
    match r, hr with
    | .d x, hr =>
      have q := rl.sl i _ _ hv hr
      exact .inr ⟨x, env, F, rfl, Aft.refl rl, q⟩
    | .s ns, _ => exact .inl rfl
    | .c (.l xs), hr =>
      obtain ⟨p, vs, rfl, hd, ha, hu⟩ := aft_slot rl hr hv
      exact .inr ⟨_, _, _, rfl, ha, .lst hu (DqAll.mono ha.same hd)⟩
    | .c (.k _), _ => exact .inl rfl
    | .c (.t _), _ => exact .inl rfl
theorem asD_post {α : Type} {k : PyData → M α} {Q : α → Env → Hp → Hp → Prop} (rl : Rel K W F H σ env) (rx : RRv K W F H σ env v x) (h : post K mg E W σ env F H (M.bind (asD x) k env) Q) :
    ∃ d env' F', Aft K W σ env F H env' F' H ∧ Dq K F' v d ∧ post K mg E W σ env' F' H (k d env') Q := by
  have h := post_bind h
  rcases asD_run rl rx with e | ⟨d, env', F', e, a, q⟩
  · rw [e] at h; exact h.elim
  · rw [e] at h; exact ⟨d, env', F', a, q, h F' H a⟩
end
def pends : List V → List Rv → Addr → Prop
  | v :: vs, x :: xs => fun a => pend v x a ∨ pends vs xs a
  | _, _ => fun _ => False
section
variable {σ : L2.St} {F H F' H' : Hp} {env env' : Env}
theorem RRvs.less : ∀ {vs : List V} {xs : List Rv} {W W' : Addr → Prop}, RRvs K σ env F H W' vs xs → (∀ a, W a → W' a) → RRvs K σ env F H W vs xs
  | [], [], _, _, _, _ => True.intro
  | _ :: _, _ :: _, W, W', ⟨h1, h2⟩, k => ⟨h1.less k, RRvs.less h2 fun a ha => ha.elim (fun z => .inl (k a z)) .inr⟩
  | [], _ :: _, _, _, h, _ => h.elim
  | _ :: _, [], _, _, h, _ => h.elim
theorem RRvs.hold : ∀ {vs : List V} {xs : List Rv} {W : Addr → Prop}, RRvs K σ env F H W vs xs → Rel K W F H σ env → Rel K (fun a => W a ∨ pends vs xs a) F H σ env
  | [], [], _, _, rl => rl.less fun a ha => ha.elim id False.elim
  | _ :: _, _ :: _, W, ⟨h1, h2⟩, rl => (RRvs.hold h2 (h1.hold rl)).less fun a ha => by
    rcases ha with ha | ha | ha
    · exact .inl (.inl ha)
    · exact .inl (.inr ha)
    · exact .inr ha
  | [], _ :: _, _, h, _ => h.elim
  | _ :: _, [], _, h, _ => h.elim
theorem RRvs.keep : ∀ {vs : List V} {xs : List Rv} {W : Addr → Prop}, RRvs K σ env F H W vs xs → Aft K (fun a => W a ∨ pends vs xs a) σ env F H env' F' H' → RRvs K σ env' F' H' W vs xs
  | [], [], _, _, _ => True.intro
  | _ :: _, _ :: _, W, ⟨h1, h2⟩, a => ⟨h1.keep (a.less fun b hb => hb.elim .inl fun z => .inr (.inl z)), RRvs.keep h2 (a.less fun b hb => by
      rcases hb with (hb | hb) | hb
      · exact .inl hb
      · exact .inr (.inl hb)
      · exact .inr (.inr hb))⟩
  | [], _ :: _, _, h, _ => h.elim
  | _ :: _, [], _, h, _ => h.elim
theorem RRvs.apart : ∀ {vs : List V} {xs : List Rv} {W : Addr → Prop} {p : Addr}, RRvs K σ env F H W vs xs → pends vs xs p → ¬ W p
  | v :: vs, x :: xs, W, p, ⟨h1, h2⟩, h => by
    rcases h with h | h
    · cases x with
      | n c => obtain ⟨q, o, e, _, _, _, hw, _⟩ := h1; have h : v = .ref p := h; rw [e] at h; cases h; exact hw
      | _ => exact h.elim
    · exact fun z => RRvs.apart h2 h (.inl z)
theorem RRvs.length : ∀ {vs : List V} {xs : List Rv} {W : Addr → Prop}, RRvs K σ env F H W vs xs → vs.length = xs.length
  | [], [], _, _ => rfl
  | _ :: _, _ :: _, _, ⟨_, h⟩ => congrArg (· + 1) (RRvs.length h)
  | [], _ :: _, _, h => h.elim
  | _ :: _, [], _, h => h.elim
end
def asDs : List Rv → M (List PyData)
  | [] => M.ret []
  | x :: xs => M.bind (asD x) fun d => M.bind (asDs xs) fun ds => M.ret (d :: ds)
theorem asDs_run {σ : L2.St} {H : Hp} : ∀ {vs : List V} {xs : List Rv} {W : Addr → Prop} {F : Hp} {env : Env}, Rel K W F H σ env → RRvs K σ env F H W vs xs →
    asDs xs env = .no ∨ ∃ ds env' F', asDs xs env = .ok ds env' ∧ Aft K W σ env F H env' F' H ∧ DqAll K F' vs ds
  | [], [], W, F, env, rl, _ => .inr ⟨[], env, F, rfl, Aft.refl rl, .nil⟩
  | v :: vs, x :: xs, W, F, env, rl, ⟨h1, h2⟩ => by
    have r2 : Rel K (fun a => W a ∨ pends vs xs a) F H σ env := (RRvs.hold (h2.less fun _ => .inl) rl)
    have h1' : RRv K (fun a => W a ∨ pends vs xs a) F H σ env v x := by
      cases x with
      | n c =>
        obtain ⟨p, o, rfl, hp, hc, hf, hw, ho⟩ := h1
        exact ⟨p, o, rfl, hp, hc, hf, fun z => z.elim hw fun z => RRvs.apart h2 z (.inr rfl), ho⟩
      | _ => exact h1
    unfold asDs M.bind
    rcases asD_run r2 h1' with e | ⟨d, env1, F1, e, a1, q⟩
    · rw [e]; exact .inl rfl
    · rw [e]
      have h3 := RRvs.keep (h2.less fun _ => .inl) a1
      rcases asDs_run (a1.rel.less fun _ => .inl) h3 with e2 | ⟨ds, env2, F2, e2, a2, q2⟩
      · simp only [e2]; first | exact .inl rfl | exact .inl True.intro
      · simp only [e2]
        exact .inr ⟨_, _, F2, rfl, (a1.less fun _ => .inl).trans a2, .cons (Dq.mono a2.same q) q2⟩
  | [], _ :: _, _, _, _, _, h => h.elim
  | _ :: _, [], _, _, _, _, h => h.elim
theorem asDs_post {α : Type} {σ : L2.St} {H : Hp} {vs : List V} {xs : List Rv} {W : Addr → Prop} {F : Hp} {env : Env} {k : List PyData → M α} {Q : α → Env → Hp → Hp → Prop} (rl : Rel K W F H σ env) (rx : RRvs K σ env F H W vs xs) (h : post K mg E W σ env F H (M.bind (asDs xs) k env) Q) :
    ∃ ds env' F', Aft K W σ env F H env' F' H ∧ DqAll K F' vs ds ∧ post K mg E W σ env' F' H (k ds env') Q := by
  have h := post_bind h
  rcases asDs_run rl rx with e | ⟨d, env', F', e, a, q⟩
  · rw [e] at h; exact h.elim
  · rw [e] at h; exact ⟨d, env', F', a, q, h F' H a⟩

/-! ### arguments -/
def argsV : List (M Rv) → M (List Rv)
  | [] => M.ret []
  | f :: fs => M.bind f fun x => M.bind (argsV fs) fun xs => M.ret (x :: xs)
theorem da_nil : PA X [] (tA K mg E (M.ret [])) := pa_nil.imp fun σ H Q ⟨W, F, env, rl, h⟩ => h F H (Aft.refl rl) [] True.intro
theorem da_cons {f : M Rv} {fs : M (List Rv)} (ha : PE X e (tE K mg E f)) (hr : PA X es (tA K mg E fs)) (hs : starEach (e :: es) X.env = (false, eval e X.env) :: starEach es X.env) :
    PA X (e :: es) (tA K mg E (M.bind f fun x => M.bind fs fun xs => M.ret (x :: xs))) := by
  refine (pa_cons ha hr hs).imp fun σ H Q ⟨W, F, env, rl, h⟩ => ?_
  refine ⟨W, F, env, rl, (post_bind h).imp fun x env1 F1 H1 _ a1 h1 v rv => ?_⟩
  refine ⟨Wp W v x, F1, env1, rv.hold a1.rel, ((post_bind h1).more (W' := Wp W v x) fun _ => .inl).imp fun xs env2 F2 H2 _ a2 h2 vs rvs => ?_⟩
  exact h2 a2 F2 H2 (Aft.refl (a2.rel.less fun _ => .inl)) (v :: vs) ⟨rv.keep a2, rvs⟩
/-! ### displays -/
def tupV (fs : M (List Rv)) : M Rv := M.bind fs fun xs => M.bind (asDs xs) fun ds => if ds.length ≤ sizeLine then M.ret (.t ds) else M.no
def lstV (fs : M (List Rv)) : M Rv := M.bind fs fun xs => M.bind (asDs xs) fun ds => if ds.length ≤ sizeLine then M.ret (.n (.l ds)) else M.no
theorem de_tup {x1} {fs : M (List Rv)} (h : PA X es (tA K mg E fs)) : PE X (.Tuple es x1 pos) (tE K mg E (tupV fs)) := by
  refine (pe_tup h).imp fun σ H Q hq => tA_args hq (R' := fun xs H1 => xs.length ≤ sizeLine ∧ ∀ p, H1 p = none → Q (.ref p) (upd H1 p (.tup xs))) fun W F env H vs xs rl rx h => ?_
  obtain ⟨ds, env', F', a, q, h⟩ := asDs_post rl rx h
  split at h
  · refine ⟨by rw [q.length]; assumption, fun p hp => ?_⟩
    have h := h (upd F' p (.tup vs)) (upd H p (.tup vs)) (aft_data a.rel hp) (.ref p) ⟨p, vs, rfl, upd_same, DqAll.mono (up_new (a.rel.free hp)) q⟩
    exact h
  · exact h.elim
theorem de_lst {fs : M (List Rv)} (h : PA X es (tA K mg E fs)) : PE X (.List es pos) (tE K mg E (lstV fs)) := by
  refine (pe_lst h).imp fun σ H Q hq => tA_args hq (R' := fun xs H1 => xs.length ≤ sizeLine ∧ ∀ p, H1 p = none → Q (.ref p) (upd H1 p (.lst xs))) fun W F env H vs xs rl rx h => ?_
  obtain ⟨ds, env', F', a, q, h⟩ := asDs_post rl rx h
  split at h
  · exact ⟨by rw [q.length]; assumption, fun p hp => res_new h a.rel hp q⟩
  · exact h.elim
theorem de_dnewK : PE X (.Dict [] [] pos) (tE K mg E (M.ret (.n (.k [])))) := pe_dnewK.imp fun σ H Q ⟨W, F, env, rl, h⟩ p hp => res_new h rl hp .nil
theorem de_dnewT : PE X (.Dict [] [] pos) (tE K mg E (M.ret (.n (.t [])))) := pe_dnewT.imp fun σ H Q ⟨W, F, env, rl, h⟩ p hp => res_new h rl hp .nil
end
end Ev
set_option maxHeartbeats 1000000
/-! Ev8: stars, subscripts, slices. -/
namespace Ev
open PySem PySem.Spec PyProof.Rows L2
variable [Tbi : Tabl]
section
variable {K : PySem.W.Frag} {mg : Str → Option Value} {E : XK} {X : Cx} {a b c e : Expr} {es : List Expr} {pos : Pos}
/-! ### *e in a display, a call -/
def seqOf : R → Option (List PyData)
  | .d (.list xs) => some xs
  | .d (.tuple xs) => some xs
  | .c (.l xs) => some xs
  | .s ns => some (ns.map .int)
  | _ => none
theorem hold_seq {F H : Hp} {v : V} {r : R} {xs : List PyData} (e : Same F H) (h : Hold K F H v r) (hs : seqOf r = some xs) : ∃ p vs, v = .ref p ∧ DqAll K F vs xs ∧ (SqL K H p vs ∨ SqT K H p vs) := by
  unfold seqOf at hs
  split at hs
  · cases hs; obtain ⟨p, vs, rfl, h1, h2⟩ := hold_list e h rfl; exact ⟨p, vs, rfl, h2, .inl (SqL.of h1)⟩
  · cases hs; obtain ⟨p, vs, rfl, h1, h2⟩ := hold_tuple h; exact ⟨p, vs, rfl, h2, .inr (same_T e h1)⟩
  · cases hs; obtain ⟨p, vs, rfl, h1, h2⟩ := hold_list e h rfl; exact ⟨p, vs, rfl, h2, .inl (SqL.of h1)⟩
  · cases hs; obtain ⟨p, rfl, h1⟩ := h; exact ⟨p, _, rfl, DqAll.of_ints, .inl (e.seq h1)⟩
  · cases hs
def starM (x : Rv) : M (List Rv) := fun env => match lk x env with
  | some a => match seqOf a with
    | some xs => .ok (xs.map .d) env
    | none => .no
  | none => .no
theorem RRvs.of_data {σ : L2.St} {env : Env} {F H : Hp} : ∀ {vs : List V} {ds : List PyData} {W : Addr → Prop}, DqAll K F vs ds → RRvs K σ env F H W vs (ds.map .d)
  | [], [], _, _ => True.intro
  | _ :: _, _ :: _, W, .cons h t => ⟨h, RRvs.of_data t⟩
theorem RRvs.append {σ : L2.St} {env : Env} {F H : Hp} {us : List V} {ys : List Rv} : ∀ {vs : List V} {ds : List PyData} {W : Addr → Prop}, DqAll K F vs ds → RRvs K σ env F H W us ys → RRvs K σ env F H W (vs ++ us) (ds.map .d ++ ys)
  | [], [], _, _, h => h
  | _ :: _, _ :: _, W, .cons q t, h => ⟨q, RRvs.append t (h.less fun a ha => ha.elim id False.elim)⟩
theorem da_star {p : Pos} {f : M Rv} {fs : M (List Rv)} (ha : PE X e (tE X.K mg E f)) (hr : PA X es (tA X.K mg E fs)) (hs : starEach (.Starred e p :: es) X.env = (true, eval e X.env) :: starEach es X.env) :
    PA X (.Starred e p :: es) (tA X.K mg E (M.bind (M.bind f starM) fun xs => M.bind fs fun ys => M.ret (xs ++ ys))) := by
  refine (StX.pa_star ha hr hs).imp fun σ H Q ⟨W, F, env, rl, h⟩ => ?_
  refine ⟨W, F, env, rl, (post_bind (post_bind h) |> fun h => h).imp fun x env1 F1 H1 _ a1 h1 v rv => ?_⟩
  have h1 := h1
  unfold starM at h1
  cases hx : lk x env1 with
  | none => rw [hx] at h1; exact h1.elim
  | some r =>
    rw [hx] at h1
    simp only at h1
    cases hq : seqOf r with
    | none => rw [hq] at h1; exact h1.elim
    | some ds =>
      rw [hq] at h1
      have h2 := h1 F1 H1 (Aft.refl a1.rel)
      obtain ⟨p, vs, rfl, hd, hp⟩ := hold_seq a1.rel.fz (hold_of a1.rel rv hx) hq
      refine ⟨p, vs, rfl, hp.symm, W, F1, env1, a1.rel, (post_bind h2).imp fun ys env2 F2 H2 _ a2 h3 us rvs => ?_⟩
      exact h3 F2 H2 (Aft.refl a2.rel) (vs ++ us) (RRvs.append (DqAll.mono a2.same hd) rvs)

/-! ### o[i] -/
theorem atI_map {α β : Type} (f : α → β) (xs : List α) (i : Int) : atI (xs.map f) i = (atI xs i).map f := by
  unfold atI
  rw [List.length_map]
  cases ixN xs.length i with
  | none => rfl
  | some j => simp
theorem atI_dq {F : Hp} {vs : List V} {ds : List PyData} {i : Int} {d : PyData} (h : DqAll K F vs ds) (e : atI ds i = some d) : ∃ v, atI vs i = some v ∧ Dq K F v d := by
  unfold atI at e ⊢
  rw [h.length]
  cases hj : ixN ds.length i with
  | none => rw [hj] at e; cases e
  | some j => rw [hj] at e; exact h.get e
def ixR (a b : R) : Option PyData := match a with
  | .d (.list xs) => match b with
    | .d (.int i) => atI xs i
    | _ => none
  | .d (.tuple xs) => match b with
    | .d (.int i) => atI xs i
    | _ => none
  | .c (.l xs) => match b with
    | .d (.int i) => atI xs i
    | _ => none
  | .s ns => match b with
    | .d (.int i) => (atI ns i).map .int
    | _ => none
  | .d (.str z) => match b with
    | .d (.int i) => if z.length ≤ sizeLine then (atI z.cps.toList i).map fun c => .str ⟨#[c]⟩ else none
    | _ => none
  | a => match b with
    | .d d => (askR a d).join
    | _ => none
def rIxAll (K : PySem.W.Frag) : R2 := fun x y H Q => rIx K x y H Q ∨ (∃ p v, x = .ref p ∧ DAsk K H p y (some v) ∧ Q v H)
theorem ix_dict (hu : X.A.units + 1 < cLine) : IxR X (fun x y H Q => ∃ p v, x = .ref p ∧ DAsk X.K H p y (some v) ∧ Q v H) := by
  intro value slice pins s σ H x y v u Q I rx ry h hs
  obtain ⟨p, z, rfl, g, q⟩ := h
  obtain rfl : v = Value.ref p := rx
  unfold subscriptTail
  refine wpAny_bind ?_
  rw [getitemInPython_of_ne (ask_is I g).not_modules]
  refine wpAny_bind (wpAny_specialOf (ask_is I g) PySem.F.slot_dict_getitem.lookup ?_)
  have fin : wpAny (model X.prog X.w) X.A (subscripted slice false (.ref p) u) (fun r s₃ => wpAny (model X.prog X.w) X.A (letTemporaryGo value (.ref p) r >>= fun _ => pure r) (EP X pins σ Q) X.xe s₃) X.xe s := by
    rw [hs]
    exact wpAny_operating (wpAny_mono (ask_get hu I g ry fun w' s' I' rw' => (show EP X pins σ Q w' s' from ⟨z, H, I', rw', q⟩)) (fun r s₃ h₃ => wpAny_bind (wpAny_letTemporaryGo (wpAny_pure h₃))) fun _ _ x => x)
  first
    | exact wpAny_pure (wpAny_bind fin)
    | exact wpAny_bind (wpAny_pure (wpAny_bind fin))
    | exact wpAny_bind fin
theorem ix_all (hu : X.A.units + 1 < cLine) : IxR X (rIxAll X.K) := ix_seq.or (ix_dict hu)
def ixF : Rv → Rv → M Rv := look2 ixR
theorem op2_ix : Op2 K mg E (rIxAll K) ixF := fun W σ F env H v u x y Q rl rx ry h => by
  obtain ⟨a, b, d, ha, hb, hf, hq⟩ := look2_ok rl rx ry h
  unfold ixR at hf
  split at hf
  · split at hf
    · obtain ⟨p, vs, rfl, h1, h2⟩ := hold_list rl.fz ha rfl
      obtain ⟨w, e, q⟩ := atI_dq h2 hf
      exact .inl (.inl ⟨p, vs, _, w, rfl, hold_int hb, SqL.of h1, e, hq _ q⟩)
    · cases hf
  · split at hf
    · obtain ⟨p, vs, rfl, h1, h2⟩ := hold_tuple ha
      obtain ⟨w, e, q⟩ := atI_dq h2 hf
      exact .inl (.inr (.inl ⟨p, vs, _, w, rfl, hold_int hb, same_T rl.fz h1, e, hq _ q⟩))
    · cases hf
  · split at hf
    · obtain ⟨p, vs, rfl, h1, h2⟩ := hold_list rl.fz ha rfl
      obtain ⟨w, e, q⟩ := atI_dq h2 hf
      exact .inl (.inl ⟨p, vs, _, w, rfl, hold_int hb, SqL.of h1, e, hq _ q⟩)
    · cases hf
  · split at hf
    · rename_i ns _ i
      obtain ⟨p, rfl, h1⟩ := ha
      cases e : atI ns i with
      | none => rw [e] at hf; cases hf
      | some n =>
        rw [e] at hf; cases hf
        exact .inl (.inl ⟨p, _, i, .int n, rfl, hold_int hb, rl.fz.seq h1, by rw [atI_map, e]; rfl, hq _ (.int _)⟩)
    · cases hf
  · split at hf
    · rename_i z _ i
      split at hf
      · rename_i hz
        cases e : atI z.cps.toList i with
        | none => rw [e] at hf; cases hf
        | some n =>
          rw [e] at hf; cases hf
          exact .inl (.inr (.inr ⟨z, i, n, hold_str ha, hold_int hb, hz, e, hq _ (.str _)⟩))
      · cases hf
    · cases hf
  · split at hf
    · rename_i d1
      cases e : askR a d1 with
      | none => rw [e] at hf; cases hf
      | some o =>
        rw [e] at hf
        have e2 : o = some d := hf
        subst e2
        obtain ⟨p, w, rfl, g, q⟩ := ask_of rl.fz ha (show Dq K F u d1 from hb) e
        cases w with
        | none => exact q.elim
        | some w => exact .inr ⟨p, w, rfl, g, hq _ q⟩
    · cases hf
theorem de_ix (hu : X.A.units + 1 < cLine) {fa fb : M Rv} (ha : PE X a (tE X.K mg E fa)) (hb : PE X b (tE X.K mg E fb)) (hs : PlainIx b) : PE X (.Subscript a b pos) (tE X.K mg E (M.bind fa fun x => M.bind fb fun y => ixF x y)) :=
  (pe_ix (ix_all hu) ha hb hs).imp fun σ H Q h => tE_bin h (R' := fun v u H2 => rIxAll X.K v u H2 Q) fun W F env H v u x y rl rx ry hq => op2_ix W σ F env H v u x y Q rl rx ry hq

/-! ### o[i:j] -/
def partM (x : Rv) : M (Option Int) := fun env => match lk x env with
  | some (.d (.int i)) => .ok (some i) env
  | _ => .no
variable (K) in
def tO (mg : Str → Option Value) (E : XK) (f : M (Option Int)) : TO := fun σ H Q => ∃ W F env, Rel K W F H σ env ∧ post K mg E W σ env F H (f env) fun r env' F' H' => Q r H'
theorem _root_.L2.PO.imp {X : Cx} {e : Option Expr} {t t' : TO} (h : PO X e t) (k : ∀ σ H Q, t' σ H Q → t σ H Q) : PO X e t' := ⟨fun pins s σ H Q I q => h.run pins s σ H Q I (k σ H Q q)⟩
theorem do_none : PO X none (tO K mg E (M.ret none)) := po_none.imp fun σ H Q ⟨W, F, env, rl, h⟩ => h F H (Aft.refl rl)
theorem do_some {f : M Rv} (h : PE X e (tE K mg E f)) : PO X (some e) (tO K mg E (M.bind f partM)) := (po_some h).imp fun σ H Q ⟨W, F, env, rl, h⟩ => by
  refine ⟨W, F, env, rl, (post_bind h).imp fun x env1 F1 H1 _ a1 h1 v rv => ?_⟩
  unfold partM at h1
  split at h1
  · rename_i i hx
    have q := hold_int (hold_of a1.rel rv hx)
    exact ⟨i, q, h1 F1 H1 (Aft.refl a1.rel)⟩
  · exact h1.elim
def cutD {α : Type} (xs : List α) (lo hi : Option Int) : List α := (xs.drop (HT.sIx xs.length 0 lo)).take (HT.sIx xs.length xs.length hi - HT.sIx xs.length 0 lo)
theorem cut_dq {F : Hp} {vs : List V} {ds : List PyData} {lo hi : Option Int} (h : DqAll K F vs ds) : DqAll K F (cutV vs lo hi) (cutD ds lo hi) := by
  unfold cutV cutD
  rw [h.length]
  exact DqAll.take _ (DqAll.drop _ h)
theorem cut_map {α β : Type} (f : α → β) (xs : List α) (lo hi : Option Int) : cutD (xs.map f) lo hi = (cutD xs lo hi).map f := by
  unfold cutD
  rw [List.length_map, List.map_take, List.map_drop]
def cutR (r : R) (lo hi : Option Int) : Option Rv := match r with
  | .d (.list xs) => some (.n (.l (cutD xs lo hi)))
  | .d (.tuple xs) => some (.d (.tuple (cutD xs lo hi)))
  | .c (.l xs) => some (.n (.l (cutD xs lo hi)))
  | .s ns => some (.n (.l ((cutD ns lo hi).map .int)))
  | .d (.str z) => if z.length ≤ sizeLine then some (.d (.str (cutS z lo hi))) else none
  | _ => none
def cutF (x : Rv) (lo hi : Option Int) : M Rv := lift1 (fun r => cutR r lo hi) x
def rSlAll (K : PySem.W.Frag) : V → Option Int → Option Int → Hp → VK → Prop := fun x lo hi H Q => rSlL K x lo hi H Q ∨ (rSlA K x lo hi H Q ∨ rSlS x lo hi H Q)
theorem sl_all : SlR X (rSlAll X.K) := sl_list.or (sl_tupA.or sl_str)
def sliceV (f : M Rv) (l h : M (Option Int)) : M Rv := M.bind f fun x => M.bind l fun lo => M.bind h fun hi => cutF x lo hi
theorem cutV_whole {vs : List V} {lo hi : Option Int} (h : HT.sIx vs.length 0 lo = 0 ∧ HT.sIx vs.length vs.length hi = vs.length) : cutV vs lo hi = vs := by
  unfold cutV
  rw [h.1, h.2]
  simp
theorem cutD_whole {α : Type} {vs : List α} {lo hi : Option Int} (h : HT.sIx vs.length 0 lo = 0 ∧ HT.sIx vs.length vs.length hi = vs.length) : cutD vs lo hi = vs := by
  unfold cutD
  rw [h.1, h.2]
  simp
theorem de_slice {lo hi : Option Expr} {p2 : Pos} {f : M Rv} {l h : M (Option Int)} (he : PE X e (tE X.K mg E f)) (hl : PO X lo (tO X.K mg E l)) (hh : PO X hi (tO X.K mg E h)) : PE X (.Subscript e (.Slice lo hi none p2) pos) (tE X.K mg E (sliceV f l h)) := by
  refine (pe_slice sl_all he hl hh).imp fun σ H Q ⟨W, F, env, rl, h⟩ => ?_
  refine ⟨W, F, env, rl, (post_bind h).imp fun x env1 F1 H1 _ a1 h1 v rv => ?_⟩
  refine ⟨Wp W v x, F1, env1, rv.hold a1.rel, ((post_bind h1).more (W' := Wp W v x) fun _ => .inl).imp fun lo env2 F2 H2 _ a2 h2 => ?_⟩
  have h2 := h2 a2
  have rv2 := rv.keep a2
  refine ⟨Wp W v x, F2, env2, a2.rel, ((post_bind h2).more (W' := Wp W v x) fun _ => .inl).imp fun hi env3 F3 H3 _ a3 h3 => ?_⟩
  have h3 := h3 a3
  have rv3 := rv2.keep a3
  have rl3 : Rel X.K W F3 H3 σ env3 := a3.rel.less fun _ => .inl
  obtain ⟨r, z, ha, hf, hq⟩ := lift1_ok rl3 rv3 h3
  unfold cutR at hf
  split at hf
  · cases hf
    obtain ⟨p, vs, rfl, h1, h2⟩ := hold_list rl3.fz ha rfl
    exact .inl ⟨p, vs, rfl, SqL.of h1, fun l hl => res_new hq rl3 hl (cut_dq h2)⟩
  · cases hf
    obtain ⟨p, vs, rfl, h1, h2⟩ := hold_tuple ha
    refine .inr (.inl ⟨p, vs, rfl, same_T rl3.fz h1, fun hw => ?_, fun _ l hl => res_data hq rl3 hl (.tup (SqT.of upd_same) (DqAll.mono (up_new (rl3.free hl)) (cut_dq h2)))⟩)
    rw [h2.length] at hw
    rw [cutD_whole hw] at hq
    exact res_same hq rl3 (.tup h1 h2)
  · cases hf
    obtain ⟨p, vs, rfl, h1, h2⟩ := hold_list rl3.fz ha rfl
    exact .inl ⟨p, vs, rfl, SqL.of h1, fun l hl => res_new hq rl3 hl (cut_dq h2)⟩
  · cases hf
    obtain ⟨p, rfl, h1⟩ := ha
    refine .inl ⟨p, _, rfl, rl3.fz.seq h1, fun l hl => res_new hq rl3 hl ?_⟩
    rw [← cut_map]
    exact cut_dq DqAll.of_ints
  · split at hf
    · cases hf
      exact .inr (.inr ⟨_, hold_str ha, by assumption, res_same hq rl3 (.str _)⟩)
    · cases hf
  · cases hf
end
end Ev
set_option maxHeartbeats 1000000
/-! Ev9: built-ins by their names. -/
namespace Ev
open PySem PySem.Spec PyProof.Rows L2
variable [Tbi : Tabl]
section
variable {K : PySem.W.Frag} {mg : Str → Option Value} {E : XK} {X : Cx} {a b c e : Expr} {es : List Expr} {pos p q : Pos}
variable (K mg E) in
def VR (r : List V → Hp → VK → Prop) (k : List Rv → M Rv) : Prop := ∀ (W : Addr → Prop) (σ : L2.St) (F : Hp) (env : Env) (H : Hp) (vs : List V) (xs : List Rv) (Q : VK), Rel K W F H σ env → RRvs K σ env F H W vs xs →
  post K mg E W σ env F H (k xs env) (fun r env' F' H' => ∀ w, RRv K W F' H' σ env' w r → Q w H') → r vs H Q
theorem de_callB {x : Str} {id : String} {r : List V → Hp → VK → Prop} {k : List Rv → M Rv} {fs : M (List Rv)} (hc : CallR X (.builtin id) r) (hk : VR K mg E r k) (hg : Gl X x) (hm : X.mg x = none) (hv : bootBuiltins x = some (.builtin id)) (ha : PA X (e :: es) (tA K mg E fs)) (hn : x ≠ "__name__") (hdb : (x == ("__debug__" : Str)) = false)
    (he : starEach (e :: es) X.env = (false, eval e X.env) :: starEach es X.env) (hpl : (backTo pos (starEach es X.env)).any (·.1) = false) : PE X (.Call (.Name x p) (e :: es) [] pos) (tE K mg E (M.bind fs k)) :=
  (pe_callB hc hg hm hv ha hn hdb he hpl).imp fun σ H Q h => tA_args h (R' := fun vs H1 => r vs H1 Q) fun W F env H vs xs rl rx hq => hk W σ F env H vs xs Q rl rx hq
theorem de_callTy {x : Str} {T : String} {r : List V → Hp → VK → Prop} {k : List Rv → M Rv} {fs : M (List Rv)} (hc : CallR X (.type T) r) (hk : VR K mg E r k) (hg : Gl X x) (hm : X.mg x = none) (hv : bootBuiltins x = some (.type T)) (ha : PA X (e :: es) (tA K mg E fs)) (hn : x ≠ "__name__") (hdb : (x == ("__debug__" : Str)) = false)
    (he : starEach (e :: es) X.env = (false, eval e X.env) :: starEach es X.env) (hpl : (backTo pos (starEach es X.env)).any (·.1) = false) : PE X (.Call (.Name x p) (e :: es) [] pos) (tE K mg E (M.bind fs k)) :=
  (pe_callTy hc hg hm hv ha hn hdb he hpl).imp fun σ H Q h => tA_args h (R' := fun vs H1 => r vs H1 Q) fun W F env H vs xs rl rx hq => hk W σ F env H vs xs Q rl rx hq
/-- one argument, two -/
def un1 (f : R → Option Rv) : List Rv → M Rv
  | [x] => lift1 f x
  | _ => M.no
def un2 (f : R → R → Option Rv) : List Rv → M Rv
  | [x, y] => lift2 f x y
  | _ => M.no
section
variable {W : Addr → Prop} {σ : L2.St} {F : Hp} {env : Env} {H : Hp} {vs : List V} {xs : List Rv} {Q : Rv → Env → Hp → Hp → Prop}
theorem un1_ok {f : R → Option Rv} (rl : Rel K W F H σ env) (rx : RRvs K σ env F H W vs xs) (h : post K mg E W σ env F H (un1 f xs env) Q) :
    ∃ v a z, vs = [v] ∧ Hold K F H v a ∧ f a = some z ∧ post K mg E W σ env F H (.ok z env) Q := by
  unfold un1 at h
  split at h
  · rename_i x
    match vs, rx with
    | [v], ⟨h1, _⟩ =>
      obtain ⟨a, z, ha, hf, hq⟩ := lift1_ok rl h1 h
      exact ⟨v, a, z, rfl, ha, hf, hq⟩
  · exact h.elim
theorem un2_ok {f : R → R → Option Rv} (rl : Rel K W F H σ env) (rx : RRvs K σ env F H W vs xs) (h : post K mg E W σ env F H (un2 f xs env) Q) :
    ∃ v u a b z, vs = [v, u] ∧ Hold K F H v a ∧ Hold K F H u b ∧ f a b = some z ∧ post K mg E W σ env F H (.ok z env) Q := by
  unfold un2 at h
  split at h
  · rename_i x
    match vs, rx with
    | [v, u], ⟨h1, h2, _⟩ =>
      obtain ⟨a, b, z, ha, hb, hf, hq⟩ := lift2_ok rl h1 h2 h
      exact ⟨v, u, a, b, z, rfl, ha, hb, hf, hq⟩
  · exact h.elim
end
/-! ### len -/
def lenR : R → Option Rv
  | .d (.str s) => if s.length ≤ sizeLine then some (.d (.int s.length)) else none
  | .c (.k kvs) => some (.d (.int kvs.length))
  | .c (.t kvs) => some (.d (.int kvs.length))
  | a => (seqOf a).map fun xs => .d (.int xs.length)
def rLenAll (K : PySem.W.Frag) : List V → Hp → VK → Prop := fun xs H Q => (∃ x n, xs = [x] ∧ LenV K x H n ∧ Q (.int n) H) ∨ (∃ p kvs, xs = [.ref p] ∧ H p = some (.dK kvs) ∧ Q (.int kvs.length) H) ∨ ∃ p kvs, xs = [.ref p] ∧ H p = some (.dT kvs) ∧ Q (.int ((kvs.length : Nat) : Int)) H
theorem cr_len : CallR X (.builtin "len") (rLenAll X.K) := by
  intro pins s σ H xs us Q I r h
  rcases h with h | ⟨p, kvs, rfl, hp, q⟩ | ⟨p, kvs, rfl, hp, q⟩
  · exact call_len pins s σ H xs us Q I r h
  · obtain ⟨u, rfl, rx⟩ := vals1 r
    obtain rfl : u = Value.ref p := rx
    exact d_len I (.inl hp) fun t s' I' => ⟨.int _, H, I', ⟨_, rfl⟩, q⟩
  · exact call_len_dT pins s σ H _ us Q I r ⟨p, kvs, rfl, hp, q⟩
theorem kd_len {κ : Type} {F : Hp} {vs : List (κ × V)} {ds : List (κ × PyData)} (h : KD K F vs ds) : vs.length = ds.length := Paired.length h
theorem vr_len : VR K mg E (rLenAll K) (un1 lenR) := fun W σ F env H vs xs Q rl rx h => by
  obtain ⟨v, a, z, rfl, ha, hf, hq⟩ := un1_ok rl rx h
  unfold lenR at hf
  split at hf
  · split at hf
    · cases hf
      cases hold_str ha
      exact .inl ⟨_, _, rfl, ⟨by assumption, rfl⟩, res_same hq rl (.int _)⟩
    · cases hf
  · cases hf
    obtain ⟨p, o, rfl, hp, hc, hfp⟩ := ha
    cases o <;> first | exact hc.elim | skip
    refine .inr (.inl ⟨p, _, rfl, hp, ?_⟩)
    rw [kd_len (show KD K F _ _ from hc)]
    exact res_same hq rl (.int _)
  · cases hf
    obtain ⟨p, o, rfl, hp, hc, hfp⟩ := ha
    cases o <;> first | exact hc.elim | skip
    refine .inr (.inr ⟨p, _, rfl, hp, ?_⟩)
    rw [kd_len (show KD K F _ _ from hc)]
    exact res_same hq rl (.int _)
  · cases hs : seqOf a with
    | none => rw [hs] at hf; cases hf
    | some xs =>
      rw [hs] at hf
      cases hf
      obtain ⟨p, vs, rfl, hd, hp⟩ := hold_seq rl.fz ha hs
      refine .inl ⟨.ref p, vs.length, rfl, ?_, ?_⟩
      · rcases hp with hp | hp
        · exact .inl ⟨vs, hp, rfl⟩
        · exact .inr ⟨vs, hp, rfl⟩
      · rw [hd.length]
        exact res_same hq rl (.int _)
/-! ### isinstance -/
def isaD (T : String) (d : PyData) : Option Bool :=
  if T = "int" then some d.isInt else if T = "bool" then some d.isBool else if T = "str" then some d.isStr else if T = "tuple" then some d.isTuple else if T = "list" then some d.isList else if T = "dict" then some d.isDict else none
def rIsD (K : PySem.W.Frag) (T : String) : List V → Hp → VK → Prop := fun xs H Q => ∃ x d b, xs = [x, .ty T] ∧ Dp K H x d ∧ isaD T d = some b ∧ Q (.bl b) H
theorem cr_isD (T : String) : CallR X (.builtin "isinstance") (rIsD X.K T) := by
  intro pins s σ H xs us Q I r h
  obtain ⟨x, d, b, rfl, hd, hb, q⟩ := h
  obtain ⟨u, w, rfl, ru, rw'⟩ := vals2 r
  obtain rfl : w = Value.type T := rw'
  obtain ⟨as, rd⟩ := Dp.reads I d x u hd ru
  have fin : ∀ (b' : Bool), b = b' → ∀ tk, s.toks ≤ tk → EP X pins σ Q (.bool b') { s with toks := tk } := fun b' e tk _ => ⟨.bl b', H, I.tok tk, rfl, e ▸ q⟩
  unfold isaD at hb
  split at hb
  · rename_i e; subst e; cases hb; exact PySem.W.isinstance_int_data rd (fin _ rfl)
  · split at hb
    · rename_i e; subst e; cases hb; exact PySem.W.isinstance_bool_data rd (fin _ rfl)
    · split at hb
      · rename_i e; subst e; cases hb; exact PySem.W.isinstance_str_data rd (fin _ rfl)
      · split at hb
        · rename_i e; subst e; cases hb; exact PySem.W.isinstance_tuple_data rd (fin _ rfl)
        · split at hb
          · rename_i e; subst e; cases hb; exact PySem.W.isinstance_list_data rd (fin _ rfl)
          · split at hb
            · rename_i e; subst e; cases hb; exact PySem.W.isinstance_dict_data rd (fin _ rfl)
            · cases hb
def isaF (T : String) : Rv → M Rv := lift1 fun a => match dat a with
  | some d => (isaD T d).map fun b => .d (.bool b)
  | none => none
theorem de_isa {T : String} {x : Str} {f : M Rv} (ha : PE X e (tE X.K mg E f)) (hg : Gl X "isinstance") (hm : X.mg "isinstance" = none) (hg2 : Gl X x) (hm2 : X.mg x = none) (hv2 : bootBuiltins x = some (.type T)) (hn2 : x ≠ "__name__") (hd2 : (x == ("__debug__" : Str)) = false)
    (he : starEach [e, .Name x q] X.env = (false, eval e X.env) :: starEach [.Name x q] X.env) : PE X (.Call (.Name "isinstance" p) [e, .Name x q] [] pos) (tE X.K mg E (M.bind f (isaF T))) := by
  have h1 : PE X (.Name x q) (tC (.ty T)) := pe_bltn hg2 hm2 hv2 rfl hn2 hd2
  refine (pe_callB (cr_isD T) hg hm (by decide +kernel) (pa_cons ha (pa_cons h1 pa_nil) he) (by decide) (by decide) he rfl).imp fun σ H Q h => tE_one h (R' := fun x H1 => rIsD X.K T [x, .ty T] H1 Q) fun W F env H v x rl rx hq => ?_
  obtain ⟨a, z, ha, hf, hq⟩ := lift1_ok rl rx hq
  split at hf
  · rename_i d hd
    cases hb : isaD T d with
    | none => rw [hb] at hf; cases hf
    | some b =>
      rw [hb] at hf
      cases hf
      exact ⟨v, d, b, rfl, (hold_dat rl.fz ha hd).dp, hb, res_same hq rl (.bl _)⟩
  · cases hf
/-! ### all, any, sum -/
def boolsOf : List PyData → Option (List Bool)
  | [] => some []
  | .bool b :: ds => (boolsOf ds).map (b :: ·)
  | _ :: _ => none
def intsOf : List PyData → Option (List Int)
  | [] => some []
  | .int b :: ds => (intsOf ds).map (b :: ·)
  | _ :: _ => none
theorem boolsOf_ok {F : Hp} : ∀ {ds : List PyData} {vs : List V} {bs : List Bool}, DqAll K F vs ds → boolsOf ds = some bs → vs = bs.map V.bl
  | [], _, _, h, e => by cases h; cases e; rfl
  | d :: ds, _, bs, h, e => by
    cases h with
    | cons h1 h2 =>
      unfold boolsOf at e
      split at e
      · rename_i hx; cases hx
      · rename_i hx; cases hx
        cases hb : boolsOf ds with
        | none => rw [hb] at e; cases e
        | some bs' => rw [hb] at e; cases e; cases h1; rw [boolsOf_ok h2 hb]; rfl
      · cases e
theorem intsOf_ok {F : Hp} : ∀ {ds : List PyData} {vs : List V} {bs : List Int}, DqAll K F vs ds → intsOf ds = some bs → vs = bs.map V.int
  | [], _, _, h, e => by cases h; cases e; rfl
  | d :: ds, _, bs, h, e => by
    cases h with
    | cons h1 h2 =>
      unfold intsOf at e
      split at e
      · rename_i hx; cases hx
      · rename_i hx; cases hx
        cases hb : intsOf ds with
        | none => rw [hb] at e; cases e
        | some bs' => rw [hb] at e; cases e; cases h1; rw [intsOf_ok h2 hb]; rfl
      · cases e
/-- a list (own, frozen, the script), not a tuple -/
def lstOf : R → Option (List PyData)
  | .s ns => some (ns.map .int)
  | a => lst a
theorem hold_lstOf {F H : Hp} {v : V} {r : R} {xs : List PyData} (e : Same F H) (h : Hold K F H v r) (hl : lstOf r = some xs) : ∃ a vs, v = .ref a ∧ SqL K H a vs ∧ DqAll K F vs xs := by
  unfold lstOf at hl
  split at hl
  · cases hl
    obtain ⟨p, rfl, h1⟩ := h
    exact ⟨p, _, rfl, e.seq h1, DqAll.of_ints⟩
  · obtain ⟨a, vs, rfl, h1, h2⟩ := hold_list e h hl
    exact ⟨a, vs, rfl, SqL.of h1, h2⟩
def allR (a : R) : Option Rv := ((lstOf a).bind boolsOf).map fun bs => .d (.bool (bs.all id))
def anyR (a : R) : Option Rv := ((lstOf a).bind boolsOf).map fun bs => .d (.bool (bs.any id))
def sumR (a : R) : Option Rv := ((lstOf a).bind intsOf).map fun ns => .d (.int ns.sum)
theorem map_bind_some {α β : Type} {o : Option α} {f : α → Option β} {g : β → Rv} {z : Rv} (h : (o.bind f).map g = some z) : ∃ x y, o = some x ∧ f x = some y ∧ z = g y := by
  cases o with
  | none => cases h
  | some x =>
    cases hy : f x with
    | none => rw [Option.bind_some, hy] at h; cases h
    | some y => rw [Option.bind_some, hy] at h; cases h; exact ⟨x, y, rfl, hy, rfl⟩
theorem vr_all : VR K mg E (rAll K) (un1 allR) := fun W σ F env H vs xs Q rl rx h => by
  obtain ⟨v, a, z, rfl, ha, hf, hq⟩ := un1_ok rl rx h
  obtain ⟨ds, bs, h1, h2, rfl⟩ := map_bind_some hf
  obtain ⟨p, vs, rfl, hp, hd⟩ := hold_lstOf rl.fz ha h1
  have e := boolsOf_ok hd h2
  subst e
  exact ⟨p, bs, rfl, hp, res_same hq rl (.bl _)⟩
theorem vr_any : VR K mg E (rAny K) (un1 anyR) := fun W σ F env H vs xs Q rl rx h => by
  obtain ⟨v, a, z, rfl, ha, hf, hq⟩ := un1_ok rl rx h
  obtain ⟨ds, bs, h1, h2, rfl⟩ := map_bind_some hf
  obtain ⟨p, vs, rfl, hp, hd⟩ := hold_lstOf rl.fz ha h1
  have e := boolsOf_ok hd h2
  subst e
  exact ⟨p, bs, rfl, hp, res_same hq rl (.bl _)⟩
theorem vr_sum : VR K mg E (rSum K) (un1 sumR) := fun W σ F env H vs xs Q rl rx h => by
  obtain ⟨v, a, z, rfl, ha, hf, hq⟩ := un1_ok rl rx h
  obtain ⟨ds, bs, h1, h2, rfl⟩ := map_bind_some hf
  obtain ⟨p, vs, rfl, hp, hd⟩ := hold_lstOf rl.fz ha h1
  have e := intsOf_ok hd h2
  subst e
  exact ⟨p, bs, rfl, hp, res_same hq rl (.int _)⟩
/-! ### abs, max and min of two, int, divmod -/
def absR : R → Option Rv
  | .d (.int i) => some (.d (.int (if i < 0 then -i else i)))
  | _ => none
theorem vr_abs : VR K mg E (fun xs H Q => ∃ i, xs = [.int i] ∧ Q (.int (if i < 0 then -i else i)) H) (un1 absR) := fun W σ F env H vs xs Q rl rx h => by
  obtain ⟨v, a, z, rfl, ha, hf, hq⟩ := un1_ok rl rx h
  unfold absR at hf
  split at hf
  · cases hf; cases hold_int ha; exact ⟨_, rfl, res_same hq rl (.int _)⟩
  · cases hf
def max2R (a b : R) : Option Rv := (i2 (fun i j => .int (if j > i then j else i)) a b).map .d
def min2R (a b : R) : Option Rv := (i2 (fun i j => .int (if j < i then j else i)) a b).map .d
theorem map_some {α : Type} {o : Option α} {f : α → Rv} {z : Rv} (h : o.map f = some z) : ∃ x, o = some x ∧ z = f x := by
  cases o with
  | none => cases h
  | some x => cases h; exact ⟨x, rfl, rfl⟩
theorem vr_max2 : VR K mg E (fun xs H Q => ∃ i j, xs = [.int i, .int j] ∧ Q (.int (if j > i then j else i)) H) (un2 max2R) := fun W σ F env H vs xs Q rl rx h => by
  obtain ⟨v, u, a, b, z, rfl, ha, hb, hf, hq⟩ := un2_ok rl rx h
  obtain ⟨d, hd, rfl⟩ := map_some hf
  obtain ⟨i, j, rfl, rfl, rfl⟩ := i2_some hd
  cases hold_int ha
  cases hold_int hb
  exact ⟨_, _, rfl, res_same hq rl (.int _)⟩
theorem vr_min2 : VR K mg E (fun xs H Q => ∃ i j, xs = [.int i, .int j] ∧ Q (.int (if j < i then j else i)) H) (un2 min2R) := fun W σ F env H vs xs Q rl rx h => by
  obtain ⟨v, u, a, b, z, rfl, ha, hb, hf, hq⟩ := un2_ok rl rx h
  obtain ⟨d, hd, rfl⟩ := map_some hf
  obtain ⟨i, j, rfl, rfl, rfl⟩ := i2_some hd
  cases hold_int ha
  cases hold_int hb
  exact ⟨_, _, rfl, res_same hq rl (.int _)⟩
def intR : R → Option Rv
  | .d (.int i) => some (.d (.int i))
  | .d (.bool k) => some (.d (.int (if k then 1 else 0)))
  | _ => none
theorem vr_int : VR K mg E (fun xs H Q => (∃ i, xs = [.int i] ∧ Q (.int i) H) ∨ ∃ k, xs = [.bl k] ∧ Q (.int (if k then 1 else 0)) H) (un1 intR) := fun W σ F env H vs xs Q rl rx h => by
  obtain ⟨v, a, z, rfl, ha, hf, hq⟩ := un1_ok rl rx h
  unfold intR at hf
  split at hf
  · cases hf; cases hold_int ha; exact .inl ⟨_, rfl, res_same hq rl (.int _)⟩
  · cases hf; cases hold_bool ha; exact .inr ⟨_, rfl, res_same hq rl (.int _)⟩
  · cases hf
def divmodR (a b : R) : Option Rv := match a, b with
  | .d (.int i), .d (.int j) => if 0 < j ∧ j.natAbs < 1073741824 then some (.t [.int (i / j), .int (i % j)]) else none
  | _, _ => none
end
end Ev
set_option maxHeartbeats 1000000
/-! Ev10: divmod, list(), tuple(), repr. -/
namespace Ev
open PySem PySem.Spec PyProof.Rows L2
variable [Tbi : Tabl]
section
variable {K : PySem.W.Frag} {mg : Str → Option Value} {E : XK} {X : Cx} {a b c e : Expr} {es : List Expr} {pos p q : Pos}
theorem vr_divmod : VR K mg E (fun xs H Q => ∃ i j, xs = [.int i, .int j] ∧ CDiv i j ∧ ∀ p, H p = none → Q (.ref p) (upd H p (.tup [.int (i / j), .int (i % j)]))) (un2 divmodR) := fun W σ F env H vs xs Q rl rx h => by
  obtain ⟨v, u, a, b, z, rfl, ha, hb, hf, hq⟩ := un2_ok rl rx h
  unfold divmodR at hf
  split at hf
  · rename_i i j
    split at hf
    · rename_i hc
      cases hf
      cases hold_int ha
      cases hold_int hb
      refine ⟨i, j, rfl, ⟨hc.1, by omega⟩, fun l hl => ?_⟩
      exact hq (upd F l _) (upd H l _) (aft_data rl hl) (.ref l) ⟨l, _, rfl, upd_same, .cons (.int _) (.cons (.int _) .nil)⟩
    · cases hf
  · cases hf
/-! ### list(x), tuple(x) -/
def keysL (kvs : List (Key × PyData)) : List PyData := kvs.map fun kv => keyD kv.1
def listR : R → Option Rv
  | .c (.k kvs) => some (.n (.l (keysL kvs)))
  | a => (seqOf a).map fun xs => .n (.l xs)
def tupleR : R → Option Rv
  | a => (seqOf a).map fun xs => .d (.tuple xs)
def rListAll (K : PySem.W.Frag) : List V → Hp → VK → Prop := fun xs H Q => (∃ p ys, xs = [.ref p] ∧ (SqL K H p ys ∨ SqT K H p ys) ∧ ∀ l, H l = none → Q (.ref l) (upd H l (.lst ys))) ∨ (∃ p kvs, xs = [.ref p] ∧ H p = some (.dK kvs) ∧ ∀ q, H q = none → Q (.ref q) (upd H q (.lst (kvs.map fun kv => kV kv.1))))
theorem cr_list (hc : X.calm = true) : CallR X (.type "list") (rListAll X.K) := by
  intro pins s σ H xs us Q I r h
  rcases h with h | h
  · exact call_list_of pins s σ H xs us Q I r h
  · exact call_list_dK hc pins s σ H xs us Q I r h
theorem dq_keys {F : Hp} : ∀ {kvs : List (Key × V)} {es : List (Key × PyData)}, KD K F kvs es → DqAll K F (kvs.map fun kv => kV kv.1) (keysL es)
  | [], _, h => by cases h; exact .nil
  | (k, v) :: kvs, _, h => by
    cases h with
    | cons h1 h2 =>
      rename_i q es
      obtain ⟨k', d'⟩ := q
      obtain ⟨e, _⟩ := h1
      have e : k = k' := e
      subst e
      refine .cons ?_ (dq_keys h2)
      show Dq K F (kV k) (keyD k)
      cases k with
      | inl i => exact .int i
      | inr x => exact .str x
theorem vr_list : VR K mg E (rListAll K) (un1 listR) := fun W σ F env H vs xs Q rl rx h => by
  obtain ⟨v, a, z, rfl, ha, hf, hq⟩ := un1_ok rl rx h
  unfold listR at hf
  split at hf
  · cases hf
    obtain ⟨p, o, rfl, hp, hc, hfp⟩ := ha
    cases o <;> first | exact hc.elim | skip
    exact .inr ⟨p, _, rfl, hp, fun l hl => res_new hq rl hl (dq_keys (show KD K F _ _ from hc))⟩
  · obtain ⟨xs, hs, rfl⟩ := map_some hf
    obtain ⟨p, vs, rfl, hd, hp⟩ := hold_seq rl.fz ha hs
    exact .inl ⟨p, vs, rfl, hp, fun l hl => res_new hq rl hl hd⟩
theorem vr_tuple : VR K mg E (fun xs H Q => ∃ p ys, xs = [.ref p] ∧ ((SqL K H p ys ∧ ∀ l, H l = none → Q (.ref l) (upd H l (.tup ys))) ∨ (SqT K H p ys ∧ Q (.ref p) H))) (un1 tupleR) := fun W σ F env H vs xs Q rl rx h => by
  obtain ⟨v, a, z, rfl, ha, hf, hq⟩ := un1_ok rl rx h
  obtain ⟨xs, hs, rfl⟩ := map_some hf
  have tup : ∀ {xs : List PyData}, (∃ a vs, v = .ref a ∧ SqT K F a vs ∧ DqAll K F vs xs) → post K mg E W σ env F H (.ok (.d (.tuple xs)) env) (fun r env' F' H' => ∀ w, RRv K W F' H' σ env' w r → Q w H') → ∃ p ys, [v] = [V.ref p] ∧ ((SqL K H p ys ∧ ∀ l, H l = none → Q (.ref l) (upd H l (.tup ys))) ∨ (SqT K H p ys ∧ Q (.ref p) H)) := by
    rintro xs ⟨p, vs, rfl, h1, h2⟩ hq
    exact ⟨p, vs, rfl, .inr ⟨same_T rl.fz h1, res_same hq rl (.tup h1 h2)⟩⟩
  have lis : ∀ {xs : List PyData}, (∃ a vs, v = .ref a ∧ SqL K H a vs ∧ DqAll K F vs xs) → post K mg E W σ env F H (.ok (.d (.tuple xs)) env) (fun r env' F' H' => ∀ w, RRv K W F' H' σ env' w r → Q w H') → ∃ p ys, [v] = [V.ref p] ∧ ((SqL K H p ys ∧ ∀ l, H l = none → Q (.ref l) (upd H l (.tup ys))) ∨ (SqT K H p ys ∧ Q (.ref p) H)) := by
    rintro xs ⟨p, vs, rfl, h1, h2⟩ hq
    exact ⟨p, vs, rfl, .inl ⟨h1, fun l hl => res_data hq rl hl (.tup (SqT.of upd_same) (DqAll.mono (up_new (rl.free hl)) h2))⟩⟩
  unfold seqOf at hs
  split at hs
  · cases hs; exact lis (hold_lstOf rl.fz ha rfl) hq
  · cases hs; exact tup (hold_tuple ha) hq
  · cases hs; exact lis (hold_lstOf rl.fz ha rfl) hq
  · cases hs; exact lis (hold_lstOf rl.fz ha rfl) hq
  · cases hs
/-! ### repr -/
def reprOk (d : PyData) : Bool := d.showable && decide (d.depth ≤ 60) && decide (d.shown.length ≤ sizeLine) && (match d with | .list _ => true | .tuple _ => true | _ => false)
def rRepr (K : PySem.W.Frag) : List V → Hp → VK → Prop := fun xs H Q => ∃ x d, xs = [x] ∧ Dp K H x d ∧ reprOk d = true ∧ Q (.str d.shown) H
mutual
theorem dp_noDict {H : Hp} : ∀ {d : PyData} {v : V}, Dp K H v d → d.hasDict = false
  | .none, _, _ => rfl
  | .bool _, _, _ => rfl
  | .int _, _, _ => rfl
  | .str _, _, _ => rfl
  | .list ds, _, h => by
    cases h with
    | lst h1 h2 => rw [PyData.hasDict]; exact dpAll_noDict h2
  | .tuple ds, _, h => by
    cases h with
    | tup h1 h2 => rw [PyData.hasDict]; exact dpAll_noDict h2
  | .dict _, _, h => by cases h
theorem dpAll_noDict {H : Hp} : ∀ {ds : List PyData} {vs : List V}, DpAll K H vs ds → PyData.hasDictAll ds = false
  | [], _, _ => rfl
  | d :: ds, _, h => by
    cases h with
    | cons h1 h2 => rw [PyData.hasDictAll, dp_noDict h1, dpAll_noDict h2]; rfl
end
theorem cr_repr (hg : X.A.guards = some []) (hu : X.A.units + 64 < cLine) : CallR X (.builtin "repr") (rRepr X.K) := by
  intro pins s σ H xs us Q I r h
  obtain ⟨x, d, rfl, hd, hr, q⟩ := h
  obtain ⟨u, rfl, ru⟩ := vals1 r
  obtain ⟨as, rd⟩ := Dp.reads I d x u hd ru
  unfold reprOk at hr
  simp only [Bool.and_eq_true, decide_eq_true_eq] at hr
  obtain ⟨⟨⟨h1, h2⟩, h3⟩, h4⟩ := hr
  have hnd := dp_noDict hd
  have fin : ∀ h' u tk, (∀ b o, s.heap.get? b = some o → h'.get? b = some o) → EP X pins σ Q (.str d.shown u) { s with heap := h', toks := tk } := fun h' u tk k => ⟨.str _, H, I.kept k, ⟨_, rfl⟩, q⟩
  cases hd with
  | lst h5 h6 => cases ru; exact repr_of_reads' rd h1 (by intro z; rw [hnd] at z; cases z) hg (by omega) (fun _ _ e => e) fin h3
  | tup h5 h6 => cases ru; exact repr_of_reads' rd h1 (by intro z; rw [hnd] at z; cases z) hg (by omega) (fun _ _ e => e) fin h3
  | _ => cases h4
def reprR (a : R) : Option Rv := match dat a with
  | some d => if reprOk d = true then some (.d (.str d.shown)) else none
  | none => none
theorem vr_repr : VR K mg E (rRepr K) (un1 reprR) := fun W σ F env H vs xs Q rl rx h => by
  obtain ⟨v, a, z, rfl, ha, hf, hq⟩ := un1_ok rl rx h
  unfold reprR at hf
  split at hf
  · rename_i d hd
    split at hf
    · rename_i hr
      cases hf
      exact ⟨v, d, rfl, (hold_dat rl.fz ha hd).dp, hr, res_same hq rl (.str _)⟩
    · cases hf
  · cases hf
end
end Ev
set_option maxHeartbeats 4000000
/-! Ev11: sorted. -/
namespace Ev
open PySem PySem.Spec PyProof.Rows L2 PySem.W
variable [Tbi : Tabl]
mutual
theorem reads_lt {h : Heap} : ∀ (d : PyData) (v : Value) (as : List Addr), d.hasDict = false → Reads h v d as → ∀ a ∈ as, a < h.objs.size
  | .none, _, _, _, r => by cases r; simp
  | .bool _, _, _, _, r => by cases r; simp
  | .int _, _, _, _, r => by cases r; simp
  | .str _, _, _, _, r => by cases r; simp
  | .list ds, _, _, hd, r => by
    cases r with
    | list h1 h2 h3 h4 =>
      intro a ha
      rcases List.mem_cons.mp ha with rfl | ha
      · exact Heap.lt_size h1
      · exact readsAll_lt ds _ _ (by simpa [PyData.hasDict] using hd) h4 a ha
  | .tuple ds, _, _, hd, r => by
    cases r with
    | tuple h1 h2 h3 h4 => exact readsAll_lt ds _ _ (by simpa [PyData.hasDict] using hd) h4
  | .dict _, _, _, hd, _ => by simp [PyData.hasDict] at hd
theorem readsAll_lt {h : Heap} : ∀ (ds : List PyData) (vs : List Value) (as : List Addr), PyData.hasDictAll ds = false → ReadsAll h vs ds as → ∀ a ∈ as, a < h.objs.size
  | [], _, _, _, r => by cases r; simp
  | d :: ds, _, _, hd, r => by
    cases r with
    | cons h1 h2 =>
      have hd : d.hasDict = false ∧ PyData.hasDictAll ds = false := by simpa [PyData.hasDictAll] using hd
      intro a ha
      rcases List.mem_append.mp ha with ha | ha
      · exact reads_lt d _ _ hd.1 h1 a ha
      · exact readsAll_lt ds _ _ hd.2 h2 a ha
end
section
variable {X : Cx} {pins : List (Addr × Obj)} {σ : L2.St} {H : Hp} {s : Shared}
/-- pairs of a value and what it is as data, sorted by the data -/
def sortP (ps : List (V × PyData)) : List (V × PyData) := ps.mergeSort (dataLe false Prod.snd)
def sortD (ds : List PyData) : List PyData := ds.mergeSort (dataLe false id)
theorem sortP_snd (ps : List (V × PyData)) : (sortP ps).map Prod.snd = sortD (ps.map Prod.snd) := by
  unfold sortP sortD
  exact sort_maps Prod.snd fun a _ b _ => rfl
/-- sorted(..) of what is collected -/
theorem sorted_from {r : Value} {E' : Value → Shared → Prop} {Q : Value → Shared → Prop} (hr : X.A.units + 70 < cLine)
    (hcol : ∀ (R : List Value → Shared → Prop), (∀ us s1 ps, Inv X pins σ H s1 → EachIs (fun u q => RelV q.1 u) us ps → AllAlike (ps.map Prod.snd) → Sortable (ps.map Prod.snd) → (∀ q ∈ ps, Dp X.K H q.1 q.2 ∧ q.2.depth ≤ 60) → ps.length ≤ sizeLine →
      (∀ D s', H D = none → Inv X pins σ (upd H D (.lst ((sortP ps).map Prod.fst))) s' → Q (.ref D) s') → R us s1) → wpAny (model X.prog X.w) X.A.in1 (collect r) R E' s) :
    wpAny (model X.prog X.w) X.A (call (.builtin "sorted") [r]) Q E' s := by
  refine Calls.call_function_entry kind_sorted plain_sorted entry_sorted (args_sorted1 _) ?_
  unfold Builtin.«sorted»
  refine wpAny_bind (m := checkCount "sorted" 1 1 _) (wpAny_pure ?_)
  refine wpAny_bind (hcol _ fun us s1 ps I1 he hal hso hdp hz hq => ?_)
  have hlen : us.length = ps.length := he.length
  refine wpAny_bind (wpAny_newList ?_ (by rw [hlen]; exact hz))
  have hoL : (s1.heap.push (seqObj "list" us.toArray 0)).get? s1.heap.objs.size = some (seqObj "list" us.toArray 0) := Heap.get?_push_size _ rfl
  have reads : EachIs (fun v (q : V × PyData) => ∃ as, Reads (s1.heap.push (seqObj "list" us.toArray 0)) v q.2 as ∧ s1.heap.objs.size ∉ as) us ps := by
    refine (each_mem he).mono fun v q ⟨rv, hm⟩ => ?_
    obtain ⟨as, rd⟩ := Dp.reads I1 q.2 q.1 v (hdp q hm).1 rv
    refine ⟨as, Reads.keeps (fun b o e => Heap.get?_push_of_some _ e) rd, fun hm' => ?_⟩
    exact Nat.lt_irrefl _ (reads_lt q.2 v as (dp_noDict (hdp q hm).1) rd _ hm')
  refine wpAny_bind (wpAny_holding (list_sort_data (s := { s1 with heap := s1.heap.push (seqObj "list" us.toArray 0) }) (A := X.A.in1) (R := fun v (q : V × PyData) => RelV q.1 v) (bs := ps) (enc := Prod.snd) hoL he reads hal hso hz (fun q hm => ?_) fun out ho hs => ?_))
  · have := (hdp q hm).2
    show X.A.units + 1 + 1 + q.2.depth < cLine
    omega
  · obtain ⟨c, hc⟩ := sortedHeap_at (vs := us) (out := out.toArray) hoL
    have hD : H s1.heap.objs.size = none := I1.hok.fresh (Nat.le_refl _)
    refine wpAny_pure ⟨_, rfl, hq s1.heap.objs.size _ hD ?_⟩
    refine I1.laid (t' := s1.toks) (fun b u e => ?_) (Nat.le_refl _) ⟨?_, out, c, ?_, hc⟩
    · have hlt := Heap.lt_size e
      rw [sortedHeap_old (Nat.ne_of_lt hlt) (by rw [size_push']; exact Nat.lt_succ_of_lt hlt)]
      exact Heap.get?_push_of_some _ e
    · rw [List.length_map]; unfold sortP; rw [List.length_mergeSort]; exact hz
    · have conv : ∀ {us : List Value} {qs : List (V × PyData)}, EachIs (fun u q => RelV q.1 u) us qs → Vals (qs.map Prod.fst) us := by
        intro us qs h
        induction h with
        | nil => exact .nil
        | cons a _ ih => exact .cons a ih
      exact conv hs
end
end Ev
set_option maxHeartbeats 4000000
/-! Ev12: sorted of lists, tuples, dicts. -/
namespace Ev
open PySem PySem.Spec PyProof.Rows L2 PySem.W
variable [Tbi : Tabl]
section
variable {K : PySem.W.Frag} {mg : Str → Option Value} {E : XK} {X : Cx} {a b c e : Expr} {es : List Expr} {pos p q : Pos}
def alikeOk (ds : List PyData) : Bool := ds.all fun d => ds.all fun e => alike d e
def isTupCons : PyData → Bool
  | .tuple (_ :: _) => true
  | _ => false
def plainItem : PyData → Bool
  | .none => false
  | .tuple _ => false
  | _ => true
def sortOk (ds : List PyData) : Bool := alikeOk ds && (ds.all isTupCons || ds.all plainItem) && (ds.all fun d => decide (d.depth ≤ 60))
theorem sortOk_spec {ds : List PyData} (h : sortOk ds = true) : AllAlike ds ∧ Sortable ds ∧ ∀ d ∈ ds, d.depth ≤ 60 := by
  unfold sortOk at h
  simp only [Bool.and_eq_true, Bool.or_eq_true] at h
  obtain ⟨⟨h1, h2⟩, h3⟩ := h
  refine ⟨fun d hd e he => List.all_eq_true.mp (List.all_eq_true.mp h1 d hd) e he, ?_, fun d hd => of_decide_eq_true (List.all_eq_true.mp h3 d hd)⟩
  rcases h2 with h2 | h2
  · refine .inl fun d hd => ?_
    have q := List.all_eq_true.mp h2 d hd
    unfold isTupCons at q
    split at q
    · exact ⟨_, _, rfl⟩
    · cases q
  · refine .inr fun d hd => ?_
    have q := List.all_eq_true.mp h2 d hd
    unfold plainItem at q
    split at q
    · cases q
    · cases q
    · rename_i h1 h2
      exact ⟨h1, fun xs => h2 xs⟩
theorem zip_fst {α β : Type} : ∀ {as : List α} {bs : List β}, as.length = bs.length → (as.zip bs).map Prod.fst = as
  | [], [], _ => rfl
  | a :: as, b :: bs, h => by simp [zip_fst (as := as) (bs := bs) (by simpa using h)]
theorem zip_snd {α β : Type} : ∀ {as : List α} {bs : List β}, as.length = bs.length → (as.zip bs).map Prod.snd = bs
  | [], [], _ => rfl
  | a :: as, b :: bs, h => by simp [zip_snd (as := as) (bs := bs) (by simpa using h)]
theorem dq_zip {F : Hp} : ∀ {vs : List V} {ds : List PyData}, DqAll K F vs ds → ∀ q ∈ vs.zip ds, Dq K F q.1 q.2
  | _, _, .nil, _, h => by simp at h
  | _, _, .cons a t, q, h => by
    rw [List.zip_cons_cons] at h
    rcases List.mem_cons.mp h with rfl | h
    · exact a
    · exact dq_zip t q h
theorem zip_dq {F : Hp} : ∀ {ps : List (V × PyData)}, (∀ q ∈ ps, Dq K F q.1 q.2) → DqAll K F (ps.map Prod.fst) (ps.map Prod.snd)
  | [], _ => .nil
  | q :: ps, h => .cons (h q List.mem_cons_self) (zip_dq fun r hr => h r (List.mem_cons_of_mem _ hr))
theorem dq_sort {F : Hp} {vs : List V} {ds : List PyData} (h : DqAll K F vs ds) : DqAll K F ((sortP (vs.zip ds)).map Prod.fst) (sortD ds) := by
  have q := zip_dq (ps := sortP (vs.zip ds)) (fun q hq => dq_zip h q ((List.mergeSort_perm _ _).mem_iff.mp hq))
  rw [sortP_snd, zip_snd h.length] at q
  exact q
theorem each_zip : ∀ {us : List Value} {vs : List V} {ds : List PyData}, Vals vs us → vs.length = ds.length → EachIs (fun u (q : V × PyData) => RelV q.1 u) us (vs.zip ds)
  | _, [], [], .nil, _ => .nil
  | _, v :: vs, d :: ds, .cons a t, h => .cons a (each_zip t (by simpa using h))
/-- sorted(list), sorted(tuple) -/
def rSortSeq (K : PySem.W.Frag) : List V → Hp → VK → Prop := fun vs H Q => ∃ a ws ds, vs = [.ref a] ∧ (SqL K H a ws ∨ SqT K H a ws) ∧ DpAll K H ws ds ∧ sortOk ds = true ∧ ∀ D, H D = none → Q (.ref D) (upd H D (.lst ((sortP (ws.zip ds)).map Prod.fst)))
theorem dpAll_length {H : Hp} : ∀ {vs : List V} {ds : List PyData}, DpAll K H vs ds → vs.length = ds.length
  | _, _, .nil => rfl
  | _, _, .cons _ t => congrArg (· + 1) (dpAll_length t)
theorem dp_zip {F : Hp} : ∀ {vs : List V} {ds : List PyData}, DpAll K F vs ds → ∀ q ∈ vs.zip ds, Dp K F q.1 q.2
  | _, _, .nil, _, h => by simp at h
  | _, _, .cons a t, q, h => by
    rw [List.zip_cons_cons] at h
    rcases List.mem_cons.mp h with rfl | h
    · exact a
    · exact dp_zip t q h
theorem cr_sortSeq (hu : X.A.units + 70 < cLine) : CallR X (.builtin "sorted") (rSortSeq X.K) := by
  intro pins s σ H vs us Q I r h
  obtain ⟨a, ws, ds, rfl, hs, hd, hok, q⟩ := h
  obtain ⟨u, rfl, ru⟩ := vals1 r
  obtain rfl : u = Value.ref a := ru
  obtain ⟨h1, h2, h3⟩ := sortOk_spec hok
  have hl := dpAll_length hd
  have seq : ∃ (T : String) (o : Obj) (items : Array Value) (n : Nat), (T = "list" ∨ T = "tuple") ∧ s.heap.get? a = some o ∧ o.cls = .type T ∧ o.data = .seq items n ∧ items.size ≤ sizeLine ∧ Vals ws items.toList := by
    rcases hs with hs | hs
    · obtain ⟨its, rv, ⟨o, n, ho, hc, _, hdt⟩, hz⟩ := I.list hs
      exact ⟨"list", o, its.toArray, n, .inl rfl, ho, hc, hdt, by rw [List.size_toArray, ← rv.length]; exact hz, by simpa using rv⟩
    · obtain ⟨its, rv, ⟨o, ho, hc, n, hdt⟩, hz⟩ := I.tuple hs
      exact ⟨"tuple", o, its.toArray, n, .inr rfl, ho, hc, hdt, by rw [List.size_toArray, ← rv.length]; exact hz, by simpa using rv⟩
  obtain ⟨T, o, items, n, hT, ho, hc, hdt, hz, rv⟩ := seq
  refine sorted_from (pins := pins) (σ := σ) (H := H) hu fun R hR => wpAny_collect_seq a hT ho hc hdt (fun h' hk => ?_) hz
  refine hR items.toList { s with heap := h' } (ws.zip ds) (I.kept (t' := s.toks) hk) (each_zip rv hl) (by rw [zip_snd hl]; exact h1) (by rw [zip_snd hl]; exact h2) (fun q hq => ⟨dp_zip hd q hq, ?_⟩) ?_ fun D s' hD I' => ⟨.ref D, _, I', rfl, q D hD⟩
  · exact h3 _ (List.of_mem_zip hq).2
  · rw [List.length_zip, ← hl, Nat.min_self, rv.length, Array.length_toList]; exact hz
def sortR (a : R) : Option Rv := match seqOf a with
  | some xs => if sortOk xs = true then some (.n (.l (sortD xs))) else none
  | none => none
theorem dqAll_sort {F H : Hp} {ws : List V} {ds : List PyData} (e : Same F H) (h : DqAll K F ws ds) : DpAll K H ws ds := DqAll.dp (DqAll.mono e h)
/-! ### sorted(dict) -/
def keysT (kvs : List (List Key × PyData)) : List PyData := kvs.map fun kv => .tuple (kv.1.map keyD)
def rSortK : List V → Hp → VK → Prop := fun vs H Q => ∃ a kvs, vs = [.ref a] ∧ H a = some (.dK kvs) ∧ sortOk (kvs.map fun kv => keyD kv.1) = true ∧ ∀ D, H D = none → Q (.ref D) (upd H D (.lst ((sortP (kvs.map fun kv => (kV kv.1, keyD kv.1))).map Prod.fst)))
theorem dp_key {H : Hp} (k : Key) : Dp K H (kV k) (keyD k) := by
  cases k with
  | inl i => exact .int i
  | inr x => exact .str x
theorem dq_key {H : Hp} (k : Key) : Dq K H (kV k) (keyD k) := by
  cases k with
  | inl i => exact .int i
  | inr x => exact .str x
theorem each_at {us : List Value} {ps : List (V × PyData)} (hl : us.length = ps.length) (h : ∀ (j : Nat) (u : Value) (q : V × PyData), us[j]? = some u → ps[j]? = some q → RelV q.1 u) : EachIs (fun u (q : V × PyData) => RelV q.1 u) us ps := by
  induction us generalizing ps with
  | nil => cases ps with
    | nil => exact .nil
    | cons _ _ => cases hl
  | cons u us ih => cases ps with
    | nil => cases hl
    | cons q ps => exact .cons (h 0 u q rfl rfl) (ih (by simpa using hl) fun j u' q' h1 h2 => h (j + 1) u' q' (by simpa using h1) (by simpa using h2))
theorem cr_sortK (hc : X.calm = true) (hu : X.A.units + 70 < cLine) : CallR X (.builtin "sorted") rSortK := by
  intro pins s σ H vs us Q I r h
  obtain ⟨a, kvs, rfl, hk, hok, q⟩ := h
  obtain ⟨u, rfl, ru⟩ := vals1 r
  obtain rfl : u = Value.ref a := ru
  obtain ⟨h1, h2, h3⟩ := sortOk_spec hok
  obtain ⟨z, lo, ws, rk, hd⟩ := (show ObjOk X.prog X.w H s.heap a (.dK kvs) from I.hok a _ hk)
  obtain ⟨ep, hat⟩ := hd.dictAt
  have hl : kvs.length = ws.length := Paired.length rk
  have hsnd : (kvs.map fun kv => (kV kv.1, keyD kv.1)).map Prod.snd = kvs.map fun kv => keyD kv.1 := by rw [List.map_map]; rfl
  refine sorted_from (pins := pins) (σ := σ) (H := H) hu fun R hR => kdu_collect (A := X.A.in1) (kdl_dict (knd := mixKind X.prog X.w) (kvs := ws) (ep := ep) lo) (I.ok.hd hc) hat (by rw [← hl]; exact z) fun h' tk acc hkp hacc => ?_
  refine hR acc.toList { s with heap := h', toks := tk } (kvs.map fun kv => (kV kv.1, keyD kv.1)) (I.kept hkp) (each_at ?_ fun j w y e1 e2 => ?_) (by rw [hsnd]; exact h1) (by rw [hsnd]; exact h2) (fun y hy => ?_) (by rw [List.length_map]; exact z) fun D s' hD I' => ⟨.ref D, _, I', rfl, q D hD⟩
  · rw [Array.length_toList, hacc.1, List.length_map, hl]
  · obtain ⟨k, y', hky, hi⟩ := hacc.2 j w (by rw [← Array.getElem?_toList]; exact e1)
    have e3 : (kvs.map (·.1))[j]? = some k := by rw [KV.keys rk, List.getElem?_map, hky]; rfl
    rw [List.getElem?_map] at e2 e3
    cases hj : kvs[j]? with
    | none => rw [hj] at e3; cases e3
    | some kv =>
      rw [hj] at e2 e3
      cases e2
      cases e3
      rcases keyIs_shape hi with ⟨i, t, ek, rfl⟩ | ⟨x, t, ek, rfl⟩
      · have ek : kv.1 = Sum.inl i := ek
        show L2.RelV (kV kv.1) _; rw [ek]; exact ⟨t, rfl⟩
      · have ek : kv.1 = Sum.inr x := ek
        show L2.RelV (kV kv.1) _; rw [ek]; exact ⟨t, rfl⟩
  · obtain ⟨kv, hm, rfl⟩ := List.mem_map.mp hy
    exact ⟨dp_key _, h3 _ (List.mem_map.mpr ⟨kv, hm, rfl⟩)⟩
/-- sorted(dict with tuple keys): the keys' own tuples, at bs -/
def rSortT : List V → Hp → VK → Prop := fun vs H Q => ∃ a kvs, vs = [.ref a] ∧ H a = some (.dT kvs) ∧ sortOk (kvs.map fun kv => .tuple (kv.1.map keyD)) = true ∧
  ∀ (bs : List Addr) D, bs.length = kvs.length → (∀ (j : Nat) b kv, bs[j]? = some b → kvs[j]? = some kv → H b = some (.tup (kv.1.map kV))) → H D = none →
    Q (.ref D) (upd H D (.lst ((sortP ((bs.map V.ref).zip (kvs.map fun kv => .tuple (kv.1.map keyD)))).map Prod.fst)))
theorem dp_keyT {H : Hp} : ∀ ks : List Key, DpAll K H (ks.map kV) (ks.map keyD)
  | [] => .nil
  | k :: ks => .cons (dp_key k) (dp_keyT ks)
theorem dq_keyT {H : Hp} : ∀ ks : List Key, DqAll K H (ks.map kV) (ks.map keyD)
  | [] => .nil
  | k :: ks => .cons (dq_key k) (dq_keyT ks)
theorem kt_at {H : Hp} : ∀ {kvs : List (List Key × V)} {ks : List (List Key × Addr × Value)}, Paired (fun (p : List Key × V) (q : List Key × Addr × Value) => p.1 = q.1 ∧ H q.2.1 = some (.tup (p.1.map kV)) ∧ RelV p.2 q.2.2) kvs ks →
    ∀ (j : Nat) kv x, kvs[j]? = some kv → ks[j]? = some x → kv.1 = x.1 ∧ H x.2.1 = some (.tup (kv.1.map kV))
  | _, _, .nil, j, kv, x, h, _ => by simp at h
  | _, _, .cons a t, 0, kv, x, h1, h2 => by simp at h1 h2; subst h1; subst h2; exact ⟨a.1, a.2.1⟩
  | _, _, .cons _ t, j + 1, kv, x, h1, h2 => kt_at t j kv x (by simpa using h1) (by simpa using h2)
theorem cr_sortT (hc : X.calm = true) (hu : X.A.units + 70 < cLine) : CallR X (.builtin "sorted") rSortT := by
  intro pins s σ H vs us Q I r h
  obtain ⟨a, kvs, rfl, hk, hok, q⟩ := h
  obtain ⟨u, rfl, ru⟩ := vals1 r
  obtain rfl : u = Value.ref a := ru
  obtain ⟨h1, h2, h3⟩ := sortOk_spec hok
  obtain ⟨z, hs, ks, pr, o, des, ep, ho, hx, hdt, he, hn⟩ := (show ObjOk X.prog X.w H s.heap a (.dT kvs) from I.hok a _ hk)
  have l1 : des.size = ks.length := size_of_entries he
  have l2 : kvs.length = ks.length := Paired.length pr
  have lb : (ks.map fun x => x.2.1).length = kvs.length := by rw [List.length_map, l2]
  have lz : ((ks.map fun x => x.2.1).map V.ref).length = (kvs.map fun kv => PyData.tuple (kv.1.map keyD)).length := by rw [List.length_map, List.length_map, List.length_map, l2]
  refine sorted_from (pins := pins) (σ := σ) (H := H) hu fun R hR => kdu_collect (A := X.A.in1) (kdl_raw hs hx hdt) (I.ok.hd hc) ho (by omega) fun h' tk acc hkp it => ?_
  have ea : ∀ (j : Nat) (v : Value), acc.toList[j]? = some v → ∃ x, ks[j]? = some x ∧ v = Value.ref x.2.1 := fun j v hj => by
    obtain ⟨en, hen, hv⟩ := it.2 j v (by rw [← Array.getElem?_toList]; exact hj)
    have qe := entry_at he j
    rw [hen] at qe
    cases hb : ks[j]? with
    | none => rw [hb] at qe; exact nomatch (show some en = none from qe)
    | some b =>
      rw [hb] at qe
      have e2 : en = entryOfKey (tupleKind (mixKind X.prog X.w)) b := Option.some.inj qe
      exact ⟨b, rfl, by rw [hv, e2]; rfl⟩
  refine hR acc.toList { s with heap := h', toks := tk } (((ks.map fun x => x.2.1).map V.ref).zip (kvs.map fun kv => PyData.tuple (kv.1.map keyD))) (I.kept hkp) (each_at ?_ fun j w y e1 e2 => ?_) (by rw [zip_snd lz]; exact h1) (by rw [zip_snd lz]; exact h2) (fun y hy => ?_) ?_ fun D s' hD I' => ⟨.ref D, _, I', rfl, q _ D lb (fun j b kv e1 e2 => ?_) hD⟩
  · rw [Array.length_toList, it.1, List.length_zip, ← lz, Nat.min_self, List.length_map, List.length_map, l1]
  · obtain ⟨x, hx1, rfl⟩ := ea j w e1
    rw [List.getElem?_zip_eq_some] at e2
    obtain ⟨e3, e4⟩ := e2
    rw [List.getElem?_map, List.getElem?_map, hx1] at e3
    have e3 : V.ref x.2.1 = y.1 := Option.some.inj e3
    rw [← e3]
    rfl
  · obtain ⟨j, hj⟩ := List.getElem?_of_mem hy
    rw [List.getElem?_zip_eq_some] at hj
    obtain ⟨e3, e4⟩ := hj
    rw [List.getElem?_map, List.getElem?_map] at e3
    rw [List.getElem?_map] at e4
    cases hk1 : ks[j]? with
    | none => rw [hk1] at e3; cases e3
    | some x =>
      cases hk2 : kvs[j]? with
      | none => rw [hk2] at e4; cases e4
      | some kv =>
        rw [hk1] at e3
        rw [hk2] at e4
        have e3 : V.ref x.2.1 = y.1 := Option.some.inj e3
        have e4 : PyData.tuple (kv.1.map keyD) = y.2 := Option.some.inj e4
        rw [← e3, ← e4]
        exact ⟨.tup (SqT.of (kt_at pr j kv x hk2 hk1).2) (dp_keyT _), h3 _ (List.mem_map.mpr ⟨kv, List.mem_of_getElem? hk2, rfl⟩)⟩
  · rw [List.length_zip, ← lz, Nat.min_self, List.length_map, List.length_map]; omega
  · rw [List.getElem?_map] at e1
    cases hk1 : ks[j]? with
    | none => rw [hk1] at e1; cases e1
    | some x => rw [hk1] at e1; cases e1; exact (kt_at pr j kv x e2 hk1).2
end
end Ev
set_option maxHeartbeats 4000000
/-! Ev13: sorted by values; min, max of a list. -/
namespace Ev
open PySem PySem.Spec PyProof.Rows L2 PySem.W
variable [Tbi : Tabl]
section
variable {K : PySem.W.Frag} {mg : Str → Option Value} {E : XK} {X : Cx} {a b c e : Expr} {es : List Expr} {pos p q : Pos}
/-- tuples that are there become data -/
theorem aft_tups {W : Addr → Prop} {σ : L2.St} {F : Hp} {env : Env} {H : Hp} (rl : Rel K W F H σ env) (bs : List Addr) (hb : ∀ b ∈ bs, ∃ xs, H b = some (.tup xs)) :
    ∃ F', Aft K W σ env F H env F' H ∧ ∀ b ∈ bs, F' b = H b := by
  classical
  refine ⟨fun a => if F a = none ∧ a ∈ bs then H a else F a, ?_, fun b hm => ?_⟩
  · have hs : Same F (fun a => if F a = none ∧ a ∈ bs then H a else F a) := fun a u e => by
      show (if F a = none ∧ a ∈ bs then H a else F a) = some u
      rw [if_neg (fun z => by rw [e] at z; cases z.1)]; exact e
    refine ⟨ELe.refl _, hs, fun _ _ => rfl, rl.len, fun a u e => ?_, fun a ha => ?_, fun i y r h1 h2 => ?_, rl.ds, rl.tb, rl.fn, ⟨fun q ps e => ?_, rl.tf.2.trans hs⟩⟩
    rotate_left 3
    · have e : (if F q = none ∧ q ∈ bs then H q else F q) = some (.tbl ps) := e
      split at e
      · rename_i z
        obtain ⟨xs, hx⟩ := hb _ z.2
        rw [hx] at e; cases e
      · exact rl.tf.1 q ps e
    · have e : (if F a = none ∧ a ∈ bs then H a else F a) = some u := e
      split at e
      · exact e
      · exact rl.fz a u e
    · obtain ⟨h1, o, h2, h3⟩ := rl.fw a ha
      refine ⟨?_, o, h2, h3⟩
      show (if F a = none ∧ a ∈ bs then H a else F a) = none
      rw [if_neg (fun z => ?_)]
      · exact h1
      · obtain ⟨xs, hx⟩ := hb a z.2
        rw [hx] at h2; cases h2; cases h3
    · have q := rl.sl i y r h1 h2
      match y, r, q with
      | _, none, _ => exact True.intro
      | some v, some (.d x), q => exact Dq.mono hs q
      | some v, some (.s x), ⟨a, e, q⟩ => exact ⟨a, e, hs.seq q⟩
      | some v, some (.c c), ⟨p', u, e, hp', hc', hf', hw'⟩ =>
        refine ⟨p', u, e, hp', hc'.mono hs, ?_, hw'⟩
        show (if F p' = none ∧ p' ∈ bs then H p' else F p') = none
        rw [if_neg (fun z => ?_)]
        · exact hf'
        · obtain ⟨xs, hx⟩ := hb p' z.2
          rw [hx] at hp'; cases hp'
          exact absurd hc'.notTup (by simp [isTup])
  · show (if F b = none ∧ b ∈ bs then H b else F b) = H b
    split
    · rfl
    · rename_i hn
      cases hf : F b with
      | none => exact absurd ⟨hf, hm⟩ hn
      | some u => exact (rl.fz b u hf).symm
def sortRR (a : R) : Option Rv := match a with
  | .c (.k kvs) => if sortOk (keysL kvs) = true then some (.n (.l (sortD (keysL kvs)))) else none
  | .c (.t kvs) => if sortOk (keysT kvs) = true then some (.n (.l (sortD (keysT kvs)))) else none
  | a => sortR a
def rSortAll (K : PySem.W.Frag) : List V → Hp → VK → Prop := fun vs H Q => rSortSeq K vs H Q ∨ rSortK vs H Q ∨ rSortT vs H Q
theorem cr_sortAll (hc : X.calm = true) (hu : X.A.units + 70 < cLine) : CallR X (.builtin "sorted") (rSortAll X.K) := by
  intro pins s σ H vs us Q I r h
  rcases h with h | h | h
  · exact cr_sortSeq hu pins s σ H vs us Q I r h
  · exact cr_sortK hc hu pins s σ H vs us Q I r h
  · exact cr_sortT hc hu pins s σ H vs us Q I r h
theorem kd_keysK {F : Hp} : ∀ {kvs : List (Key × V)} {es : List (Key × PyData)}, KD K F kvs es → (kvs.map fun kv => keyD kv.1) = keysL es
  | [], _, h => by cases h; rfl
  | p :: kvs, _, h => by
    cases h with
    | cons h1 h2 =>
      obtain ⟨e, _⟩ := h1
      show keyD p.1 :: _ = keyD _ :: _
      rw [e, kd_keysK h2]
      rfl
theorem kd_keysT {F : Hp} : ∀ {kvs : List (List Key × V)} {es : List (List Key × PyData)}, KD K F kvs es → (kvs.map fun kv => PyData.tuple (kv.1.map keyD)) = keysT es
  | [], _, h => by cases h; rfl
  | p :: kvs, _, h => by
    cases h with
    | cons h1 h2 =>
      obtain ⟨e, _⟩ := h1
      show PyData.tuple (p.1.map keyD) :: _ = PyData.tuple _ :: _
      rw [e, kd_keysT h2]
      rfl
theorem map_keyP {kvs : List (Key × V)} : (kvs.map fun kv => (kV kv.1, keyD kv.1)) = (kvs.map fun kv => kV kv.1).zip (kvs.map fun kv => keyD kv.1) := by
  induction kvs with
  | nil => rfl
  | cons a t ih => simp [ih]
theorem vr_sorted : VR K mg E (rSortAll K) (un1 sortRR) := fun W σ F env H vs xs Q rl rx h => by
  obtain ⟨v, a, z, rfl, ha, hf, hq⟩ := un1_ok rl rx h
  unfold sortRR at hf
  split at hf
  · split at hf
    · rename_i hok
      cases hf
      obtain ⟨p, o, rfl, hp, hc, hfp⟩ := ha
      cases o <;> first | exact hc.elim | skip
      rename_i kvs
      have hkd : KD K F kvs _ := hc
      refine .inr (.inl ⟨p, kvs, rfl, hp, by rw [kd_keysK hkd]; exact hok, fun D hD => res_new hq rl hD ?_⟩)
      rw [map_keyP, kd_keysK hkd]
      exact dq_sort (dq_keys hkd)
    · cases hf
  · split at hf
    · rename_i hok
      cases hf
      obtain ⟨p, o, rfl, hp, hc, hfp⟩ := ha
      cases o <;> first | exact hc.elim | skip
      rename_i kvs
      have hkd : KD K F kvs _ := hc
      refine .inr (.inr ⟨p, kvs, rfl, hp, by rw [kd_keysT hkd]; exact hok, fun bs D hl hb hD => ?_⟩)
      have hex : ∀ b ∈ bs, ∃ xs, H b = some (.tup xs) := fun b hm => by
        obtain ⟨j, hj⟩ := List.getElem?_of_mem hm
        have hlt : j < kvs.length := by rw [← hl]; exact (List.getElem?_eq_some_iff.mp hj).1
        exact ⟨_, hb j b kvs[j] hj (List.getElem?_eq_getElem hlt)⟩
      obtain ⟨F', a1, hF⟩ := aft_tups rl bs hex
      have dq : ∀ {bs : List Addr} {kvs : List (List Key × V)}, bs.length = kvs.length → (∀ b ∈ bs, F' b = H b) → (∀ (j : Nat) b kv, bs[j]? = some b → kvs[j]? = some kv → H b = some (.tup (kv.1.map kV))) → DqAll K F' (bs.map V.ref) (kvs.map fun kv => PyData.tuple (kv.1.map keyD)) := by
        intro bs
        induction bs with
        | nil => intro kvs hl _ _; cases kvs with
          | nil => exact .nil
          | cons _ _ => cases hl
        | cons b bs ih => intro kvs hl h1 h2; cases kvs with
          | nil => cases hl
          | cons kv kvs =>
            refine .cons ?_ (ih (by simpa using hl) (fun c hc => h1 c (List.mem_cons_of_mem _ hc)) fun j c k e1 e2 => h2 (j + 1) c k (by simpa using e1) (by simpa using e2))
            exact .tup (SqT.of (by rw [h1 b List.mem_cons_self]; exact h2 0 b kv rfl rfl)) (dq_keyT _)
      have hd := dq hl hF hb
      rw [kd_keysT hkd] at hd ⊢
      exact res_new (post.from a1 hq) a1.rel hD (dq_sort hd)
    · cases hf
  · unfold sortR at hf
    split at hf
    · rename_i xs hs
      split at hf
      · rename_i hok
        cases hf
        obtain ⟨p, vs, rfl, hd, hp⟩ := hold_seq rl.fz ha hs
        exact .inl ⟨p, vs, xs, rfl, hp, dqAll_sort rl.fz hd, hok, fun D hD => res_new hq rl hD (dq_sort hd)⟩
      · cases hf
    · cases hf
end
end Ev
set_option maxHeartbeats 4000000
/-! Ev14: sorted(set(ints)). -/
namespace Ev
open PySem PySem.Spec PyProof.Rows L2
variable [Tbi : Tabl]
section
variable {P : Program} {w : World} {A : Around} {EX : Value → Shared → Prop} {s : Shared}
abbrev set0 (w : World) : Obj := { cls := .type "set", dict := none, data := .set #[] 0 (.fresh 0 0 (!w.params.followText "set-order")) }
set_option maxRecDepth 100000 in
theorem set_of_list {l : Addr} {items : Array Value} (ns : List Int) {Q : Value → Shared → Prop} (hh : A.handled = none) (hl : s.heap.IsList l items) (hit : IntsAre items.toList ns) (hb : ns.length + 1 < scanBound)
    (h : ∀ (h' : Heap) (tk c : Nat), SetR w h' s.heap.objs.size (fun j => decide (j ∈ ns)) c → c ≤ ns.length → (∀ b o, s.heap.get? b = some o → h'.get? b = some o) → Q (.ref s.heap.objs.size) { s with heap := h', toks := tk }) :
    wpAny (model P w) A (call (.type "set") [.ref l]) Q EX s := by
  have hisz : items.size = ns.length := by rw [← IntsAre.length hit, Array.length_toList]
  obtain ⟨c, tl, hmro⟩ := F.called_set.mro
  have hmade := F.called_set.made
  have hsub := F.called_set.sub
  refine wpAny_call (codeAny_of_tree ?_)
  show wpAny _ _ (callAny (.type "set") _) _ _ _
  refine wpAny_pure ⟨Code.quiet_builtin _ (by decide +kernel), codeAny_builtin F.entry_type_call ?_⟩
  rw [Around.under_plain (weight_type_call_type "set" [.ref l] []) rfl]
  have h1 := F.called_set.notType
  have h2 := F.called_set.canCreate
  have hct := F.typeCall_set_1 (.ref l)
  repeat (any_goals (first | assumption | wp_step))
  refine codeAny_mono (code_set_led1 (.ref l) (E := EX) (Q₁ := fun obj s₁ => obj = .ref s.heap.objs.size ∧ s₁ = { s with heap := s.heap.push (set0 w) }) ⟨rfl, rfl⟩) fun r s₁ hr => ?_
  cases r with
  | error e => exact hr
  | ok fl =>
    cases fl with
    | ret obj =>
      obtain ⟨rfl, rfl⟩ := hr
      have hS : (s.heap.push (set0 w)).get? s.heap.objs.size = some (set0 w) := Heap.get?_push_size _ rfl
      have hT : Shared.TypeIs { s with heap := s.heap.push (set0 w) } (.ref s.heap.objs.size) "set" := ⟨_, hS, rfl⟩
      have hli := F.called_set.init.lookup
      have hbi := F.called_set.init.bind (.ref s.heap.objs.size)
      repeat (any_goals (first | assumption | wp_step))
      refine codeAny_mono (codeAny_call_builtin (R := wants (fun r s₂ => r = .none ∧ ∃ h' tk c, s₂ = { s with heap := h', toks := tk } ∧ SetR w h' s.heap.objs.size (fun j => decide (j ∈ ns)) c ∧ c ≤ ns.length ∧
          (∀ b o, s.heap.get? b = some o → h'.get? b = some o)) EX) F.called_set.init.plain F.entry_set_init (check_set_init_1 hT ?_)) fun r₂ s₂ hr₂ => ?_
      · obtain ⟨⟨ocls, odict, odata, oslots⟩, hol, hcl, nl, hdl⟩ := hl
        simp only at hcl hdl
        subst hcl; subst hdl
        have hol' : (s.heap.push (set0 w)).get? l = some { cls := .type "list", dict := odict, data := .seq items nl, slots := oslots } := Heap.get?_push_of_some _ hol
        have hsls := F.sub_list_set
        have hslf := F.sub_list_frozenset
        have hne : (Value.type "list" == Value.type "dict") = false := by decide
        have hl1 : (s.heap.push (set0 w)).IsList l items := ⟨_, hol', rfl, nl, rfl⟩
        unfold Builtin.«set.__init__» noKeywords Builtin.Frozenset.updateFrom
        generalize hPI : pyIter = PI
        wp_walk
        subst hPI
        refine wpAny_pyIter_list hl1 ?_
        refine wpAny_bind (wpAny_runValue ?_)
        have hlS : l < s.heap.objs.size := Heap.lt_size hol
        have hh3 : A.in1.in1.in1.handled = none := by simp [hh]
        have hz1 : (s.heap.push (set0 w)).objs.size = s.heap.objs.size + 1 := Heap.size_push ..
        have hneI : l ≠ (s.heap.push (set0 w)).objs.size := by rw [hz1]; exact Nat.ne_of_lt (Nat.lt_succ_of_lt hlS)
        have hSf : s.heap.objs.size ∉ [(s.heap.push (set0 w)).objs.size, l] := by
          rw [hz1]; simp only [List.mem_cons, List.not_mem_nil, or_false, not_or]; exact ⟨Nat.ne_of_lt (Nat.lt_succ_self _), Nat.ne_of_gt hlS⟩
        have hval : ∀ (i : Nat) (v : Value), items[i]? = some v → ∃ k t, ns[i]? = some k ∧ v = .int k t := fun i v hv => by
          have hi : i < ns.length := by rw [← hisz]; exact (Array.getElem?_eq_some_iff.mp hv).1
          obtain ⟨t, e⟩ := PyProof.Rows.IntsAre.int_at hit i v (by rw [Array.getElem?_toList]; exact hv)
          refine ⟨ns[i], t, List.getElem?_eq_getElem hi, ?_⟩
          rw [e, List.getD_eq_getElem?_getD, List.getElem?_eq_getElem hi]
          rfl
        refine set_update_ints ((Walks.list hh3 _ l hneI items).toS) s.heap.objs.size hSf ns hisz hb hval (items.size - 0) 0 _ (by omega) (Nat.zero_le _) ⟨⟨_, Heap.get?_push_size _ rfl, rfl, rfl⟩, (hl1.push _)⟩ ?hS0 ?hR
        case hS0 =>
          have hget : ((s.heap.push (set0 w)).push { cls := .type "list_iterator", data := .fields #[.ref l, .int 0 0] }).get? s.heap.objs.size = some (set0 w) := Heap.get?_push_of_some _ hS
          exact ⟨0, Nat.le_refl 0, setR_new_at hget⟩
        case hR =>
          intro s' c' hm hc' hS'
          obtain ⟨h', g2, d', tk', os'⟩ := s'
          obtain rfl : g2 = s.gens := hm.gens
          obtain rfl : d' = s.drawn := hm.drawn
          obtain rfl : os' = s.os := hm.os
          show wpAny _ _ _ _ _ _
          refine wpAny_pure ?_
          show wpAny _ _ (ret Value.none) _ _ _
          rw [hisz] at hc'
          refine wpAny_pure ⟨rfl, h', tk', c', rfl, hS', hc', fun b o e => ?_⟩
          have hb0 : b < s.heap.objs.size := Heap.lt_size e
          refine hm.heap b o ?_ (Heap.get?_push_of_some _ (Heap.get?_push_of_some _ e))
          rw [hz1]
          simp only [List.mem_cons, List.not_mem_nil, or_false, not_or]
          exact ⟨Nat.ne_of_lt hb0, Nat.ne_of_lt (Nat.lt_succ_of_lt hb0)⟩
      · cases r₂ with
        | error e => exact hr₂
        | ok fl₂ =>
          cases fl₂ with
          | ret r =>
            obtain ⟨rfl, h', tk, c', rfl, hS', hc', hk'⟩ := hr₂
            repeat (any_goals (first | assumption | wp_step))
            exact h _ _ _ hS' hc' hk'
          | _ => exact hr₂.elim
    | _ => exact hr.elim
end
section
variable {K : PySem.W.Frag} {mg : Str → Option Value} {E : XK} {X : Cx} {e : Expr} {pos p q p2 : Pos}
/-- the members, ascending -/
def insA (n : Int) : List Int → List Int
  | [] => [n]
  | m :: r => if n < m then n :: m :: r else if n = m then m :: r else m :: insA n r
def ascSet (ns : List Int) : List Int := ns.foldr insA []
theorem mem_insA {n k : Int} : ∀ {l : List Int}, k ∈ insA n l ↔ k = n ∨ k ∈ l
  | [] => by simp [insA]
  | m :: r => by
    unfold insA
    split
    · simp
    · split
      · rename_i h; subst h; simp
      · simp only [List.mem_cons, mem_insA (l := r)]
        constructor
        · rintro (h | h | h)
          · exact .inr (.inl h)
          · exact .inl h
          · exact .inr (.inr h)
        · rintro (h | h | h)
          · exact .inr (.inl h)
          · exact .inl h
          · exact .inr (.inr h)
theorem asc_insA {n : Int} : ∀ {l : List Int}, l.Pairwise (· < ·) → (insA n l).Pairwise (· < ·)
  | [], _ => by simp [insA]
  | m :: r, h => by
    obtain ⟨h1, h2⟩ := List.pairwise_cons.mp h
    unfold insA
    split
    · rename_i hl
      refine List.pairwise_cons.mpr ⟨fun k hk => ?_, h⟩
      rcases List.mem_cons.mp hk with rfl | hk
      · exact hl
      · exact Int.lt_trans hl (h1 k hk)
    · split
      · exact h
      · refine List.pairwise_cons.mpr ⟨fun k hk => ?_, asc_insA h2⟩
        rcases mem_insA.mp hk with rfl | hk
        · omega
        · exact h1 k hk
theorem mem_ascSet {k : Int} : ∀ {ns : List Int}, k ∈ ascSet ns ↔ k ∈ ns
  | [] => by simp [ascSet]
  | n :: ns => by
    show k ∈ insA n (ascSet ns) ↔ _
    rw [mem_insA, mem_ascSet (ns := ns), List.mem_cons]
theorem asc_ascSet : ∀ {ns : List Int}, (ascSet ns).Pairwise (· < ·)
  | [] => .nil
  | n :: ns => asc_insA (asc_ascSet (ns := ns))
theorem asc_unique : ∀ {l m : List Int}, l.Pairwise (· < ·) → m.Pairwise (· < ·) → (∀ k, k ∈ l ↔ k ∈ m) → l = m
  | [], [], _, _, _ => rfl
  | [], b :: m, _, _, h => absurd ((h b).mpr List.mem_cons_self) (by simp)
  | a :: l, [], _, _, h => absurd ((h a).mp List.mem_cons_self) (by simp)
  | a :: l, b :: m, h1, h2, h => by
    obtain ⟨a1, a2⟩ := List.pairwise_cons.mp h1
    obtain ⟨b1, b2⟩ := List.pairwise_cons.mp h2
    have e : a = b := by
      rcases List.mem_cons.mp ((h a).mp List.mem_cons_self) with e | e
      · exact e
      · rcases List.mem_cons.mp ((h b).mpr List.mem_cons_self) with e' | e'
        · exact e'.symm
        · have q1 := b1 a e
          have q2 := a1 b e'
          omega
    subst e
    refine congrArg (a :: ·) (asc_unique a2 b2 fun k => ?_)
    constructor
    · intro hk
      rcases List.mem_cons.mp ((h k).mp (List.mem_cons_of_mem _ hk)) with e | e
      · subst e; exact absurd (a1 k hk) (by omega)
      · exact e
    · intro hk
      rcases List.mem_cons.mp ((h k).mpr (List.mem_cons_of_mem _ hk)) with e | e
      · subst e; exact absurd (b1 k hk) (by omega)
      · exact e
theorem nodup_le {α : Type} [DecidableEq α] : ∀ {l m : List α}, l.Nodup → (∀ k, k ∈ l → k ∈ m) → l.length ≤ m.length
  | [], m, _, _ => Nat.zero_le _
  | a :: l, m, nd, h => by
    rw [List.nodup_cons] at nd
    have ha : a ∈ m := h a (by simp)
    have := nodup_le (l := l) (m := m.erase a) nd.2 fun k hk => (List.mem_erase_of_ne (fun e => nd.1 (by rw [← e]; exact hk))).mpr (h k (List.mem_cons_of_mem _ hk))
    rw [List.length_erase_of_mem ha] at this
    have := List.length_pos_of_mem ha
    rw [List.length_cons]
    omega
theorem asc_nodup {l : List Int} (h : l.Pairwise (· < ·)) : l.Nodup := h.imp fun h e => by omega
theorem setR_count {w : World} {h : Heap} {a : Addr} {ns : List Int} {c : Nat} (R : SetR w h a (fun j => decide (j ∈ ns)) c) : c = (ascSet ns).length := by
  obtain ⟨o, es, ep, t, _, _, _, _, nd, mem, _, _, sz, _⟩ := R
  have e : (es.toList.map keyOf).length = c := by rw [List.length_map, Array.length_toList, sz]
  rw [← e]
  have iff : ∀ k, k ∈ es.toList.map keyOf ↔ k ∈ ascSet ns := fun k => by rw [← mem k, mem_ascSet, decide_eq_true_eq]
  exact Nat.le_antisymm (nodup_le nd fun k hk => (iff k).mp hk) (nodup_le (asc_nodup asc_ascSet) fun k hk => (iff k).mpr hk)
/-- set(list of ints) -/
def rSetI (K : PySem.W.Frag) (w : World) : List V → Hp → VK → Prop := fun vs H Q => ∃ (a : Addr) (ns : List Int), vs = [.ref a] ∧ SqL K H a (ns.map V.int) ∧ ns.length < 4000 ∧ (ascSet ns).length < 64 ∧ ∀ p c, H p = none → c = (ascSet ns).length → Q (.ref p) (upd H p (SetO w p (fun j => decide (j ∈ ns)) c))
theorem cr_setI (hc : X.calm = true) : CallR X (.type "set") (rSetI X.K X.w) := by
  intro pins s σ H vs us Q I r h
  obtain ⟨a, ns, rfl, hs, h4, h64, q⟩ := h
  obtain ⟨its, rv, hl, _⟩ := I.list hs
  obtain ⟨u, rfl, ru⟩ := vals1 r
  obtain rfl : u = Value.ref a := ru
  refine set_of_list ns (I.ok.hd hc) hl.isList (by simpa using rv.ints) (by have : scanBound = 4096 := rfl; omega) fun h' tk c R hle hk => ?_
  exact ⟨.ref s.heap.objs.size, _, I.laid (t' := tk) (o := SetO X.w s.heap.objs.size (fun j => decide (j ∈ ns)) c) hk (Nat.le_refl _) (setO_new R), rfl, q _ c (I.hok.fresh (Nat.le_refl _)) (setR_count R)⟩
def sortSetR (a : R) : Option Rv := match (lstOf a).bind intsOf with
  | some ns => if ns.length < 4000 ∧ (ascSet ns).length < 64 then some (.n (.l ((ascSet ns).map .int))) else none
  | none => none
theorem de_sortSet {f : M Rv} (hc : X.calm = true) (ha : PE X e (tE X.K mg E f)) (hg : Gl X "sorted") (hm : X.mg "sorted" = none) (hg2 : Gl X "set") (hm2 : X.mg "set" = none) (he : starEach [e] X.env = (false, eval e X.env) :: starEach [] X.env) :
    PE X (.Call (.Name "sorted" p) [.Call (.Name "set" q) [e] [] p2] [] pos) (tE X.K mg E (M.bind f (lift1 sortSetR))) := by
  have inner : PE X (.Call (.Name "set" q) [e] [] p2) (tCB (rSetI X.K X.w) (tCons (tE X.K mg E f) tNil)) := pe_callTy (cr_setI hc) hg2 hm2 (by decide +kernel) (pa_cons ha pa_nil he) (by decide) (by decide) he rfl
  refine (pe_callB (cr_sortedSet hc) hg hm (by decide +kernel) (pa_cons inner pa_nil rfl) (by decide) (by decide) rfl rfl).imp fun σ H Q h => ?_
  refine tE_one h (R' := fun x H1 => rSetI X.K X.w [x] H1 fun y H2 => rSortedSet X.w [y] H2 Q) fun W F env H v x rl rx hq => ?_
  obtain ⟨a, z, ha, hf, hq⟩ := lift1_ok rl rx hq
  unfold sortSetR at hf
  split at hf
  · rename_i ns hns
    split at hf
    · rename_i h64
      cases hf
      cases h1 : lstOf a with
      | none => rw [h1] at hns; cases hns
      | some ds =>
        rw [h1] at hns
        obtain ⟨p, vs, rfl, hp, hd⟩ := hold_lstOf rl.fz ha h1
        have e1 := intsOf_ok hd hns
        subst e1
        refine ⟨p, ns, rfl, hp, h64.1, h64.2, fun S c hS hle => ⟨S, _, c, rfl, upd_same, by omega, fun ns' D hA hM hL hD => ?_⟩⟩
        have a1 := aft_new (o := SetO X.w S (fun j => decide (j ∈ ns)) c) rl hS
        have e2 : ns' = ascSet ns := asc_unique hA asc_ascSet fun k => by rw [hM k, mem_ascSet, decide_eq_true_eq]
        subst e2
        exact res_new (post.from a1 hq) a1.rel hD DqAll.of_ints
    · cases hf
  · cases hf
end
end Ev
set_option maxHeartbeats 1000000
/-! Ev15: statements. gd: the parameters that a caller lends. -/
namespace Ev
open PySem PySem.Spec PyProof.Rows L2
variable [Tbi : Tabl]
inductive Fl where
  | nx | bk | ct
  | rt (r : Rv)
section
variable {K : PySem.W.Frag} {mg : Str → Option Value} {E : XK} {X : Cx} {gd : List Nat} {e : Expr} {pos : Pos}
variable (K) in
structure SAft (gd : List Nat) (W : Addr → Prop) (σ : L2.St) (env : Env) (F H : Hp) (σ' : L2.St) (env' : Env) (F' H' : Hp) : Prop where
  len : env'.length = env.length
  same : Same F F'
  keep : ∀ a, W a → H' a = H a
  rel : Rel K W F' H' σ' env'
  gds : ∀ i ∈ gd, σ'[i]? = σ[i]? ∧ ∀ r, env[i]? = some r → ∃ r', env'[i]? = some r' ∧ SLe r r'
section
variable {W W' : Addr → Prop} {σ σ1 σ2 : L2.St} {env env1 env2 : Env} {F F1 F2 H H1 H2 : Hp}
theorem SAft.refl (rl : Rel K W F H σ env) : SAft K gd W σ env F H σ env F H := ⟨rfl, Same.refl _, fun _ _ => rfl, rl, fun i _ => ⟨rfl, fun r h => ⟨r, h, SLe.refl r⟩⟩⟩
theorem SAft.of (a : Aft K W σ env F H env1 F1 H1) : SAft K gd W σ env F H σ env1 F1 H1 := ⟨a.le.len, a.same, a.keep, a.rel, fun i _ => ⟨rfl, fun r h => a.le.sl i r h⟩⟩
theorem SAft.trans (a : SAft K gd W σ env F H σ1 env1 F1 H1) (b : SAft K gd W σ1 env1 F1 H1 σ2 env2 F2 H2) : SAft K gd W σ env F H σ2 env2 F2 H2 :=
  ⟨b.len.trans a.len, a.same.trans b.same, fun x hx => (b.keep x hx).trans (a.keep x hx), b.rel, fun i hi => ⟨(b.gds i hi).1.trans (a.gds i hi).1, fun r h => by
    obtain ⟨r1, e1, l1⟩ := (a.gds i hi).2 r h
    obtain ⟨r2, e2, l2⟩ := (b.gds i hi).2 r1 e1
    exact ⟨r2, e2, l1.trans l2⟩⟩⟩
end
variable (K) in
def postS (mg : Str → Option Value) (E : XK) (gd : List Nat) (W : Addr → Prop) (σ : L2.St) (env : Env) (F H : Hp) (o : Out Fl) (D : Ends) : Prop :=
  match o with
  | .ok .nx env' => ∀ σ' F' H', SAft K gd W σ env F H σ' env' F' H' → D.nx σ' H'
  | .ok .bk env' => ∀ σ' F' H', SAft K gd W σ env F H σ' env' F' H' → D.bk σ' H'
  | .ok .ct env' => ∀ σ' F' H', SAft K gd W σ env F H σ' env' F' H' → D.ct σ' H'
  | .ok (.rt r) env' => ∀ σ' F' H' v, SAft K gd W σ env F H σ' env' F' H' → RRv K W F' H' σ' env' v r → D.rt v H'
  | .exc x env' => ∀ σ' F' H' cls od, SAft K gd W σ env F H σ' env' F' H' → XR K mg F' H' x cls od → E cls od H'
  | .no => False
variable (K) in
def tS (mg : Str → Option Value) (E : XK) (gd : List Nat) (f : M Fl) : TS := fun D σ H => ∃ W F env, Rel K W F H σ env ∧ postS K mg E gd W σ env F H (f env) D
theorem postS.from {W : Addr → Prop} {σ σ1 : L2.St} {env env1 : Env} {F F1 H H1 : Hp} {o : Out Fl} {D : Ends} (a : SAft K gd W σ env F H σ1 env1 F1 H1) (h : postS K mg E gd W σ env F H o D) : postS K mg E gd W σ1 env1 F1 H1 o D := by
  match o, h with
  | .ok .nx env', h => exact fun σ' F' H' b => h σ' F' H' (a.trans b)
  | .ok .bk env', h => exact fun σ' F' H' b => h σ' F' H' (a.trans b)
  | .ok .ct env', h => exact fun σ' F' H' b => h σ' F' H' (a.trans b)
  | .ok (.rt r) env', h => exact fun σ' F' H' v b => h σ' F' H' v (a.trans b)
  | .exc x env', h => exact fun σ' F' H' cls od b => h σ' F' H' cls od (a.trans b)
/-- an expression, then on -/
theorem postS_bind {α : Type} {m : M α} {k : α → M Fl} {W : Addr → Prop} {σ : L2.St} {env : Env} {F H : Hp} {D : Ends} (h : postS K mg E gd W σ env F H (M.bind m k env) D) :
    post K mg E W σ env F H (m env) (fun a env' F' H' => postS K mg E gd W σ env' F' H' (k a env') D) := by
  unfold M.bind at h
  cases hm : m env with
  | ok a env' => rw [hm] at h; exact fun F' H' x => postS.from (SAft.of x) h
  | exc x env' => rw [hm] at h; exact fun F' H' cls od a => h σ F' H' cls od (SAft.of a)
  | no => rw [hm] at h; exact h
/-! ### blocks -/
def skipS : M Fl := fun env => .ok .nx env
def seqS (f g : M Fl) : M Fl := fun env => match f env with
  | .ok .nx env' => g env'
  | o => o
theorem ds_nil : PSs X [] (tS K mg E gd skipS) := pss_nil.imp fun D σ H ⟨W, F, env, rl, h⟩ => h σ F H (SAft.refl rl)
theorem ds_cons {st : Stmt} {rest : List Stmt} {f g : M Fl} (h1 : PS X st (tS K mg E gd f)) (h2 : PSs X rest (tS K mg E gd g)) : PSs X (st :: rest) (tS K mg E gd (seqS f g)) := by
  refine (pss_cons h1 h2).imp fun D σ H ⟨W, F, env, rl, h⟩ => ⟨W, F, env, rl, ?_⟩
  unfold seqS at h
  match hf : f env with
  | .ok .nx env' => rw [hf] at h; exact fun σ' F' H' a => ⟨W, F', env', a.rel, postS.from a h⟩
  | .ok .bk env' => rw [hf] at h; exact h
  | .ok .ct env' => rw [hf] at h; exact h
  | .ok (.rt r) env' => rw [hf] at h; exact h
  | .exc x env' => rw [hf] at h; exact h
  | .no => rw [hf] at h; exact h.elim
theorem ds_pass : PS X (.Pass pos) (tS K mg E gd skipS) := ps_pass.imp fun D σ H ⟨W, F, env, rl, h⟩ => h σ F H (SAft.refl rl)
def bkS : M Fl := fun env => .ok .bk env
def ctS : M Fl := fun env => .ok .ct env
theorem ds_break : PS X (.Break pos) (tS K mg E gd bkS) := ps_break.imp fun D σ H ⟨W, F, env, rl, h⟩ => h σ F H (SAft.refl rl)
theorem ds_cont : PS X (.Continue pos) (tS K mg E gd ctS) := ps_continue.imp fun D σ H ⟨W, F, env, rl, h⟩ => h σ F H (SAft.refl rl)
def noS : M Fl := fun _ => .no
theorem ds_never {st : Stmt} : PS X st (tS K mg E gd noS) := ps_never.imp fun D σ H ⟨W, F, env, rl, h⟩ => h.elim
/-! ### an expression dropped, returned; if -/
def exprS (f : M Rv) : M Fl := M.bind f fun _ env => .ok .nx env
def retS (f : M Rv) : M Fl := M.bind f fun r env => .ok (.rt r) env
def retNS : M Fl := fun env => .ok (.rt (.d .none)) env
def ifS (c : M Bool) (f g : M Fl) : M Fl := M.bind c fun b => cond b f g
theorem ds_expr {f : M Rv} (he : PE X e (tE K mg E f)) (hs : swapsWith e none pos.line X.env = pure false) : PS X (.Expr e pos) (tS K mg E gd (exprS f)) := by
  refine (ps_expr he hs).imp fun D σ H ⟨W, F, env, rl, h⟩ => ⟨W, F, env, rl, (postS_bind h).imp fun r env' F' H' _ a h1 v rv => ?_⟩
  exact h1 σ F' H' (SAft.refl a.rel)
theorem ds_ret {f : M Rv} (he : PE X e (tE K mg E f)) : PS X (.Return (some e) pos) (tS K mg E gd (retS f)) := by
  refine (ps_ret he).imp fun D σ H ⟨W, F, env, rl, h⟩ => ⟨W, F, env, rl, (postS_bind h).imp fun r env' F' H' _ a h1 v rv => ?_⟩
  exact h1 σ F' H' v (SAft.refl a.rel) rv
theorem ds_retN : PS X (.Return none pos) (tS K mg E gd retNS) := ps_retN.imp fun D σ H ⟨W, F, env, rl, h⟩ => h σ F H .non (SAft.refl rl) .non
theorem ds_if {c : Expr} {p q : List Stmt} {t : M Bool} {f g : M Fl} (hc : PT X c (tT K mg E t)) (hp : PSs X p (tS K mg E gd f)) (hq : PSs X q (tS K mg E gd g)) : PS X (.If c p q pos) (tS K mg E gd (ifS t f g)) := by
  refine (ps_if hc hp hq).imp fun D σ H ⟨W, F, env, rl, h⟩ => ⟨W, F, env, rl, (postS_bind h).imp fun b env' F' H' _ a h1 => ?_⟩
  cases b with
  | true => rw [if_pos rfl]; exact ⟨W, F', env', a.rel, h1⟩
  | false => rw [if_neg Bool.false_ne_true]; exact ⟨W, F', env', a.rel, h1⟩
/-! ### while -/
def whileS (t : M Bool) (f : M Fl) : Nat → M Fl
  | 0 => fun _ => .no
  | n + 1 => M.bind t fun b => cond b (fun env => match f env with
    | .ok .nx env' => whileS t f n env'
    | .ok .ct env' => whileS t f n env'
    | .ok .bk env' => .ok .nx env'
    | o => o) skipS
theorem ds_while {c : Expr} {body : List Stmt} {t : M Bool} {f : M Fl} (n : Nat) (hp : PassesOwn (model X.prog X.w) X.A X.env X.xe) (hc : PT X c (tT K mg E t)) (hb : PSs X body (tS K mg E gd f)) :
    PS X (.While c body [] pos) (tS K mg E gd (whileS t f n)) := by
  refine (ps_while hp hc hb).imp fun D σ H ⟨W, F, env, rl, h⟩ => ?_
  refine ⟨fun m σ' H' => ∃ F' env', Rel K W F' H' σ' env' ∧ postS K mg E gd W σ' env' F' H' (whileS t f m env') D, ⟨n, F, env, rl, h⟩, ?_⟩
  rintro m σ1 H1 ⟨F1, env1, rl1, h1⟩
  cases m with
  | zero => exact h1.elim
  | succ m =>
    refine ⟨W, F1, env1, rl1, (postS_bind h1).imp fun b env2 F2 H2 _ a2 h2 => ?_⟩
    cases b with
    | false => rw [if_neg Bool.false_ne_true]; exact h2 σ1 F2 H2 (SAft.refl a2.rel)
    | true =>
      rw [if_pos rfl]
      refine ⟨fun σ3 H3 => ∃ F3 env3, Rel K W F3 H3 σ3 env3 ∧ postS K mg E gd W σ3 env3 F3 H3 (whileS t f m env3) D, fun σ3 H3 q => ⟨m, Nat.lt_succ_self m, q⟩, W, F2, env2, a2.rel, ?_⟩
      have h2 : postS K mg E gd W σ1 env2 F2 H2 (match f env2 with
        | .ok .nx env' => whileS t f m env'
        | .ok .ct env' => whileS t f m env'
        | .ok .bk env' => .ok .nx env'
        | o => o) D := h2
      match hf : f env2 with
      | .ok .nx env' => rw [hf] at h2; exact fun σ' F' H' a => ⟨F', env', a.rel, postS.from a h2⟩
      | .ok .ct env' => rw [hf] at h2; exact fun σ' F' H' a => ⟨F', env', a.rel, postS.from a h2⟩
      | .ok .bk env' => rw [hf] at h2; exact fun σ' F' H' a => h2 σ' F' H' a
      | .ok (.rt r) env' => rw [hf] at h2; exact h2
      | .exc x env' => rw [hf] at h2; exact h2
      | .no => rw [hf] at h2; exact h2.elim
end
end Ev
set_option maxHeartbeats 1000000
/-! Ev16: stores. -/
namespace Ev
open PySem PySem.Spec PyProof.Rows L2
variable [Tbi : Tabl]
section
variable {K : PySem.W.Frag} {mg : Str → Option Value} {E : XK} {X : Cx} {gd : List Nat} {e : Expr} {pos : Pos}
/-- slot i is given a value that is no slot's object -/
def putI (gd : List Nat) (i : Nat) (r : Rv) (env : Env) : Option Env := if gd.contains i = true then none else match r with
  | .d x => some (env.set i (some (.d x)))
  | .t xs => some (env.set i (some (.d (.tuple xs))))
  | .s ns => some (env.set i (some (.s ns)))
  | .n c => some (env.set i (some (.c c)))
  | .b _ => none
section
variable {W : Addr → Prop} {σ : L2.St} {env env' : Env} {F H : Hp} {v : V} {r : Rv} {i : Nat}
theorem put_rel (hfx : i ∉ Tbi.fx) (rl : Rel K W F H σ env) {x : R} (hx : SR K W F H (some v) (some x)) (hn : ∀ p, (∃ c, x = .c c) → v = .ref p → ∀ j, ¬ Own σ env j p) : Rel K W F H (σ.set i (some v)) (env.set i (some x)) := by
  have own : ∀ j q, j ≠ i → Own (σ.set i (some v)) (env.set i (some x)) j q → Own σ env j q := fun j q hj ⟨e1, c, e2⟩ => by
    rw [List.getElem?_set_ne (Ne.symm hj)] at e1 e2
    exact ⟨e1, c, e2⟩
  have owni : ∀ q, Own (σ.set i (some v)) (env.set i (some x)) i q → (∃ c, x = .c c) ∧ v = .ref q := fun q ⟨e1, c, e2⟩ => by
    have h1 : i < (σ.set i (some v)).length := (List.getElem?_eq_some_iff.mp e1).1
    have h2 : i < (env.set i (some x)).length := (List.getElem?_eq_some_iff.mp e2).1
    rw [List.length_set] at h1 h2
    rw [List.getElem?_set_self h1] at e1
    rw [List.getElem?_set_self h2] at e2
    cases e1
    cases e2
    exact ⟨⟨c, rfl⟩, rfl⟩
  refine ⟨by rw [List.length_set, List.length_set]; exact rl.len, rl.fz, rl.fw, fun j y z h1 h2 => ?_, fun j k q o1 o2 => ?_, rl.tb, fun j hj => by rw [List.getElem?_set_ne (fun e => hfx (by rw [e]; exact hj))]; exact rl.fn j hj, rl.tf⟩
  · by_cases hj : i = j
    · subst hj
      have l1 : i < (σ.set i (some v)).length := (List.getElem?_eq_some_iff.mp h1).1
      have l2 : i < (env.set i (some x)).length := (List.getElem?_eq_some_iff.mp h2).1
      rw [List.length_set] at l1 l2
      rw [List.getElem?_set_self l1] at h1
      rw [List.getElem?_set_self l2] at h2
      cases h1
      cases h2
      exact hx
    · rw [List.getElem?_set_ne hj] at h1 h2
      exact rl.sl j y z h1 h2
  · by_cases hj : j = i
    · by_cases hk : k = i
      · rw [hj, hk]
      · subst hj
        obtain ⟨c, e⟩ := owni q o1
        exact absurd (own k q hk o2) (hn q c e k)
    · by_cases hk : k = i
      · subst hk
        obtain ⟨c, e⟩ := owni q o2
        exact absurd (own j q hj o1) (hn q c e j)
      · exact rl.ds j k q (own j q hj o1) (own k q hk o2)
class FxG (gd : List Nat) : Prop where
  sub : ∀ j ∈ Tbi.fx, j ∈ gd
variable [Fg : FxG gd]
theorem putI_ok (rl : Rel K W F H σ env) (rv : RRv K W F H σ env v r) (h : putI gd i r env = some env') : SAft K gd W σ env F H (σ.set i (some v)) env' F H ∧ ∃ x, env' = env.set i (some x) ∧ ((∃ c, x = .c c) → ∃ p, v = .ref p ∧ pend v r p) := by
  unfold putI at h
  split at h
  · cases h
  · rename_i hg
    have gds : ∀ x : R, ∀ j ∈ gd, (σ.set i (some v))[j]? = σ[j]? ∧ ∀ r, env[j]? = some r → ∃ r', (env.set i (some x))[j]? = some r' ∧ SLe r r' := fun x j hj => by
      have hne : i ≠ j := by rintro rfl; exact hg (by simpa using hj)
      rw [List.getElem?_set_ne hne]
      refine ⟨rfl, fun r e => ⟨r, ?_, SLe.refl r⟩⟩
      rw [List.getElem?_set_ne hne]
      exact e
    split at h
    · cases h
      exact ⟨⟨List.length_set .., Same.refl _, fun _ _ => rfl, put_rel (fun hj => hg (by simpa using Fg.sub i hj)) rl (x := .d _) rv (fun p z => by obtain ⟨c, z⟩ := z; cases z), gds _⟩, _, rfl, fun z => by obtain ⟨c, z⟩ := z; cases z⟩
    · cases h
      obtain ⟨p, vs, rfl, h1, h2⟩ := rv
      exact ⟨⟨List.length_set .., Same.refl _, fun _ _ => rfl, put_rel (fun hj => hg (by simpa using Fg.sub i hj)) rl (x := .d _) (.tup (SqT.of h1) h2) (fun p z => by obtain ⟨c, z⟩ := z; cases z), gds _⟩, _, rfl, fun z => by obtain ⟨c, z⟩ := z; cases z⟩
    · cases h
      exact ⟨⟨List.length_set .., Same.refl _, fun _ _ => rfl, put_rel (fun hj => hg (by simpa using Fg.sub i hj)) rl (x := .s _) rv (fun p z => by obtain ⟨c, z⟩ := z; cases z), gds _⟩, _, rfl, fun z => by obtain ⟨c, z⟩ := z; cases z⟩
    · cases h
      obtain ⟨p, o, rfl, hp, hc, hf, hw, ho⟩ := rv
      refine ⟨⟨List.length_set .., Same.refl _, fun _ _ => rfl, put_rel (fun hj => hg (by simpa using Fg.sub i hj)) rl (x := .c _) ⟨p, o, rfl, hp, hc, hf, hw⟩ (fun q _ e j => ?_), gds _⟩, _, rfl, fun _ => ⟨p, rfl, rfl⟩⟩
      cases e
      exact ho j
    · cases h
end
variable [Fg : FxG gd]
/-- the object of a slot becomes data first -/
def settle : Rv → M Rv
  | .b i => M.bind (frzI i) fun d => M.ret (.d d)
  | r => M.ret r
def settles : List Rv → M (List Rv)
  | [] => M.ret []
  | x :: xs => M.bind (settle x) fun y => M.bind (settles xs) fun ys => M.ret (y :: ys)
def storeM (gd : List Nat) (i : Nat) (r : Rv) : M Fl := fun env => match putI gd i r env with
  | some env' => .ok .nx env'
  | none => .no
def asgS (gd : List Nat) (i : Nat) (f : M Rv) : M Fl := M.bind f fun r => M.bind (settle r) (storeM gd i)
theorem settle_run {W : Addr → Prop} {σ : L2.St} {F : Hp} {env : Env} {H : Hp} {v : V} {x : Rv} (rl : Rel K W F H σ env) (rx : RRv K W F H σ env v x) :
    settle x env = .no ∨ ∃ y env' F', settle x env = .ok y env' ∧ Aft K W σ env F H env' F' H ∧ RRv K W F' H σ env' v y ∧ pend v y = pend v x := by
  cases x with
  | b i =>
    have h : settle (.b i) env = M.bind (asD (.b i)) (fun d => M.ret (.d d)) env := rfl
    rw [h]
    unfold M.bind
    rcases asD_run rl rx with e | ⟨d, env', F', e, a, q⟩
    · rw [e]; exact .inl rfl
    · rw [e]; exact .inr ⟨_, _, F', rfl, a, q, rfl⟩
  | d x => exact .inr ⟨_, _, F, rfl, Aft.refl rl, rx, rfl⟩
  | t x => exact .inr ⟨_, _, F, rfl, Aft.refl rl, rx, rfl⟩
  | s x => exact .inr ⟨_, _, F, rfl, Aft.refl rl, rx, rfl⟩
  | n x => exact .inr ⟨_, _, F, rfl, Aft.refl rl, rx, rfl⟩
theorem settle_postS {W : Addr → Prop} {σ : L2.St} {F : Hp} {env : Env} {H : Hp} {v : V} {x : Rv} {k : Rv → M Fl} {D : Ends} (rl : Rel K W F H σ env) (rx : RRv K W F H σ env v x) (h : postS K mg E gd W σ env F H (M.bind (settle x) k env) D) :
    ∃ y env' F', Aft K W σ env F H env' F' H ∧ RRv K W F' H σ env' v y ∧ postS K mg E gd W σ env' F' H (k y env') D := by
  have h := postS_bind h
  rcases settle_run rl rx with e | ⟨y, env', F', e, a, q, _⟩
  · rw [e] at h; exact h.elim
  · rw [e] at h; exact ⟨y, env', F', a, q, h F' H a⟩
theorem store_post {W : Addr → Prop} {σ : L2.St} {F : Hp} {env : Env} {H : Hp} {v : V} {x : Rv} {i : Nat} {D : Ends} (rl : Rel K W F H σ env) (rx : RRv K W F H σ env v x) (h : postS K mg E gd W σ env F H (storeM gd i x env) D) : D.nx (σ.set i (some v)) H := by
  unfold storeM at h
  split at h
  · rename_i env' he
    exact h _ F H (putI_ok rl rx he).1
  · exact h.elim
theorem ds_set {i : Nat} {x : Str} {f : M Rv} {pos' : Pos} (hN : X.N.Nodup) (hi : X.N[i]? = some x) (hx : Loc X.env.scope x) (he : PE X e (tE K mg E f)) (hs : swapsWith e (some (.Name x pos')) pos.line X.env = pure false) (hf : X.fn x = true ∨ X.env.scope.names.lookup x = some .local) :
    PS X (.Assign [.Name x pos'] e pos) (tS K mg E gd (asgS gd i f)) := by
  refine (ps_set hN hi hx he hs hf).imp fun D σ H ⟨W, F, env, rl, h⟩ => ⟨W, F, env, rl, (postS_bind h).imp fun r env' F' H' _ a h1 v rv => ?_⟩
  obtain ⟨y, env2, F2, a2, rv2, h2⟩ := settle_postS a.rel rv h1
  exact store_post a2.rel rv2 h2
theorem asD_postS {W : Addr → Prop} {σ : L2.St} {F : Hp} {env : Env} {H : Hp} {v : V} {x : Rv} {k : PyData → M Fl} {D : Ends} (rl : Rel K W F H σ env) (rx : RRv K W F H σ env v x) (h : postS K mg E gd W σ env F H (M.bind (asD x) k env) D) :
    ∃ d env' F', Aft K W σ env F H env' F' H ∧ Dq K F' v d ∧ postS K mg E gd W σ env' F' H (k d env') D := by
  have h := postS_bind h
  rcases asD_run rl rx with e | ⟨d, env', F', e, a, q⟩
  · rw [e] at h; exact h.elim
  · rw [e] at h; exact ⟨d, env', F', a, q, h F' H a⟩
end
end Ev
set_option maxHeartbeats 1000000
/-! Ev17: several stores at once; stores into lists and dicts; methods of lists. -/
namespace Ev
open PySem PySem.Spec PyProof.Rows L2
variable [Tbi : Tabl]
section
variable {K : PySem.W.Frag} {mg : Str → Option Value} {E : XK} {X : Cx} {gd : List Nat} {e : Expr} {pos : Pos}
variable [Fg : FxG gd]
def noB : Rv → Bool
  | .b _ => false
  | _ => true
theorem settle_noB {x y : Rv} {env env' : Env} (h : settle x env = .ok y env') : noB y = true := by
  cases x with
  | b i =>
    have h : M.bind (frzI i) (fun d => M.ret (.d d)) env = .ok y env' := h
    unfold M.bind at h
    split at h
    · cases h; rfl
    · cases h
    · cases h
  | _ => cases h; rfl
theorem settles_run {σ : L2.St} {H : Hp} : ∀ {vs : List V} {xs : List Rv} {W : Addr → Prop} {F : Hp} {env : Env}, Rel K W F H σ env → RRvs K σ env F H W vs xs →
    settles xs env = .no ∨ ∃ ys env' F', settles xs env = .ok ys env' ∧ Aft K W σ env F H env' F' H ∧ RRvs K σ env' F' H W vs ys ∧ ys.all noB = true
  | [], [], W, F, env, rl, _ => .inr ⟨[], env, F, rfl, Aft.refl rl, True.intro, rfl⟩
  | v :: vs, x :: xs, W, F, env, rl, ⟨h1, h2⟩ => by
    have r2 : Rel K (fun a => W a ∨ pends vs xs a) F H σ env := (RRvs.hold (h2.less fun _ => .inl) rl)
    have h1' : RRv K (fun a => W a ∨ pends vs xs a) F H σ env v x := by
      cases x with
      | n c =>
        obtain ⟨p, o, rfl, hp, hc, hf, hw, ho⟩ := h1
        exact ⟨p, o, rfl, hp, hc, hf, fun z => z.elim hw fun z => RRvs.apart h2 z (.inr rfl), ho⟩
      | _ => exact h1
    unfold settles M.bind
    rcases settle_run r2 h1' with e | ⟨y, env1, F1, e, a1, q, ep⟩
    · rw [e]; exact .inl rfl
    · rw [e]
      -- what is behind, still so
      have h3 : RRvs K σ env1 F1 H W vs xs := RRvs.keep (h2.less fun _ => .inl) a1
      have h4 : RRvs K σ env1 F1 H (Wp W v y) vs xs := by
        have up : ∀ {vs : List V} {xs : List Rv} {W W' : Addr → Prop}, RRvs K σ env1 F1 H W vs xs → (∀ p, pends vs xs p → ¬ W' p) → RRvs K σ env1 F1 H (fun a => W a ∨ W' a) vs xs := by
          intro vs
          induction vs with
          | nil => intro xs W W' h _; cases xs with
            | nil => exact True.intro
            | cons _ _ => exact h.elim
          | cons u us ih => intro xs W W' h k; cases xs with
            | nil => exact h.elim
            | cons z zs =>
              obtain ⟨g1, g2⟩ := h
              refine ⟨?_, ?_⟩
              · cases z with
                | n c =>
                  obtain ⟨p, o, rfl, hp, hc, hf, hw, ho⟩ := g1
                  exact ⟨p, o, rfl, hp, hc, hf, fun t => t.elim hw (k p (.inl rfl)), ho⟩
                | _ => exact g1
              · refine (ih (W := Wp W u z) (W' := W') g2 fun p hp => k p (.inr hp)).less fun a ha => ?_
                rcases ha with (ha | ha) | ha
                · exact .inl (.inl ha)
                · exact .inr ha
                · exact .inl (.inr ha)
        refine up h3 fun p hp => ?_
        have := RRvs.apart h2 hp
        rw [ep]
        exact fun z => this (.inr z)
      have rl1 : Rel K (Wp W v y) F1 H σ env1 := (q.less fun _ => .inl).hold (a1.rel.less fun _ => .inl)
      rcases settles_run rl1 h4 with e2 | ⟨ys, env2, F2, e2, a2, q2, nb⟩
      · simp only [e2]; first | exact .inl rfl | exact .inl True.intro
      · simp only [e2]
        refine .inr ⟨_, _, F2, rfl, (a1.less fun _ => .inl).trans (a2.less fun _ => .inl), ⟨(q.less fun _ => .inl).keep a2, q2⟩, ?_⟩
        rw [List.all_cons, nb, settle_noB e]
        rfl
  | [], _ :: _, _, _, _, _, h => h.elim
  | _ :: _, [], _, _, _, _, h => h.elim
theorem RRvs.put {σ : L2.St} {env : Env} {F H : Hp} {v : V} {y : Rv} {i : Nat} {x : R} (hx : (∃ c, x = .c c) → ∃ p, v = .ref p ∧ pend v y p) : ∀ {vs : List V} {ys : List Rv} {W : Addr → Prop}, RRvs K σ env F H (Wp W v y) vs ys → ys.all noB = true →
    RRvs K (σ.set i (some v)) (env.set i (some x)) F H W vs ys
  | [], [], _, _, _ => True.intro
  | u :: us, z :: zs, W, ⟨h1, h2⟩, nb => by
    rw [List.all_cons, Bool.and_eq_true] at nb
    refine ⟨?_, RRvs.put hx (h2.less fun a ha => ?_) nb.2⟩
    · cases z with
      | d d => exact h1
      | t ds => exact h1
      | s ns => exact h1
      | b j => cases nb.1
      | n c =>
        obtain ⟨p, o, rfl, hp, hc, hf, hw, ho⟩ := h1
        refine ⟨p, o, rfl, hp, hc, hf, fun z => hw (.inl z), fun j ⟨e1, c', e2⟩ => ?_⟩
        by_cases hj : i = j
        · subst hj
          have l1 : i < (σ.set i (some v)).length := (List.getElem?_eq_some_iff.mp e1).1
          have l2 : i < (env.set i (some x)).length := (List.getElem?_eq_some_iff.mp e2).1
          rw [List.length_set] at l1 l2
          rw [List.getElem?_set_self l1] at e1
          rw [List.getElem?_set_self l2] at e2
          cases e1
          cases e2
          obtain ⟨q, e3, e4⟩ := hx ⟨_, rfl⟩
          cases e3
          exact hw (.inr e4)
        · rw [List.getElem?_set_ne hj] at e1 e2
          exact ho j ⟨e1, c', e2⟩
    · rcases ha with (ha | ha) | ha
      · exact .inl (.inl ha)
      · exact .inr ha
      · exact .inl (.inr ha)
  | [], _ :: _, _, h, _ => h.elim
  | _ :: _, [], _, h, _ => h.elim
def storeAll (gd : List Nat) : List Nat → List Rv → M Fl
  | [], [] => skipS
  | i :: is, r :: rs => fun env => match putI gd i r env with
    | some env' => storeAll gd is rs env'
    | none => .no
  | _, _ => fun _ => .no
/-- the slots behind several stores -/
def setAll (σ : L2.St) : List Nat → List V → L2.St
  | i :: is, v :: vs => setAll (σ.set i (some v)) is vs
  | _, _ => σ
theorem storeAll_post {D : Ends} {H : Hp} : ∀ {is : List Nat} {vs : List V} {ys : List Rv} {W : Addr → Prop} {σ : L2.St} {env : Env} {F : Hp}, Rel K W F H σ env → RRvs K σ env F H W vs ys → ys.all noB = true →
    postS K mg E gd W σ env F H (storeAll gd is ys env) D → vs.length = is.length ∧ D.nx (setAll σ is vs) H
  | [], [], [], W, σ, env, F, rl, _, _, h => ⟨rfl, h σ F H (SAft.refl rl)⟩
  | i :: is, v :: vs, y :: ys, W, σ, env, F, rl, ⟨h1, h2⟩, nb, h => by
    rw [List.all_cons, Bool.and_eq_true] at nb
    unfold storeAll at h
    split at h
    · rename_i env' he
      obtain ⟨a, x, ex, hx⟩ := putI_ok rl h1 he
      subst ex
      obtain ⟨q1, q2⟩ := storeAll_post a.rel (RRvs.put hx h2 nb.2) nb.2 (postS.from a h)
      exact ⟨congrArg (· + 1) q1, q2⟩
    · exact h.elim
  | [], [], _ :: _, _, _, _, _, _, h, _, _ => h.elim
  | [], _ :: _, [], _, _, _, _, _, h, _, _ => h.elim
  | [], _ :: _, _ :: _, _, _, _, _, _, _, _, h => h.elim
  | _ :: _, [], [], _, _, _, _, _, _, _, h => h.elim
  | _ :: _, [], _ :: _, _, _, _, _, _, h, _, _ => h.elim
  | _ :: _, _ :: _, [], _, _, _, _, _, h, _, _ => h.elim
end
end Ev
set_option maxHeartbeats 1000000
/-! Ev18: parallel stores; what a slot's object becomes: stores into it, methods. -/
namespace Ev
open PySem PySem.Spec PyProof.Rows L2
variable [Tbi : Tabl]
section
variable {K : PySem.W.Frag} {mg : Str → Option Value} {E : XK} {X : Cx} {gd : List Nat} {a b c e : Expr} {es : List Expr} {pos : Pos}
variable [Fg : FxG gd]
def parS (gd : List Nat) (is : List Nat) (fs : M (List Rv)) : M Fl := M.bind fs fun rs => M.bind (settles rs) (storeAll gd is)
theorem settles_postS {W : Addr → Prop} {σ : L2.St} {F : Hp} {env : Env} {H : Hp} {vs : List V} {xs : List Rv} {k : List Rv → M Fl} {D : Ends} (rl : Rel K W F H σ env) (rx : RRvs K σ env F H W vs xs) (h : postS K mg E gd W σ env F H (M.bind (settles xs) k env) D) :
    ∃ ys env' F', Aft K W σ env F H env' F' H ∧ RRvs K σ env' F' H W vs ys ∧ ys.all noB = true ∧ postS K mg E gd W σ env' F' H (k ys env') D := by
  have h := postS_bind h
  rcases settles_run rl rx with e | ⟨y, env', F', e, a, q, nb⟩
  · rw [e] at h; exact h.elim
  · rw [e] at h; exact ⟨y, env', F', a, q, nb, h F' H a⟩
theorem par_run {is : List Nat} {fs : M (List Rv)} {D : Ends} {σ : L2.St} {H : Hp} (h : tS K mg E gd (parS gd is fs) D σ H) : tA K mg E fs σ H fun vs H1 => vs.length = is.length ∧ D.nx (setAll σ is vs) H1 := by
  obtain ⟨W, F, env, rl, h⟩ := h
  refine ⟨W, F, env, rl, (postS_bind h).imp fun rs env' F' H' _ a h1 vs rv => ?_⟩
  obtain ⟨ys, env2, F2, a2, rv2, nb, h2⟩ := settles_postS a.rel rv h1
  exact storeAll_post a2.rel rv2 nb h2
theorem ds_par2 {i j : Nat} {x y : Str} {fs : M (List Rv)} {px py pt : Pos} {kt k2 pt2} (hc : X.calm = true) (hN : X.N.Nodup) (hi : X.N[i]? = some x) (hj : X.N[j]? = some y) (hij : i ≠ j)
    (hx : X.env.scope.names.lookup x = some .local) (hy : X.env.scope.names.lookup y = some .local) (ha : PA X [a, b] (tA K mg E fs))
    (hw : swappedStores [.Tuple [.Name x px, .Name y py] kt pt] (.Tuple [a, b] k2 pt2) X.env = pure (some [x, y]))
    (hs : swapsWithSole [.Tuple [.Name x px, .Name y py] kt pt] (.Tuple [a, b] k2 pt2) pos.line X.env = pure false) :
    PS X (.Assign [.Tuple [.Name x px, .Name y py] kt pt] (.Tuple [a, b] k2 pt2) pos) (tS K mg E gd (parS gd [i, j] fs)) := by
  refine (ps_par hc hN hi hj hij hx hy ha hw hs).imp fun D σ H h => ?_
  obtain ⟨W, F, env, rl, h⟩ := par_run h
  refine ⟨W, F, env, rl, h.imp fun rs env' F' H' _ a h1 vs rv => ?_⟩
  obtain ⟨h2, h3⟩ := h1 vs rv
  match vs, h2 with
  | [v, w], _ => exact ⟨v, w, rfl, h3⟩
theorem ds_par3 {i j l : Nat} {x y z : Str} {fs : M (List Rv)} {px py pz pt : Pos} {kt k2 pt2} (hc : X.calm = true) (hN : X.N.Nodup) (hi : X.N[i]? = some x) (hj : X.N[j]? = some y) (hl : X.N[l]? = some z) (hij : i ≠ j) (hil : i ≠ l) (hjl : j ≠ l)
    (hx : X.env.scope.names.lookup x = some .local) (hy : X.env.scope.names.lookup y = some .local) (hz : X.env.scope.names.lookup z = some .local) (ha : PA X [a, b, c] (tA K mg E fs))
    (hw : swappedStores [.Tuple [.Name x px, .Name y py, .Name z pz] kt pt] (.Tuple [a, b, c] k2 pt2) X.env = pure (some [x, y, z]))
    (hs : swapsWithSole [.Tuple [.Name x px, .Name y py, .Name z pz] kt pt] (.Tuple [a, b, c] k2 pt2) pos.line X.env = pure false) :
    PS X (.Assign [.Tuple [.Name x px, .Name y py, .Name z pz] kt pt] (.Tuple [a, b, c] k2 pt2) pos) (tS K mg E gd (parS gd [i, j, l] fs)) := by
  refine (ps_par3 hc hN hi hj hl hij hil hjl hx hy hz ha hw hs).imp fun D σ H h => ?_
  obtain ⟨W, F, env, rl, h⟩ := par_run h
  refine ⟨W, F, env, rl, h.imp fun rs env' F' H' _ a h1 vs rv => ?_⟩
  obtain ⟨h2, h3⟩ := h1 vs rv
  match vs, h2 with
  | [u, v, w], _ => exact ⟨u, v, w, rfl, h3⟩
/-! ### a slot's object is changed -/
def putD {κ : Type} [DecidableEq κ] (es : List (κ × PyData)) (k : κ) (d : PyData) : List (κ × PyData) :=
  if (es.any fun p => decide (p.1 = k)) = true then es.map (fun p => if p.1 = k then (p.1, d) else p) else es ++ [(k, d)]
theorem kd_any {κ : Type} [DecidableEq κ] {F : Hp} (k : κ) : ∀ {kvs : List (κ × V)} {es : List (κ × PyData)}, KD K F kvs es → (kvs.any fun p => decide (p.1 = k)) = (es.any fun p => decide (p.1 = k))
  | _, _, .nil => rfl
  | _, _, .cons h t => by rw [List.any_cons, List.any_cons, h.1, kd_any k t]
theorem kd_put {κ : Type} [DecidableEq κ] {F : Hp} {kvs : List (κ × V)} {es : List (κ × PyData)} (k : κ) {v : V} {d : PyData} (h : KD K F kvs es) (q : Dq K F v d) : KD K F (putK kvs k v) (putD es k d) := by
  unfold putK putD
  rw [kd_any k h]
  split
  · have mp : ∀ {kvs : List (κ × V)} {es : List (κ × PyData)}, KD K F kvs es → KD K F (kvs.map fun kv => if kv.1 = k then (kv.1, v) else kv) (es.map fun p => if p.1 = k then (p.1, d) else p) := by
      intro kvs es h
      induction h with
      | nil => exact .nil
      | @cons p p' _ _ h t ih =>
        refine .cons ?_ ih
        dsimp only
        rw [h.1]
        split
        · exact ⟨rfl, q⟩
        · exact h
    exact mp h
  · have app : ∀ {kvs : List (κ × V)} {es : List (κ × PyData)}, KD K F kvs es → KD K F (kvs ++ [(k, v)]) (es ++ [(k, d)]) := by
      intro kvs es h
      induction h with
      | nil => exact .cons ⟨rfl, q⟩ .nil
      | cons h _ ih => exact .cons h ih
    exact app h
theorem aft_upd {W : Addr → Prop} {σ : L2.St} {F H : Hp} {env : Env} (rl : Rel K W F H σ env) {i : Nat} {c c' : C} {v : V} (hv : σ[i]? = some (some v)) (h : env[i]? = some (some (.c c))) :
    ∃ p o, v = .ref p ∧ H p = some o ∧ CR K F o c ∧ ∀ o', CR K F o' c' → Aft K W σ env F H (env.set i (some (.c c'))) F (upd H p o') := by
  obtain ⟨p, o, rfl, hp, hc, hf, hw⟩ := rl.sl i _ _ hv h
  refine ⟨p, o, rfl, hp, hc, fun o' ho' => ?_⟩
  have hi : i < env.length := (List.getElem?_eq_some_iff.mp h).1
  have oi : Own σ env i p := ⟨hv, _, h⟩
  have own : ∀ j q, Own σ (env.set i (some (.c c'))) j q → Own σ env j q := fun j q ⟨e1, c2, e2⟩ => by
    by_cases hj : i = j
    · subst hj; exact ⟨e1, c, h⟩
    · rw [List.getElem?_set_ne hj] at e2; exact ⟨e1, c2, e2⟩
  have hs : Same F (upd H p o') := fun x u e => by rw [upd_ne (ne_of_none e hf)]; exact rl.fz x u e
  have wp : ∀ x, W x → x ≠ p := fun x hx e => hw (e ▸ hx)
  refine ⟨⟨List.length_set .., fun j r hr => ?_⟩, Same.refl _, fun x hx => upd_ne (wp x hx), ⟨by rw [List.length_set]; exact rl.len, hs, fun x hx => ⟨(rl.fw x hx).1, ?_⟩, fun j y r h1 h2 => ?_, fun j k q o1 o2 => rl.ds j k q (own j q o1) (own k q o2), tabs_cr rl.tb hp hc, rl.fn, rl.tf⟩⟩
  · by_cases hj : i = j
    · subst hj
      rw [h] at hr; cases hr
      exact ⟨_, List.getElem?_set_self hi, rfl⟩
    · exact ⟨r, by rw [List.getElem?_set_ne hj]; exact hr, SLe.refl r⟩
  · rw [upd_ne (wp x hx)]; exact (rl.fw x hx).2
  · by_cases hj : i = j
    · subst hj
      rw [List.getElem?_set_self hi] at h2
      cases h2
      rw [hv] at h1
      cases h1
      exact ⟨p, o', rfl, upd_same, ho', hf, hw⟩
    · rw [List.getElem?_set_ne hj] at h2
      have q := rl.sl j y r h1 h2
      match y, r, q with
      | _, none, _ => exact True.intro
      | some v, some (.d x), q => exact q
      | some v, some (.s x), q => exact q
      | some v, some (.c d), ⟨q, o, e, hq, hc, hf', hw'⟩ =>
        subst e
        have ne : q ≠ p := fun e => hj (rl.ds i j p oi (by rw [← e]; exact ⟨h1, d, h2⟩))
        exact ⟨q, o, rfl, by rw [upd_ne ne]; exact hq, hc, hf', hw'⟩
/-- the object of slot i by g -/
def updC {α : Type} (i : Nat) (g : C → Option (α × C)) : M α := fun env => match env[i]? with
  | some (some (.c c)) => match g c with
    | some (r, c') => .ok r (env.set i (some (.c c')))
    | none => .no
  | _ => .no
theorem updC_ok {α : Type} {i : Nat} {g : C → Option (α × C)} {env : Env} (h : updC i g env ≠ .no) : ∃ c r c', env[i]? = some (some (.c c)) ∧ g c = some (r, c') ∧ updC i g env = .ok r (env.set i (some (.c c'))) := by
  unfold updC at h ⊢
  split at h
  · rename_i c hc
    split at h
    · rename_i r c' hg
      refine ⟨c, r, c', hc, hg, ?_⟩
      simp only [hc, hg]
    · exact absurd rfl h
  · exact absurd rfl h
theorem post_no {α : Type} {W : Addr → Prop} {σ : L2.St} {F H : Hp} {env : Env} {o : Out α} {Q : α → Env → Hp → Hp → Prop} (h : post K mg E W σ env F H o Q) : o ≠ .no := by
  rintro rfl; exact h
theorem postS_no {W : Addr → Prop} {σ : L2.St} {F H : Hp} {env : Env} {o : Out Fl} {D : Ends} (h : postS K mg E gd W σ env F H o D) : o ≠ .no := by
  rintro rfl; exact h
end
end Ev
set_option maxHeartbeats 1000000
/-! Ev19: stores into a slot's object; methods. -/
namespace Ev
open PySem PySem.Spec PyProof.Rows L2
variable [Tbi : Tabl]
section
variable {K : PySem.W.Frag} {mg : Str → Option Value} {E : XK} {X : Cx} {gd : List Nat} {a b c e : Expr} {es : List Expr} {pos : Pos}
variable [Fg : FxG gd]
theorem _root_.L2.PSet.or {X : Cx} {t t' : TSet} (h : PSet X t) (h' : PSet X t') : PSet X (fun o i v H Q => t o i v H Q ∨ t' o i v H Q) := fun pins s σ H o i v ov iv u Q I ro ri rv q => q.elim (h pins s σ H o i v ov iv u Q I ro ri rv) (h' pins s σ H o i v ov iv u Q I ro ri rv)
def setC (ri : Rv) (d : PyData) : C → Option (Fl × C)
  | .l xs => match ri with
    | .d (.int k) => (ixN xs.length k).map fun n => (.nx, .l (xs.set n d))
    | _ => none
  | .k es => match ri with
    | .d x => match dKey x with
      | some k => if es.length < sizeLine then some (.nx, .k (putD es k d)) else none
      | none => none
    | _ => none
  | .t es => match ri with
    | .t xs => match dKeys xs with
      | some k => if es.length < sizeLine then some (.nx, .t (putD es k d)) else none
      | none => none
    | _ => none
def setS (f fo fi : M Rv) : M Fl := M.bind f fun r => M.bind fo fun ro => M.bind fi fun ri => match ro with
  | .b j => M.bind (asD r) fun d => updC j (setC ri d)
  | _ => fun _ => .no
theorem setC_ok {F H : Hp} {ri : Rv} {d : PyData} {c c' : C} {fl : Fl} {p : Addr} {o : HO} {i v : V} {W : Addr → Prop} {σ : L2.St} {env : Env} (h : setC ri d c = some (fl, c')) (fz : Same F H) (hp : H p = some o) (hc : CR K F o c) (hd : Dq K F v d) (hi : RRv K W F H σ env i ri) :
    fl = .nx ∧ ∃ o', CR K F o' c' ∧ ∀ Q : Hp → Prop, Q (upd H p o') → (rSetL (.ref p) i v H Q ∨ rSetD (.ref p) i v H Q) := by
  unfold setC at h
  split at h
  · rename_i xs
    split at h
    · rename_i k
      cases o <;> first | exact hc.elim | skip
      rename_i vs
      have hc : DqAll K F vs xs := hc
      cases hn : ixN xs.length k with
      | none => rw [hn] at h; cases h
      | some n =>
        rw [hn] at h
        cases h
        have hi : Dq K F i (.int k) := hi
        cases hi
        exact ⟨rfl, .lst (vs.set n v), DqAll.set hd n hc, fun Q q => .inl ⟨p, vs, k, n, rfl, rfl, hp, by rw [hc.length]; exact hn, q⟩⟩
    · cases h
  · rename_i es
    split at h
    · rename_i x
      split at h
      · rename_i k hk
        split at h
        · rename_i hl
          cases h
          cases o <;> first | exact hc.elim | skip
          rename_i kvs
          have hc : KD K F kvs es := hc
          have hi : Dq K F i x := hi
          refine ⟨rfl, .dK (putK kvs k v), kd_put k hc hd, fun Q q => .inr ⟨p, _, rfl, ?_, q⟩⟩
          rw [dKey_ok hi hk]
          exact DPut.k hp (by rw [kd_len hc]; exact hl)
        · cases h
      · cases h
    · cases h
  · rename_i es
    split at h
    · rename_i xs
      split at h
      · rename_i k hk
        split at h
        · rename_i hl
          cases h
          cases o <;> first | exact hc.elim | skip
          rename_i kvs
          have hc : KD K F kvs es := hc
          obtain ⟨q, vs, rfl, h1, h2⟩ := hi
          refine ⟨rfl, .dT (putK kvs k v), kd_put k hc hd, fun Q qq => .inr ⟨p, _, rfl, ?_, qq⟩⟩
          exact DPut.t hp (by rw [← dKeys_ok h2 hk]; exact fz _ _ h1) (by rw [kd_len hc]; exact hl)
        · cases h
      · cases h
    · cases h
theorem ds_setSub {o i : Expr} {pos' : Pos} {f fo fi : M Rv} (hu : X.A.units + 1 < cLine) (he : PE X e (tE K mg E f)) (ho : PE X o (tE K mg E fo)) (hi : PE X i (tE K mg E fi))
    (ha : ∀ v, assign (.Subscript o i pos') X.env v = (do
      let ov ← holding [v] (eval o X.env)
      let iv ← holding [v, ov] (eval i X.env)
      standAt pos'
      holding [v, ov, iv] (setItem ov iv v)
      release [v, ov, iv] []))
    (hs : swapsWithSole [.Subscript o i pos'] e pos.line X.env = pure false) (hw : swappedStores [.Subscript o i pos'] e X.env = pure none) (h1 : (assignEach [.Subscript o i pos'] X.env).map (·.2) = [assign (.Subscript o i pos') X.env]) :
    PS X (.Assign [.Subscript o i pos'] e pos) (tS K mg E gd (setS f fo fi)) := by
  refine (ps_asg he (pg_sub ho hi (set_list.or (set_dict hu)) ha) hs hw h1).imp fun D σ H ⟨W, F, env, rl, h⟩ => ⟨W, F, env, rl, (postS_bind h).imp fun r env1 F1 H1 _ a1 h1 v rv => ?_⟩
  refine ⟨Wp W v r, F1, env1, rv.hold a1.rel, ?_⟩
  have g1 := postS_bind h1
  cases hm : fo env1 with
  | no => rw [hm] at g1; exact g1.elim
  | exc x env2 =>
    rw [hm] at g1
    exact fun F' H' cls od a x => g1 F' H' cls od (a.less fun _ => .inl) x
  | ok ro env2 =>
    rw [hm] at g1
    intro F2 H2 a2 ov rov
    have rv2 := rv.keep a2
    refine ⟨Wp (Wp W v r) ov ro, F2, env2, rov.hold a2.rel, ?_⟩
    have g2 := postS_bind (g1 F2 H2 (a2.less fun _ => .inl))
    cases hm3 : fi env2 with
    | no => rw [hm3] at g2; exact g2.elim
    | exc x env3 =>
      rw [hm3] at g2
      exact fun F' H' cls od a x => g2 F' H' cls od (a.less fun _ z => .inl (.inl z)) x
    | ok ri env3 =>
      rw [hm3] at g2
      intro F3 H3 a3 iv riv
      have rv3 := rv2.keep (a3.less fun _ => .inl)
      have g3 := g2 F3 H3 (a3.less fun _ z => .inl (.inl z))
      cases ro with
      | b j =>
        have rov3 := rov.keep a3
        obtain ⟨d, env4, F4, a4, hd, g4⟩ := asD_postS (a3.rel.less fun _ z => .inl (.inl z)) rv3 g3
        obtain ⟨c, fl, c', hc, hg, eq⟩ := updC_ok (postS_no g4)
        obtain ⟨p, o, rfl, hp, hcr, hn⟩ := aft_upd (c' := c') a4.rel (rov3.1) hc
        have riv4 : RRv K (fun _ => False) F4 H3 σ env4 iv ri := by
          cases ri with
          | d x => exact Dq.mono a4.same riv
          | t xs => obtain ⟨q, vs, e, h, r⟩ := riv; exact ⟨q, vs, e, a4.same _ _ h, DqAll.mono a4.same r⟩
          | s x => obtain ⟨q, e, h⟩ := riv; exact ⟨q, e, a4.same.seq h⟩
          | n c2 => unfold setC at hg; split at hg <;> cases hg
          | b k => unfold setC at hg; split at hg <;> cases hg
        obtain ⟨rfl, o', ho', hq⟩ := setC_ok hg a4.rel.fz hp hcr hd riv4
        rw [eq] at g4
        exact hq _ (g4 σ F4 _ (SAft.of (hn o' ho')))
      | _ => exact g3.elim
/-! ### targets of names, nested -/
inductive Tg where
  | n (i : Nat)
  | t (ts : List Tg)
  | s (fo fi : M Rv)
mutual
def asgT (gd : List Nat) : Tg → PyData → Env → Option Env
  | .n i, d, env => putI gd i (.d d) env
  | .t ts, .tuple ds, env => asgTs gd ts ds env
  | .t ts, .list ds, env => asgTs gd ts ds env
  | .s fo fi, d, env => match fo env with
    | .ok (.b j) env1 => match fi env1 with
      | .ok ri env2 => match updC j (setC ri d) env2 with
        | .ok _ env3 => some env3
        | _ => none
      | _ => none
    | _ => none
  | .t _, _, _ => none
def asgTs (gd : List Nat) : List Tg → List PyData → Env → Option Env
  | [], [], env => some env
  | t :: ts, d :: ds, env => match asgT gd t d env with
    | some env' => asgTs gd ts ds env'
    | none => none
  | _, _, _ => none
end
variable (K) in
/-- a target that takes data as t does -/
def tG (gd : List Nat) (t : Tg) : TG := fun v σ H Q => ∃ W F env d env', Rel K W F H σ env ∧ Dq K F v d ∧ asgT gd t d env = some env' ∧ ∀ σ' F' H', SAft K gd W σ env F H σ' env' F' H' → Q σ' H'
variable (K) in
def tGs (gd : List Nat) (ts : List Tg) : TGs := fun vs σ H Q => ∃ W F env ds env', Rel K W F H σ env ∧ DqAll K F vs ds ∧ asgTs gd ts ds env = some env' ∧ ∀ σ' F' H', SAft K gd W σ env F H σ' env' F' H' → Q σ' H'
theorem _root_.L2.PG.imp {X : Cx} {e : Expr} {t t' : TG} (h : PG X e t) (k : ∀ v σ H Q, t' v σ H Q → t v σ H Q) : PG X e t' := ⟨fun pins s σ H v u Q I r q => h.run pins s σ H v u Q I r (k v σ H Q q)⟩
theorem _root_.L2.PGs.imp {X : Cx} {e : List Expr} {t t' : TGs} (h : PGs X e t) (k : ∀ v σ H Q, t' v σ H Q → t v σ H Q) : PGs X e t' := ⟨fun pins s σ H v u Q I r q => h.run pins s σ H v u Q I r (k v σ H Q q)⟩
theorem _root_.L2.PG.or {X : Cx} {e : Expr} {t t' : TG} (h : PG X e t) (h' : PG X e t') : PG X e (fun v σ H Q => t v σ H Q ∨ t' v σ H Q) := ⟨fun pins s σ H v u Q I r q => q.elim (h.run pins s σ H v u Q I r) (h'.run pins s σ H v u Q I r)⟩
theorem dg_name {i : Nat} {x : Str} (hN : X.N.Nodup) (hi : X.N[i]? = some x) (hx : Loc X.env.scope x) (hf : X.fn x = true ∨ X.env.scope.names.lookup x = some .local) : PG X (.Name x pos) (tG K gd (.n i)) := by
  refine (pg_name hN hi hx hf).imp fun v σ H Q ⟨W, F, env, d, env', rl, hd, he, q⟩ => ?_
  unfold asgT at he
  exact q _ F H (putI_ok rl (r := .d d) hd he).1
theorem dgs_nil : PGs X [] (tGs K gd []) := by
  refine pgs_nil.imp fun vs σ H Q ⟨W, F, env, ds, env', rl, hd, he, q⟩ => ?_
  cases hd with
  | nil => cases he; exact ⟨rfl, q σ F H (SAft.refl rl)⟩
  | cons a t => cases he
theorem dgs_cons {es : List Expr} {t : Tg} {ts : List Tg} (h1 : PG X e (tG K gd t)) (h2 : PGs X es (tGs K gd ts)) (hs : (assignEach (e :: es) X.env).map (·.2) = assign e X.env :: (assignEach es X.env).map (·.2)) : PGs X (e :: es) (tGs K gd (t :: ts)) := by
  refine (pgs_cons h1 h2 hs).imp fun vs σ H Q ⟨W, F, env, ds, env', rl, hd, he, q⟩ => ?_
  cases hd with
  | nil => cases he
  | cons a b =>
    unfold asgTs at he
    split at he
    · rename_i env1 e1
      refine ⟨_, _, rfl, W, F, env, _, env1, rl, a, e1, fun σ1 F1 H1 a1 => ⟨W, F1, env1, _, env', a1.rel, DqAll.mono a1.same b, he, fun σ2 F2 H2 a2 => q σ2 F2 H2 (a1.trans a2)⟩⟩
    · cases he
theorem dg_tup {es : List Expr} {kk : Nat} {ts : List Tg} {n : Nat} (hc : X.calm = true) (h : PGs X es (tGs X.K gd ts)) (hn : (assignEach es X.env).length = n) (hl : ts.length = n) (hst : (assignEach es X.env).findIdx? (·.1) = none) : PG X (.Tuple es kk pos) (tG X.K gd (.t ts)) := by
  refine ((pg_tup hc h hn hst).or (pg_unl hc h hn hst)).imp fun v σ H Q ⟨W, F, env, d, env', rl, hd, he, q⟩ => ?_
  have len : ∀ {ts : List Tg} {ds : List PyData} {env env' : Env}, asgTs gd ts ds env = some env' → ds.length = ts.length := by
    intro ts
    induction ts with
    | nil => intro ds env env' h; cases ds with
      | nil => rfl
      | cons _ _ => cases h
    | cons t ts ih => intro ds env env' h; cases ds with
      | nil => cases h
      | cons d ds =>
        unfold asgTs at h
        split at h
        · simp [ih h]
        · cases h
  match d, hd, he with
  | .tuple ds, hd, he =>
    have he : asgTs gd ts ds env = some env' := he
    cases hd with
    | tup h1 h2 => exact .inl ⟨_, _, rfl, same_T rl.fz h1, by rw [h2.length, len he, hl], W, F, env, _, env', rl, h2, he, q⟩
  | .list ds, hd, he =>
    have he : asgTs gd ts ds env = some env' := he
    cases hd with
    | lst h1 h2 => exact .inr ⟨_, _, rfl, SqL.of (rl.fz _ _ h1), by rw [h2.length, len he, hl], W, F, env, _, env', rl, h2, he, q⟩
def unpS (gd : List Nat) (t : Tg) (f : M Rv) : M Fl := M.bind f fun r => M.bind (asD r) fun d env => match asgT gd t d env with
  | some env' => .ok .nx env'
  | none => .no
/-- target = e, a target of names -/
theorem ds_unp {tg : Expr} {t : Tg} {f : M Rv} (he : PE X e (tE K mg E f)) (hg : PG X tg (tG K gd t)) (hs : swapsWithSole [tg] e pos.line X.env = pure false) (hw : swappedStores [tg] e X.env = pure none) (h1 : (assignEach [tg] X.env).map (·.2) = [assign tg X.env]) :
    PS X (.Assign [tg] e pos) (tS K mg E gd (unpS gd t f)) := by
  refine (ps_asg he hg hs hw h1).imp fun D σ H ⟨W, F, env, rl, h⟩ => ⟨W, F, env, rl, (postS_bind h).imp fun r env' F' H' _ a h1 v rv => ?_⟩
  obtain ⟨d, env2, F2, a2, hd, h2⟩ := asD_postS a.rel rv h1
  split at h2
  · rename_i env3 e3
    exact ⟨W, F2, env2, d, env3, a2.rel, hd, e3, fun σ' F3 H3 a3 => h2 σ' F3 H3 a3⟩
  · exact h2.elim
theorem setC_rv {ri : Rv} {d : PyData} {c c' : C} {fl : Fl} {W : Addr → Prop} {σ : L2.St} {env : Env} {F F' H H' : Hp} {v : V} (h : setC ri d c = some (fl, c')) (s : Same F F') (rv : RRv K W F H σ env v ri) : RRv K (fun _ => False) F' H' σ env v ri := by
  cases ri with
  | d x => exact Dq.mono s rv
  | t xs => obtain ⟨q, vs, e, h, r⟩ := rv; exact ⟨q, vs, e, s _ _ h, DqAll.mono s r⟩
  | s x => obtain ⟨q, e, h⟩ := rv; exact ⟨q, e, s.seq h⟩
  | n c2 => unfold setC at h; split at h <;> cases h
  | b k => unfold setC at h; split at h <;> cases h
theorem dg_sub {o i : Expr} {pos : Pos} {fo fi : M Rv} (hu : X.A.units + 1 < cLine) (ho : PE X o (tE K mg E fo)) (hi : PE X i (tE K mg E fi))
    (ha : ∀ v, assign (.Subscript o i pos) X.env v = (do
      let ov ← holding [v] (eval o X.env)
      let iv ← holding [v, ov] (eval i X.env)
      standAt pos
      holding [v, ov, iv] (setItem ov iv v)
      release [v, ov, iv] [])) : PG X (.Subscript o i pos) (tG K gd (.s fo fi)) := by
  refine (pg_sub ho hi (set_list.or (set_dict hu)) ha).imp fun v σ H Q ⟨W, F, env, d, env', rl, hd, he, q⟩ => ?_
  unfold asgT at he
  split at he
  · rename_i j env1 e1
    split at he
    · rename_i ri env2 e2
      split at he
      · rename_i fl env3 e3
        cases he
        refine ⟨W, F, env, rl, ?_⟩
        rw [e1]
        intro F1 H1 a1 ov rov
        refine ⟨W, F1, env1, a1.rel, ?_⟩
        rw [e2]
        intro F2 H2 a2 iv riv
        have rov2 := rov.keep (a2.less fun _ h => h.elim id False.elim)
        obtain ⟨c, fl', c', hc, hg, eq⟩ := updC_ok (i := j) (g := setC ri d) (env := env2) (fun z => by rw [e3] at z; cases z)
        obtain ⟨p, o, rfl, hp, hcr, hn⟩ := aft_upd (c' := c') a2.rel rov2.1 hc
        have s2 : Same F F2 := a1.same.trans a2.same
        obtain ⟨rfl, o', ho', hq⟩ := setC_ok hg a2.rel.fz hp hcr (Dq.mono s2 hd) (setC_rv (F' := F2) (H' := H2) hg (Same.refl _) riv)
        rw [eq] at e3
        cases e3
        exact hq _ (q σ F2 _ ((SAft.of a1).trans ((SAft.of a2).trans (SAft.of (hn o' ho')))))
      · cases he
    · cases he
  · cases he
end
end Ev
set_option maxHeartbeats 1000000
/-! Ev20: methods. -/
namespace Ev
open PySem PySem.Spec PyProof.Rows L2
variable [Tbi : Tabl]
section
variable {K : PySem.W.Frag} {mg : Str → Option Value} {E : XK} {X : Cx} {gd : List Nat} {a b c o e : Expr} {es : List Expr} {pos apos cpos : Pos}
variable [Fg : FxG gd]
def tyR (T : String) : R → Bool
  | .c (.l _) => T == "list"
  | .d (.list _) => T == "list"
  | .c (.k _) => T == "dict"
  | .c (.t _) => T == "dict"
  | .d (.str _) => T == "str"
  | .d (.int _) => T == "int"
  | _ => false
def tyM (T : String) (r : Rv) : M Unit := fun env => match lk r env with
  | some x => if tyR T x = true then .ok () env else .no
  | none => .no
theorem tyR_ok {F H : Hp} {v : V} {x : R} {T : String} (fz : Same F H) (h : Hold K F H v x) (t : tyR T x = true) : tyV K T v H := by
  unfold tyR at t
  split at t
  · obtain ⟨p, o, rfl, hp, hc, _⟩ := h
    cases o <;> first | exact hc.elim | skip
    exact .inl ⟨eq_of_beq t, _, SqL.of hp⟩
  · have h : Dq K F v _ := h
    cases h with
    | lst h1 h2 => exact .inl ⟨eq_of_beq t, _, SqL.of (fz _ _ h1)⟩
  · obtain ⟨p, o, rfl, hp, hc, _⟩ := h
    cases o <;> first | exact hc.elim | skip
    exact .inr (.inr (.inl ⟨eq_of_beq t, .inl ⟨_, hp⟩⟩))
  · obtain ⟨p, o, rfl, hp, hc, _⟩ := h
    cases o <;> first | exact hc.elim | skip
    exact .inr (.inr (.inl ⟨eq_of_beq t, .inr ⟨_, hp⟩⟩))
  · have h : Dq K F v _ := h
    cases h; exact eq_of_beq t
  · have h : Dq K F v _ := h
    cases h; exact eq_of_beq t
  · cases t
def bmM (T : String) (f : M Rv) (fs : M (List Rv)) (k : Rv → List Rv → M Rv) : M Rv := M.bind f fun r => M.bind (tyM T r) fun _ => M.bind fs fun rs => k r rs
variable (K mg E) in
def MVR (r : V → List V → Hp → VK → Prop) (k : Rv → List Rv → M Rv) : Prop := ∀ (W : Addr → Prop) (σ : L2.St) (F : Hp) (env : Env) (H : Hp) (v : V) (vs : List V) (x : Rv) (xs : List Rv) (Q : VK), Rel K W F H σ env → RRv K W F H σ env v x → RRvs K σ env F H (Wp W v x) vs xs →
  post K mg E W σ env F H (k x xs env) (fun r env' F' H' => ∀ w, RRv K W F' H' σ env' w r → Q w H') → r v vs H Q
section
variable {T : String} {f : M Rv} {fs : M (List Rv)} {k : Rv → List Rv → M Rv} {r : V → List V → Hp → VK → Prop}
theorem bm_run {σ : L2.St} {H : Hp} {Q : VK} (hk : MVR K mg E r k) (h : tE K mg E (bmM T f fs k) σ H Q) : tE K mg E f σ H fun x H1 => tyV K T x H1 ∧ tA K mg E fs σ H1 fun xs H2 => r x xs H2 Q := by
  obtain ⟨W, F, env, rl, h⟩ := h
  refine ⟨W, F, env, rl, (post_bind h).imp fun x env1 F1 H1 _ a1 h1 v rv => ?_⟩
  unfold M.bind tyM at h1
  cases hl : lk x env1 with
  | none => rw [hl] at h1; exact h1.elim
  | some y =>
    rw [hl] at h1
    by_cases ht : tyR T y = true
    · simp only [ht, if_true] at h1
      refine ⟨tyR_ok a1.rel.fz (hold_of a1.rel rv hl) ht, Wp W v x, F1, env1, rv.hold a1.rel, ?_⟩
      have h1 : post K mg E W σ env1 F1 H1 (M.bind fs (fun rs => k x rs) env1) (fun r env' F' H' => ∀ w, RRv K W F' H' σ env' w r → Q w H') := h1
      have g := post_bind h1
      cases hm : fs env1 with
      | no => rw [hm] at g; exact g.elim
      | exc y env2 =>
        rw [hm] at g
        exact fun F' H' cls od a x => g F' H' cls od (a.less fun _ => .inl) x
      | ok rs env2 =>
        rw [hm] at g
        exact fun F2 H2 a2 vs rvs => hk W σ F2 env2 H2 v vs x rs Q (a2.rel.less fun _ => .inl) (rv.keep a2) rvs (g F2 H2 (a2.less fun _ => .inl))
    · simp only [ht] at h1; exact h1.elim
theorem de_bm {name : Str} {id : String} (pa : PlainAttrs T) (slot : Slot T name id) (hty : typeOf (.builtin id) = pure (.type "method_descriptor")) (hm : MtR X id r) (hk : MVR X.K mg E r k) (ho : PE X o (tE X.K mg E f)) (ha : PA X (e :: es) (tA X.K mg E fs))
    (hbase : attributeBase o name X.env (eval o X.env) = eval o X.env)
    (hfew : ((backTo cpos (starEach (e :: es) X.env)).all (fun x => !x.1) && (backToKw cpos (keywordEach [] X.env)).all (fun x => x.1.isSome)
      && decide ((e :: es).length + ([] : List Keyword).length + (if ([] : List Keyword).isEmpty then 0 else 1) < 30)) = true)
    (hline : (apos.endLine == cpos.line) = true) (hs : starEach (e :: es) X.env = (false, eval e X.env) :: starEach es X.env) (hplain : (backTo cpos (starEach es X.env)).any (·.1) = false) :
    PE X (.Call (.Attribute o name apos) (e :: es) [] cpos) (tE X.K mg E (bmM T f fs k)) :=
  (pe_bm pa slot hty hm ho ha hbase hfew hline hs hplain).imp fun σ H Q h => bm_run hk h
theorem de_bm0 {name : Str} {id : String} (pa : PlainAttrs T) (slot : Slot T name id) (hty : typeOf (.builtin id) = pure (.type "method_descriptor")) (hm : MtR X id r) (hk : MVR X.K mg E r k) (ho : PE X o (tE X.K mg E f))
    (hbase : attributeBase o name X.env (eval o X.env) = eval o X.env) (hline : (apos.endLine == cpos.line) = true) :
    PE X (.Call (.Attribute o name apos) [] [] cpos) (tE X.K mg E (bmM T f (M.ret []) k)) :=
  (pe_bm0 pa slot hty hm ho hbase hline).imp fun σ H Q h => by
    obtain ⟨W, F, env, rl, h⟩ := bm_run hk h
    refine ⟨W, F, env, rl, h.imp fun x env1 F1 H1 _ a1 h1 v rv => ⟨(h1 v rv).1, ?_⟩⟩
    obtain ⟨W2, F2, env2, rl2, h2⟩ := (h1 v rv).2
    exact h2 F2 H1 (Aft.refl rl2) [] True.intro
end
/-! ### lists -/
def appC (d : PyData) : C → Option (Rv × C)
  | .l xs => if xs.length < sizeLine then some (.d .none, .l (xs ++ [d])) else none
  | _ => none
def popC : C → Option (Rv × C)
  | .l xs => (xs[xs.length - 1]?).map fun d => (.d d, .l xs.dropLast)
  | _ => none
def popAtC (i : Int) : C → Option (Rv × C)
  | .l xs => if -(2 ^ 63) ≤ i ∧ i < 2 ^ 63 then match seqIndex? i xs.length with
      | some k => (xs[k]?).map fun d => (.d d, .l (xs.eraseIdx k))
      | none => none
    else none
  | _ => none
def extC (ds : List PyData) : C → Option (Rv × C)
  | .l xs => if xs.length + ds.length ≤ sizeLine then some (.d .none, .l (xs ++ ds)) else none
  | _ => none
def appM : Rv → List Rv → M Rv
  | .b i, [y] => M.bind (asD y) fun d => updC i (appC d)
  | _, _ => M.no
def popM : Rv → List Rv → M Rv
  | .b i, [] => updC i popC
  | .b i, [.d (.int k)] => updC i (popAtC k)
  | _, _ => M.no
def extM : Rv → List Rv → M Rv
  | .b i, [y] => M.bind (asD y) fun d => match d with
    | .list ds => updC i (extC ds)
    | _ => M.no
  | _, _ => M.no
theorem updC_post {i : Nat} {g : C → Option (Rv × C)} {W : Addr → Prop} {σ : L2.St} {F H : Hp} {env : Env} {v : V} {Q : Rv → Env → Hp → Hp → Prop} (rl : Rel K W F H σ env) (rv : RRv K W F H σ env v (.b i)) (h : post K mg E W σ env F H (updC i g env) Q) :
    ∃ c r c' p o, g c = some (r, c') ∧ v = .ref p ∧ H p = some o ∧ CR K F o c ∧ ∀ o', CR K F o' c' → Q r (env.set i (some (.c c'))) F (upd H p o') := by
  obtain ⟨c, r, c', hc, hg, eq⟩ := updC_ok (post_no h)
  obtain ⟨p, o, e, hp, hcr, hn⟩ := aft_upd (c' := c') rl rv.1 hc
  rw [eq] at h
  exact ⟨c, r, c', p, o, hg, e, hp, hcr, fun o' ho' => h F _ (hn o' ho')⟩
theorem asD_keep {W : Addr → Prop} {σ : L2.St} {F F' H : Hp} {env env' : Env} {v : V} {i : Nat} (rv : RRv K W F H σ env v (.b i)) (a : Aft K W σ env F H env' F' H) : RRv K W F' H σ env' v (.b i) := rv.keep (a.less fun _ h => h.elim id False.elim)
theorem mv_append : MVR K mg E rAppend appM := fun W σ F env H v vs x xs Q rl rx rxs h => by
  unfold appM at h
  split at h
  · rename_i i y
    match vs, rxs with
    | [u], ⟨ry, _⟩ =>
      have ry : RRv K W F H σ env u y := ry.less fun _ => .inl
      obtain ⟨d, env1, F1, a1, hd, h1⟩ := asD_post rl ry h
      obtain ⟨c, r, c', p, o, hg, rfl, hp, hc, hq⟩ := updC_post a1.rel (asD_keep rx a1) h1
      unfold appC at hg
      split at hg
      · split at hg
        · rename_i hl
          cases hg
          cases o <;> first | exact hc.elim | skip
          rename_i ws
          have hc : DqAll K F1 ws _ := hc
          exact ⟨p, ws, u, rfl, rfl, hp, by rw [hc.length]; exact hl, hq (.lst (ws ++ [u])) (DqAll.append hc (.cons hd .nil)) _ .non⟩
        · cases hg
      · cases hg
  · exact h.elim
theorem DqAll.dropLast {F : Hp} : ∀ {vs : List V} {ds : List PyData}, DqAll K F vs ds → DqAll K F vs.dropLast ds.dropLast := fun {vs ds} h => by
  rw [List.dropLast_eq_take, List.dropLast_eq_take, h.length]
  exact h.take _
theorem DqAll.eraseIdx {F : Hp} : ∀ {vs : List V} {ds : List PyData} (i : Nat), DqAll K F vs ds → DqAll K F (vs.eraseIdx i) (ds.eraseIdx i)
  | _, _, _, .nil => .nil
  | _, _, 0, .cons _ t => t
  | _, _, i + 1, .cons a t => .cons a (DqAll.eraseIdx i t)
theorem mv_pop : MVR K mg E (fun x vs H Q => rPop x vs H Q ∨ rPopAt x vs H Q) popM := fun W σ F env H v vs x xs Q rl rx rxs h => by
  unfold popM at h
  split at h
  · match vs, rxs with
    | [], _ =>
      obtain ⟨c, r, c', p, o, hg, rfl, hp, hc, hq⟩ := updC_post rl rx h
      unfold popC at hg
      split at hg
      · rename_i ds
        cases hd : ds[ds.length - 1]? with
        | none => rw [hd] at hg; cases hg
        | some d =>
          rw [hd] at hg
          cases hg
          cases o <;> first | exact hc.elim | skip
          rename_i ws
          have hc : DqAll K F ws _ := hc
          obtain ⟨w, hw, q⟩ := hc.get hd
          exact .inl ⟨p, ws, w, rfl, rfl, hp, by rw [hc.length]; exact hw, hq (.lst ws.dropLast) (DqAll.dropLast hc) _ q⟩
      · cases hg
  · rename_i k
    match vs, rxs with
    | [u], ⟨ry, _⟩ =>
      have ry : Dq K F u (.int k) := ry
      cases ry
      obtain ⟨c, r, c', p, o, hg, rfl, hp, hc, hq⟩ := updC_post rl rx h
      unfold popAtC at hg
      split at hg
      · rename_i ds
        split at hg
        · rename_i hb
          split at hg
          · rename_i j hj
            cases hd : ds[j]? with
            | none => rw [hd] at hg; cases hg
            | some d =>
              rw [hd] at hg
              cases hg
              cases o <;> first | exact hc.elim | skip
              rename_i ws
              have hc : DqAll K F ws _ := hc
              obtain ⟨w, hw, q⟩ := hc.get hd
              exact .inr ⟨p, ws, k, j, w, rfl, rfl, hp, hb.1, hb.2, by rw [hc.length]; exact hj, hw, hq (.lst (ws.eraseIdx j)) (DqAll.eraseIdx j hc) _ q⟩
          · cases hg
        · cases hg
      · cases hg
  · exact h.elim
theorem mt_popAll : MtR X "list.pop" (fun x vs H Q => rPop x vs H Q ∨ rPopAt x vs H Q) := fun pins s σ H x xs v us Q I rx rxs h => h.elim (mt_pop pins s σ H x xs v us Q I rx rxs) (mt_popAt pins s σ H x xs v us Q I rx rxs)
theorem mv_extend : MVR K mg E rExtend extM := fun W σ F env H v vs x xs Q rl rx rxs h => by
  unfold extM at h
  split at h
  · rename_i i y
    match vs, rxs with
    | [u], ⟨ry, _⟩ =>
      have ry : RRv K W F H σ env u y := ry.less fun _ => .inl
      obtain ⟨d, env1, F1, a1, hd, h1⟩ := asD_post rl ry h
      split at h1
      · rename_i ds
        obtain ⟨c, r, c', p, o, hg, rfl, hp, hc, hq⟩ := updC_post a1.rel (asD_keep rx a1) h1
        unfold extC at hg
        split at hg
        · split at hg
          · rename_i hl
            cases hg
            cases o <;> first | exact hc.elim | skip
            rename_i ws
            have hc : DqAll K F1 ws _ := hc
            cases hd with
            | lst q1 q2 =>
              exact ⟨p, _, ws, _, rfl, rfl, hp, a1.rel.fz _ _ q1, by rw [hc.length, q2.length]; exact hl, hq (.lst (ws ++ _)) (DqAll.append hc q2) _ .non⟩
          · cases hg
        · cases hg
      · exact h1.elim
  · exact h.elim
end
end Ev
set_option maxHeartbeats 1000000
/-! Ev21: enumerate over tuples (the library has lists); what a walk over data gives. -/
namespace Ev
open PySem PySem.Spec PyProof.Rows L2
variable [Tbi : Tabl]
section
set_option maxHeartbeats 1000000 in
theorem meets_enum1 {v : Value} {o : Obj} {H : Heap → Prop} (B : Begins v o H) :
    Meets (Builtin.«enumerate.__new__» ⟨[.type "enumerate", v], []⟩) (fun _ R s => H s.heap ∧
      R (.ok (.ret (.ref (s.heap.push o).objs.size))) { s with heap := (s.heap.push o).push { cls := .type "enumerate", data := .fields #[.none, .bool false, .ref s.heap.objs.size, rawInt 0, .none, .none] } }) :=
  .of_wp fun prog w A R s h => by
    obtain ⟨hp, g, d, tk, os⟩ := s; obtain ⟨h1, h⟩ := h
    have hsub := sub_enumerate
    have q1 : ∀ {A' : Around} {E : Value → Shared → Prop} {Q : Value → Shared → Prop}, Q (.ref hp.objs.size) ⟨hp.push o, g, d, tk, os⟩ → wpAny (model prog w) A' (pyIter v) Q E ⟨hp, g, d, tk, os⟩ :=
      fun q => B.iter prog w _ _ ⟨hp, g, d, tk, os⟩ _ h1 q
    wp_walk using q1
    refine wpAny_stack_any fun st => wpAny_pure ?_
    split
    · rename_i c _ _ _ _ _
      cases (c == Value.type "enumerate")
      · wp_walk using q1
        exact ⟨_, rfl, h⟩
      · wp_walk using q1
        exact ⟨_, rfl, h⟩
    · wp_walk using q1
      exact ⟨_, rfl, h⟩
theorem call_enum1 {prog : Program} {w : World} {A : Around} {E : Value → Shared → Prop} {s : Shared} {v : Value} {o : Obj} {H : Heap → Prop} {Q : Value → Shared → Prop} (B : Begins v o H) (h1 : H s.heap)
    (h : ∀ h', IsEnum h' (s.heap.objs.size + 1) s.heap.objs.size 0 .none → h'.get? s.heap.objs.size = some o → h'.objs.size = s.heap.objs.size + 2 →
      (∀ b o, s.heap.get? b = some o → h'.get? b = some o) → Q (.ref (s.heap.objs.size + 1)) { s with heap := h' }) :
    wpAny (model prog w) A (call (.type "enumerate") [v]) Q E s := by
  refine callType_new F.called_enumerate (by decide) (F.typeCall_enumerate_1 _) (F.newCall_enumerate_1 _) (fun obj => F.args_object_init_2 obj _) F.entry_enumerate_new
    (meets_enum1 B) ⟨h1, ?_⟩
  have hz : (s.heap.push o).objs.size = s.heap.objs.size + 1 := Heap.size_push ..
  show _ ∧ _
  rw [hz]
  have he : IsEnum ((s.heap.push o).push { cls := .type "enumerate", data := .fields #[.none, .bool false, .ref s.heap.objs.size, rawInt 0, .none, .none] }) (s.heap.objs.size + 1) s.heap.objs.size 0 .none := by
    have := Heap.get?_push_size (s.heap.push o) (o := { cls := .type "enumerate", data := .fields #[.none, .bool false, .ref s.heap.objs.size, rawInt 0, .none, .none] }) rfl
    rw [hz] at this; exact this
  refine ⟨⟨_, he, rfl⟩, h _ he (Heap.get?_push_of_some _ (Heap.get?_push_size _ B.free)) (by rw [Heap.size_push, hz]) fun b o x => Heap.get?_push_of_some _ (Heap.get?_push_of_some _ x)⟩
theorem enumT_end {prog : Program} {w : World} {A : Around} {E : Value → Shared → Prop} {s : Shared} {e it l : Addr} {i : Nat} {c : Int} {items : Array Value} {old : Value} {Q : Option Value → Shared → Prop} (hh : A.handled = none)
    (he : IsEnum s.heap e it c old) (hit : s.heap.IsTupleIter it l i) (hl : s.heap.IsTuple l items) (hx : items[i]? = none)
    (hQ : ∀ h', Heap.ExtBut it s.heap h' → Q none { s with heap := h' }) : wpAny (model prog w) A (pyNext (.ref e)) Q E s := by
  have hT : s.TypeIs (.ref e) "enumerate" := ⟨_, he, rfl⟩
  unfold pyNext
  refine wpAny_bind (wpAny_attempt (wpAny_callSpecial?_slot (name := Str.ofString "__next__") hT F.slot_enumerate_next
    (wpAny_call_entry F.slot_enumerate_next hT F.entry_enumerate_next ?_ (F.args_enumerate_next_1 _))))
  show wpAny _ _ (field (.ref e) 2 >>= _) _ _ _
  refine wpAny_bind (wpAny_field he rfl (x := .ref it) rfl ?_)
  refine wpAny_bind (wpAny_nextOf_tuple_end hh hit hl hx fun h' x he' hx' => ?_)
  obtain ⟨o, ho, hc⟩ := hx'
  refine wpAny_bind (wpAny_isInstance (T := "StopIteration") (b := true) ⟨o, ho, hc⟩ isSubtype_stop ?_)
  exact wpAny_pure (hQ _ he')
def IteT (K : PySem.W.Frag) (a : Addr) : It :=
  ⟨fun i H => ∃ (xs : List V) (x : V), SqT K H a xs ∧ xs[i]? = some x, fun i H v H' => ∃ T x, v = .ref T ∧ H T = none ∧ H' = upd H T (.tup [.int (i : Nat), x]) ∧ ∀ xs, SqT K H a xs → xs[i]? = some x, fun i H => ∃ xs : List V, SqT K H a xs ∧ xs.length ≤ i⟩
theorem turn_enumT {P : Program} {w : World} {K : PySem.W.Frag} {elts : List Expr} {kk : Nat} {tpos : Pos} (a e it : Addr) (hai : a ≠ it) :
    Turn P w K (.Tuple elts kk tpos) (IteT K a) [e, it] e (fun i h => (∃ old, IsEnum h e it ((i : Nat) : Int) old) ∧ h.IsTupleIter it a i ∧ e ≠ it) where
  mem := by simp
  obj := fun i h st b hb => by
    obtain ⟨⟨old, he⟩, ⟨o, ho, hc, hd⟩, _⟩ := st
    have e' : b = e ∨ b = it := by simpa using hb
    rcases e' with z | z
    · rw [z]; exact ⟨_, he, fun v q => nomatch q⟩
    · rw [z]; exact ⟨o, ho, fun v q => by rw [hd] at q; cases q⟩
  keep := fun i h h' st k => let ⟨⟨old, he⟩, hi, hne⟩ := st; ⟨⟨old, k e (by simp) _ he⟩, hi.at fun o q => k it (by simp) o q, hne⟩
  item := by
    intro X hP hw hK hc i pins s σ H E I hf st hg
    subst hP hw hK
    obtain ⟨⟨old, he⟩, hit, hne⟩ := st
    obtain ⟨xs, x, hq, hx⟩ := hg
    obtain ⟨its, rv, p, hz⟩ := I.tuple hq
    obtain ⟨u, hu, ru⟩ := rv.get hx
    have hel : e < s.heap.objs.size := Heap.lt_size he
    have hil : it < s.heap.objs.size := by obtain ⟨_, q, _⟩ := hit; exact Heap.lt_size q
    have pt : s.heap.IsTuple a its.toArray := p
    have hlt : i < its.toArray.size := by
      have : i < its.length := (List.getElem?_eq_some_iff.mp hu).1
      simpa using this
    have hae : a ≠ e := by
      rintro rfl
      obtain ⟨o, ho, hc', _⟩ := pt
      rw [he] at ho
      have ho := Option.some.inj ho
      rw [← ho] at hc'
      exact absurd hc' (by simp)
    refine wpAny_pyNext_enum_itemC (Draws.tuple (A := X.A.in1) (I.ok.hd hc) it a hai its.toArray) he ⟨hit, pt⟩ hlt hne (by simp [hne, Ne.symm hae]) fun x' h' tk hx' ho hit' hT hsz hk => ?_
    have ex : x' = u := by
      have hx2 : its[i]? = some x' := by simpa using hx'
      rw [hu] at hx2
      exact (Option.some.inj hx2).symm
    subst ex
    refine ⟨_, rfl, wpAny_letOwnedTupleGo_enum (s := { s with heap := h', toks := tk + 1 }) ho fun h'' he' sb => ?_⟩
    have hT2 : h''.get? s.heap.objs.size = some { cls := .type "tuple", data := .seq #[.int i tk, x'] } := (sb.2 _ (Nat.ne_of_gt hel)).trans hT
    have new : ObjOk X.prog X.w (upd H s.heap.objs.size (.tup [.int (i : Nat), x])) h'' s.heap.objs.size (.tup [.int (i : Nat), x]) :=
      ⟨by show 2 ≤ sizeLine; decide, [.int i tk, x'], .cons ⟨_, rfl⟩ (.cons ru .nil), ⟨_, hT2, rfl, _, rfl⟩⟩
    have I1 : Inv X pins σ (upd H s.heap.objs.size (.tup [.int (i : Nat), x])) { s with heap := h'', toks := tk + 1 } :=
      I.turnedNew (ch := [e, it]) (fun b ob hb q => (sb.2 b (fun z => hb (by simp [z]))).trans (hk b ob (fun z => hb (by simp [z])) (fun z => hb (by simp [z])) q)) hf (Nat.le_refl _) new
    refine ⟨.ref s.heap.objs.size, _, I1, rfl, ⟨_, x, rfl, I.hok.fresh (Nat.le_refl _), rfl, fun ys hy => by rw [I.tuple_inj hy hq]; exact hx⟩, ⟨⟨x', ?_⟩, hit'.1.at fun o q => (sb.2 it (Ne.symm hne)).trans q, hne⟩, fun b hb => ?_⟩
    · have e1 : ((i + 1 : Nat) : Int) = (i : Int) + 1 := by omega
      rw [e1]; exact he'
    · have hb' : b < s.heap.objs.size := by
        have e' : b = e ∨ b = it := by simpa using hb
        rcases e' with z | z
        · rw [z]; exact hel
        · rw [z]; exact hil
      rw [upd_ne (Nat.ne_of_lt hb')]
      exact (hf b hb).1
  done := by
    intro X hP hw hK hc i pins s σ H E I hf st hg
    subst hP hw hK
    obtain ⟨⟨old, he⟩, hit, hne⟩ := st
    obtain ⟨xs, hq, hx⟩ := hg
    obtain ⟨its, rv, p, hz⟩ := I.tuple hq
    obtain ⟨f0, f1, f2, f3, f4, f5⟩ := hf it (by simp)
    have hl := rv.length
    have pt : s.heap.IsTuple a its.toArray := p
    refine enumT_end (I.ok.hd hc) he hit pt (by simp; omega) fun h' eb => ⟨rfl, I.turned (t' := s.toks) (fun b o hb q => eb b o hb q) f0 f1 f3 f4 f5⟩
  self := fun A i s Q E st h => let ⟨⟨_, he⟩, _⟩ := st; wpAny_pyIter_enum he h
end
end Ev
set_option maxHeartbeats 1000000
/-! Ev22: what is walked over: data. -/
namespace Ev
open PySem PySem.Spec PyProof.Rows L2
variable [Tbi : Tabl]
section
variable {K : PySem.W.Frag} {mg : Str → Option Value} {E : XK} {X : Cx} {gd : List Nat} {a b c o e tg : Expr} {es : List Expr} {pos p q : Pos}
def iEnumA (K : PySem.W.Frag) (ta : TA) : TI := fun σ H R => ta σ H fun vs H1 => ∃ a xs, vs = [.ref a] ∧ ((SqL K H1 a xs ∧ R (Ite K a) H1) ∨ (SqT K H1 a xs ∧ R (IteT K a) H1))
theorem pi_enumA {X : Cx} {e : Expr} {ta : TA} {p pos tpos : Pos} {elts : List Expr} {kk : Nat} (hg : Gl X "enumerate") (hm : X.mg "enumerate" = none) (ha : PA X [e] ta) (hs : starEach [e] X.env = [(false, eval e X.env)]) :
    PI X (.Tuple elts kk tpos) (.Call (.Name "enumerate" p) [e] [] pos) (iEnumA X.K ta) := by
  refine ⟨fun pins s σ H R I h => ?_⟩
  refine Call_ (ld_blt I hg hm boot_enumerate (PyProof.Rows.callWith_type1 (thn (ha.run pos pins s σ H _ I h) fun us s1 ⟨vs, H1, I1, r1, q1⟩ => ?_) hs rfl))
  obtain ⟨a, xs, ex, q⟩ := q1
  subst ex
  cases r1 with
  | cons r rr =>
    cases rr
    cases r
    have fin : ∀ b, b ∈ [s1.heap.objs.size + 1, s1.heap.objs.size] → FpOk X pins H1 b := fun b hb => by
      have e' : b = s1.heap.objs.size + 1 ∨ b = s1.heap.objs.size := by simpa using hb
      have hle : s1.heap.objs.size ≤ b := by
        rcases e' with z | z
        · rw [z]; exact Nat.le_add_right _ _
        · rw [z]; exact Nat.le_refl _
      exact I1.fpOk hle (I1.hok.fresh hle)
    rcases q with ⟨hq, q⟩ | ⟨hq, q⟩
    · obtain ⟨its, rv, p', hz⟩ := I1.list hq
      refine call_enumerate_list p'.isList fun h' he hit hsz hk => wpAny_pyIter_enum he ?_
      have I2 : Inv X pins σ H1 { s1 with heap := h' } := I1.kept (t' := s1.toks) hk
      exact ⟨s1.heap.objs.size + 1, [s1.heap.objs.size + 1, s1.heap.objs.size], _, _, H1, rfl, I2, turn_enum a (s1.heap.objs.size + 1) s1.heap.objs.size, ⟨⟨.none, he⟩, hit, Nat.succ_ne_self _⟩, fin, q⟩
    · obtain ⟨its, rv, p', hz⟩ := I1.tuple hq
      have pt : s1.heap.IsTuple a its.toArray := p'
      have hal : a ≠ s1.heap.objs.size := by
        obtain ⟨o, ho, _⟩ := pt
        exact Nat.ne_of_lt (Heap.lt_size ho)
      refine call_enum1 (begins_tuple a its.toArray) pt fun h' he hit hsz hk => wpAny_pyIter_enum he ?_
      have I2 : Inv X pins σ H1 { s1 with heap := h' } := I1.kept (t' := s1.toks) hk
      exact ⟨s1.heap.objs.size + 1, [s1.heap.objs.size + 1, s1.heap.objs.size], _, _, H1, rfl, I2, turn_enumT a (s1.heap.objs.size + 1) s1.heap.objs.size hal, ⟨⟨.none, he⟩, ⟨_, hit, rfl, rfl⟩, Nat.succ_ne_self _⟩, fin, q⟩
theorem walk_enumT {a : Addr} {xs : List V} : Walk (IteT K a) xs.length (fun H => SqT K H a xs) (YPair (fun i => some (.int (i : Nat))) (fun i => xs[i]?)) := by
  refine ⟨fun i _ hi q => ⟨xs, xs[i], q, by simp [hi]⟩, fun _ q => ⟨xs, q, Nat.le_refl _⟩, fun i H v H' _ q y => ?_⟩
  obtain ⟨T, x, h1, h2, h3, h4⟩ := y
  exact ⟨T, .int (i : Nat), x, h1, h2, h3, rfl, h4 xs q⟩
theorem _root_.L2.PI.imp {X : Cx} {tg e : Expr} {t t' : TI} (h : PI X tg e t) (k : ∀ σ H R, t' σ H R → t σ H R) : PI X tg e t' := ⟨fun pins s σ H R I q => h.run pins s σ H R I (k σ H R q)⟩
theorem _root_.L2.PI.or {X : Cx} {tg e : Expr} {t t' : TI} (h : PI X tg e t) (h' : PI X tg e t') : PI X tg e (fun σ H R => t σ H R ∨ t' σ H R) := ⟨fun pins s σ H R I q => q.elim (h.run pins s σ H R I) (h'.run pins s σ H R I)⟩
/-- the i-th of ds, as it is or as a new tuple -/
def YD (K : PySem.W.Frag) (F : Hp) (ds : List PyData) : Nat → Hp → V → Hp → Prop := fun i H x H' => ∃ d, ds[i]? = some d ∧
  ((H' = H ∧ Dq K F x d) ∨ ∃ T xs es, x = .ref T ∧ H T = none ∧ H' = upd H T (.tup xs) ∧ d = .tuple es ∧ DqAll K F xs es)
variable (K) in
/-- it gives what ds is -/
def tI (mg : Str → Option Value) (E : XK) (m : M (List PyData)) : TI := fun σ H R => ∃ W F env, Rel K W F H σ env ∧ post K mg E W σ env F H (m env) fun ds _ F' H' => ∀ J, Walk J ds.length (fun H => Same F' H) (YD K F' ds) → R J H'
theorem YD.at {F : Hp} {xs : List V} {ds : List PyData} (h : DqAll K F xs ds) : ∀ i H x H', YAt xs i H x H' → YD K F ds i H x H' := fun i H x H' ⟨e, hx⟩ => by
  obtain ⟨d, hd, q⟩ := h.getV hx
  exact ⟨d, hd, .inl ⟨e, q⟩⟩
/-! ### a list, a tuple -/
def iSeq (K : PySem.W.Frag) (te : TE) : TI := fun σ H R => te σ H fun x H1 => (∃ a, x = .ref a ∧ (∃ xs, SqL K H1 a xs) ∧ R (Itl K a) H1) ∨ ∃ a, x = .ref a ∧ (∃ xs, SqT K H1 a xs) ∧ R (Itt K a) H1
theorem pi_seq {l : Expr} {te : TE} (hl : PE X l te) : PI X tg l (iSeq X.K te) := by
  refine ⟨fun pins s σ H R I h => ?_⟩
  refine thn (hl.run pins s σ H _ I h) fun v s1 ⟨x, H1, I1, r1, q1⟩ => ?_
  have fin : ∀ {n : String} {a : Addr} {J : It}, (∀ it : Addr, it = s1.heap.objs.size → ∃ tn, Turn X.prog X.w X.K tg J [it] it tn ∧ tn 0 (s1.heap.push { cls := .type n, data := .fields #[.ref a, .int 0 0] })) → R J H1 →
      PIE X pins σ tg R (.ref s1.heap.objs.size) { s1 with heap := s1.heap.push { cls := .type n, data := .fields #[.ref a, .int 0 0] } } := fun ht q => by
    obtain ⟨tn, T, t0⟩ := ht _ rfl
    refine ⟨s1.heap.objs.size, [s1.heap.objs.size], _, _, H1, rfl, I1.kept (t' := s1.toks) fun b o e => Heap.get?_push_of_some _ e, T, t0, fun b hb => ?_, q⟩
    have e : b = s1.heap.objs.size := by simpa using hb
    subst e
    exact I1.fpOk (Nat.le_refl _) (I1.hok.fresh (Nat.le_refl _))
  rcases q1 with ⟨a, e, ⟨xs, hq⟩, q⟩ | ⟨a, e, ⟨xs, hq⟩, q⟩
  · subst e
    cases r1
    obtain ⟨its, rv, p, hz⟩ := I1.list hq
    refine wpAny_pyIter_list p.isList (fin (fun it hit => ⟨_, turn_list a it, ?_⟩) q)
    rw [hit]
    exact ⟨_, Heap.get?_push_size _ rfl, rfl, rfl⟩
  · subst e
    cases r1
    obtain ⟨its, rv, p, hz⟩ := I1.tuple hq
    refine wpAny_pyIter_tuple (show s1.heap.IsTuple a its.toArray from p) (fin (fun it hit => ⟨_, turn_tuple a it, ?_⟩) q)
    rw [hit]
    exact ⟨_, Heap.get?_push_size _ rfl, rfl, rfl⟩
def seqI (f : M Rv) : M (List PyData) := M.bind f fun r => M.bind (asD r) fun d => match d with
  | .list ds => M.ret ds
  | .tuple ds => M.ret ds
  | _ => M.no
theorem di_seq {f : M Rv} (he : PE X e (tE X.K mg E f)) : PI X tg e (tI X.K mg E (seqI f)) := by
  refine (pi_seq he).imp fun σ H R ⟨W, F, env, rl, h⟩ => ⟨W, F, env, rl, ?_⟩
  refine (post_bind h).imp fun r env1 F1 H1 _ a1 h1 v rv => ?_
  obtain ⟨d, env2, F2, a2, hd, h2⟩ := asD_post a1.rel rv h1
  split at h2
  · rename_i ds
    cases hd with
    | lst h3 h4 =>
      have h5 := a2.rel.fz _ _ h3
      refine .inl ⟨_, rfl, ⟨_, SqL.of h5⟩, h2 F2 H1 (Aft.refl a2.rel) _ ?_⟩
      rw [← h4.length]
      exact walk_list.mono (fun H hs => SqL.of (hs _ _ h3)) fun i H x H' _ _ y => YD.at h4 i H x H' y
  · rename_i ds
    cases hd with
    | tup h3 h4 =>
      refine .inr ⟨_, rfl, ⟨_, same_T a2.rel.fz h3⟩, h2 F2 H1 (Aft.refl a2.rel) _ ?_⟩
      rw [← h4.length]
      exact walk_tup.mono (fun H hs => same_T hs h3) fun i H x H' _ _ y => YD.at h4 i H x H' y
  · exact h2.elim
end
end Ev
set_option maxHeartbeats 1000000
/-! Ev23: range, enumerate, zip, texts: as data. -/
namespace Ev
open PySem PySem.Spec PyProof.Rows L2
variable [Tbi : Tabl]
section
variable {K : PySem.W.Frag} {mg : Str → Option Value} {E : XK} {X : Cx} {gd : List Nat} {a b c o e tg : Expr} {es : List Expr} {pos p q : Pos}
def argI (fs : M (List Rv)) (k : List PyData → Option (List PyData)) : M (List PyData) := M.bind fs fun rs => M.bind (asDs rs) fun ds => fun env => match k ds with
  | some xs => .ok xs env
  | none => .no
theorem argI_run {fs : M (List Rv)} {k : List PyData → Option (List PyData)} {σ : L2.St} {H : Hp} {R : It → Hp → Prop} (h : tI K mg E (argI fs k) σ H R) {R' : List V → Hp → Prop}
    (hr : ∀ F H vs ds xs, Same F H → DqAll K F vs ds → k ds = some xs → (∀ J, Walk J xs.length (fun H => Same F H) (YD K F xs) → R J H) → R' vs H) : tA K mg E fs σ H R' := by
  obtain ⟨W, F, env, rl, h⟩ := h
  refine ⟨W, F, env, rl, (post_bind h).imp fun rs env1 F1 H1 _ a1 h1 vs rv => ?_⟩
  obtain ⟨ds, env2, F2, a2, hd, h2⟩ := asDs_post a1.rel rv h1
  cases hk : k ds with
  | none => simp only [hk] at h2; exact h2.elim
  | some xs =>
    simp only [hk] at h2
    exact hr F2 H1 vs ds xs a2.rel.fz hd hk (h2 F2 H1 (Aft.refl a2.rel))
def smallI (i : Int) : Bool := decide (-(2 ^ 62) ≤ i ∧ i < 2 ^ 62)
def rng (lo c : Int) (n : Nat) : List PyData := (List.range n).map fun i => .int (lo + (i : Nat) * c)
theorem YD.rng {F : Hp} {lo c : Int} {n : Nat} : ∀ i H x H', i < n → YFn (fun i => .int (lo + (i : Nat) * c)) i H x H' → YD K F (rng lo c n) i H x H' := fun i H x H' hi ⟨e, hx⟩ =>
  ⟨.int (lo + (i : Nat) * c), by simp [Ev.rng, hi], .inl ⟨e, by rw [hx]; exact .int _⟩⟩
theorem rng_len {lo c : Int} {n : Nat} : (rng lo c n).length = n := by simp [rng]
def rngK1 : List PyData → Option (List PyData)
  | [.int j] => if smallI j = true then some (rng 0 1 j.toNat) else none
  | _ => none
def rngK2 : List PyData → Option (List PyData)
  | [.int i, .int j] => if smallI i = true ∧ smallI j = true then some (rng i 1 (j - i).toNat) else none
  | _ => none
def rngK3 : List PyData → Option (List PyData)
  | [.int i, .int j, .int c] => if c ≠ 0 ∧ c.natAbs < 1073741824 ∧ Builtin.Range.small i j c = true ∧ 0 ≤ Builtin.Range.rangeSize i j c then some (rng i c (Builtin.Range.rangeSize i j c).toNat) else none
  | _ => none
theorem walk_rng1 {F : Hp} {lo : Int} {n : Nat} : Walk (Itr lo n) (rng lo 1 n).length (fun H => Same F H) (YD K F (rng lo 1 n)) := by
  rw [rng_len]
  refine walk_range.mono (fun _ _ => True.intro) fun i H x H' hi _ y => YD.rng i H x H' hi ⟨y.1, ?_⟩
  rw [y.2]
  simp
theorem walk_rngC {F : Hp} {lo c : Int} {n : Nat} : Walk (Itc lo c n) (rng lo c n).length (fun H => Same F H) (YD K F (rng lo c n)) := by
  rw [rng_len]
  exact walk_rangeC.mono (fun _ _ => True.intro) fun i H x H' hi _ y => YD.rng i H x H' hi y
theorem di_range1 (hg : Gl X "range") (hm : X.mg "range" = none) {fs : M (List Rv)} (ha : PA X [a] (tA X.K mg E fs)) (hs : starEach [a] X.env = [(false, eval a X.env)]) : PI X tg (.Call (.Name "range" p) [a] [] pos) (tI X.K mg E (argI fs rngK1)) := by
  refine (pi_range1 hg hm ha hs).imp fun σ H R h => argI_run h fun F H vs ds xs fz hd hk hr => ?_
  unfold rngK1 at hk
  split at hk
  · rename_i j
    split at hk
    · rename_i hj
      cases hk
      have hj := of_decide_eq_true hj
      cases hd with
      | cons h1 h2 => cases h1; cases h2; exact ⟨j, rfl, hj.1, hj.2, hr _ walk_rng1⟩
    · cases hk
  · cases hk
theorem di_range2 (hg : Gl X "range") (hm : X.mg "range" = none) {fs : M (List Rv)} (ha : PA X [a, b] (tA X.K mg E fs)) (hs : starEach [a, b] X.env = [(false, eval a X.env), (false, eval b X.env)]) (hs2 : starEach [b] X.env = [(false, eval b X.env)]) : PI X tg (.Call (.Name "range" p) [a, b] [] pos) (tI X.K mg E (argI fs rngK2)) := by
  refine (pi_range2 hg hm ha hs hs2).imp fun σ H R h => argI_run h fun F H vs ds xs fz hd hk hr => ?_
  unfold rngK2 at hk
  split at hk
  · rename_i i j
    split at hk
    · rename_i hj
      cases hk
      have h1 := of_decide_eq_true hj.1
      have h2 := of_decide_eq_true hj.2
      cases hd with
      | cons q1 q2 => cases q1; cases q2 with
        | cons q1 q2 => cases q1; cases q2; exact ⟨i, j, rfl, ⟨h1.1, h1.2, h2.1, h2.2⟩, hr _ walk_rng1⟩
    · cases hk
  · cases hk
theorem di_range3 (hg : Gl X "range") (hm : X.mg "range" = none) {fs : M (List Rv)} (ha : PA X [a, b, c] (tA X.K mg E fs)) (hs : starEach [a, b, c] X.env = (false, eval a X.env) :: starEach [b, c] X.env) (hpl : (backTo pos (starEach [b, c] X.env)).any (·.1) = false) :
    PI X tg (.Call (.Name "range" p) [a, b, c] [] pos) (tI X.K mg E (argI fs rngK3)) := by
  refine (pi_range3 hg hm ha hs hpl).imp fun σ H R h => argI_run h fun F H vs ds xs fz hd hk hr => ?_
  unfold rngK3 at hk
  split at hk
  · rename_i i j c
    split at hk
    · rename_i hj
      cases hk
      cases hd with
      | cons q1 q2 => cases q1; cases q2 with
        | cons q1 q2 => cases q1; cases q2 with
          | cons q1 q2 => cases q1; cases q2; exact ⟨i, j, c, _, rfl, ⟨hj.1, hj.2.1, hj.2.2.1, (Int.toNat_of_nonneg hj.2.2.2).symm⟩, hr _ walk_rngC⟩
    · cases hk
  · cases hk
/-! ### new pairs -/
def enumD (i : Nat) : List PyData → List PyData
  | [] => []
  | d :: ds => .tuple [.int i, d] :: enumD (i + 1) ds
theorem enumD_get : ∀ (ds : List PyData) (i j : Nat), (enumD i ds)[j]? = (ds[j]?).map fun d => .tuple [.int ((i + j : Nat) : Int), d]
  | [], _, j => by simp [enumD]
  | d :: ds, i, 0 => by simp [enumD]
  | d :: ds, i, j + 1 => by
    rw [enumD, List.getElem?_cons_succ, enumD_get ds (i + 1) j, List.getElem?_cons_succ]
    have : i + 1 + j = i + (j + 1) := by omega
    rw [this]
theorem enumD_len : ∀ (ds : List PyData) (i : Nat), (enumD i ds).length = ds.length
  | [], _ => rfl
  | d :: ds, i => by rw [enumD, List.length_cons, enumD_len, List.length_cons]
def zipD : List PyData → List PyData → List PyData
  | a :: as, b :: bs => .tuple [a, b] :: zipD as bs
  | _, _ => []
theorem zipD_get : ∀ (as bs : List PyData) (j : Nat) (a b : PyData), as[j]? = some a → bs[j]? = some b → (zipD as bs)[j]? = some (.tuple [a, b])
  | [], _, j, a, b, h, _ => by simp at h
  | _ :: _, [], j, a, b, _, h => by simp at h
  | x :: as, y :: bs, 0, a, b, h1, h2 => by
    simp at h1 h2; subst h1 h2; simp [zipD]
  | x :: as, y :: bs, j + 1, a, b, h1, h2 => by
    rw [zipD, List.getElem?_cons_succ]
    exact zipD_get as bs j a b (by simpa using h1) (by simpa using h2)
theorem zipD_len : ∀ (as bs : List PyData), (zipD as bs).length = min as.length bs.length
  | [], bs => by simp [zipD]
  | _ :: _, [] => by simp [zipD]
  | x :: as, y :: bs => by simp only [zipD, List.length_cons, zipD_len as bs]; omega
def enumK : List PyData → Option (List PyData)
  | [.list ds] => some (enumD 0 ds)
  | [.tuple ds] => some (enumD 0 ds)
  | _ => none
def zipK : List PyData → Option (List PyData)
  | [.list as, .list bs] => some (zipD as bs)
  | [.tuple as, .tuple bs] => some (zipD as bs)
  | _ => none
theorem YD.pairE {F : Hp} {vs : List V} {ds : List PyData} (hd : DqAll K F vs ds) : ∀ i H x H', YPair (fun i => some (.int (i : Nat))) (fun i => vs[i]?) i H x H' → YD K F (enumD 0 ds) i H x H' := fun i H x H' ⟨T, u, w, h1, h2, h3, h4, h5⟩ => by
  obtain ⟨d, hd', q⟩ := hd.getV h5
  cases h4
  refine ⟨.tuple [.int (i : Nat), d], by rw [enumD_get, hd', Option.map_some]; simp, .inr ⟨T, _, _, h1, h2, h3, rfl, .cons (.int _) (.cons q .nil)⟩⟩
theorem YD.pairZ {F : Hp} {vs us : List V} {as bs : List PyData} (ha : DqAll K F vs as) (hb : DqAll K F us bs) : ∀ i H x H', YPair (fun i => vs[i]?) (fun i => us[i]?) i H x H' → YD K F (zipD as bs) i H x H' := fun i H x H' ⟨T, u, w, h1, h2, h3, h4, h5⟩ => by
  obtain ⟨d, hd, q⟩ := ha.getV h4
  obtain ⟨d', hd', q'⟩ := hb.getV h5
  exact ⟨.tuple [d, d'], zipD_get _ _ _ _ _ hd hd', .inr ⟨T, _, _, h1, h2, h3, rfl, .cons q (.cons q' .nil)⟩⟩
theorem di_enum {tpos : Pos} {elts : List Expr} {kk : Nat} (hg : Gl X "enumerate") (hm : X.mg "enumerate" = none) {fs : M (List Rv)} (ha : PA X [e] (tA X.K mg E fs)) (hs : starEach [e] X.env = [(false, eval e X.env)]) :
    PI X (.Tuple elts kk tpos) (.Call (.Name "enumerate" p) [e] [] pos) (tI X.K mg E (argI fs enumK)) := by
  refine (pi_enumA hg hm ha hs).imp fun σ H R h => argI_run h fun F H vs ds xs fz hd hk hr => ?_
  unfold enumK at hk
  split at hk
  · cases hk
    cases hd with
    | cons q1 q2 => cases q2; cases q1 with
      | lst h1 h2 =>
        refine ⟨_, _, rfl, .inl ⟨SqL.of (fz _ _ h1), hr _ ?_⟩⟩
        rw [enumD_len, ← h2.length]
        exact walk_enum.mono (fun H hs => SqL.of (hs _ _ h1)) fun i H x H' _ _ y => YD.pairE h2 i H x H' y
  · cases hk
    cases hd with
    | cons q1 q2 => cases q2; cases q1 with
      | tup h1 h2 =>
        refine ⟨_, _, rfl, .inr ⟨same_T fz h1, hr _ ?_⟩⟩
        rw [enumD_len, ← h2.length]
        exact walk_enumT.mono (fun H hs => same_T hs h1) fun i H x H' _ _ y => YD.pairE h2 i H x H' y
  · cases hk
theorem walk_zipT {a b : Addr} {xs ys : List V} : Walk (RZ.ItzT K a b) (min xs.length ys.length) (fun H => SqT K H a xs ∧ SqT K H b ys) (YPair (fun i => xs[i]?) (fun i => ys[i]?)) := by
  refine ⟨fun i _ hi q => ?_, fun _ q => ⟨xs, ys, q.1, q.2, by omega⟩, fun i H v H' _ q y => ?_⟩
  · have h1 : i < xs.length := by omega
    have h2 : i < ys.length := by omega
    exact ⟨xs, ys, xs[i], ys[i], q.1, q.2, by simp [h1], by simp [h2]⟩
  · obtain ⟨T, x, z, h1, h2, h3, h4, h5⟩ := y
    exact ⟨T, x, z, h1, h2, h3, h4 xs q.1, h5 ys q.2⟩
theorem di_zip {tpos : Pos} {elts : List Expr} {kk : Nat} (hg : Gl X "zip") (hm : X.mg "zip" = none) {fs : M (List Rv)} (ha : PA X [a, b] (tA X.K mg E fs)) (hs : starEach [a, b] X.env = (false, eval a X.env) :: starEach [b] X.env) (hpl : (backTo pos (starEach [b] X.env)).any (·.1) = false) :
    PI X (.Tuple elts kk tpos) (.Call (.Name "zip" p) [a, b] [] pos) (tI X.K mg E (argI fs zipK)) := by
  refine (RZ.pi_zipA hg hm ha hs hpl).imp fun σ H R h => argI_run h fun F H vs ds xs fz hd hk hr => ?_
  unfold zipK at hk
  split at hk
  · cases hk
    cases hd with
    | cons q1 q2 => cases q2 with
      | cons q2 q3 => cases q3; cases q1 with
        | lst h1 h2 => cases q2 with
          | lst h3 h4 =>
            refine ⟨_, _, _, _, rfl, .inl ⟨SqL.of (fz _ _ h1), SqL.of (fz _ _ h3), hr _ ?_⟩⟩
            rw [zipD_len, ← h2.length, ← h4.length]
            exact (walk_zip rfl).mono (fun H hs => ⟨SqL.of (hs _ _ h1), SqL.of (hs _ _ h3)⟩) fun i H x H' _ _ y => YD.pairZ h2 h4 i H x H' y
  · cases hk
    cases hd with
    | cons q1 q2 => cases q2 with
      | cons q2 q3 => cases q3; cases q1 with
        | tup h1 h2 => cases q2 with
          | tup h3 h4 =>
            refine ⟨_, _, _, _, rfl, .inr ⟨same_T fz h1, same_T fz h3, hr _ ?_⟩⟩
            rw [zipD_len, ← h2.length, ← h4.length]
            exact walk_zipT.mono (fun H hs => ⟨same_T hs h1, same_T hs h3⟩) fun i H x H' _ _ y => YD.pairZ h2 h4 i H x H' y
  · cases hk
end
end Ev
set_option maxHeartbeats 1000000
/-! Ev24: while without a bound; for. -/
namespace Ev
open PySem PySem.Spec PyProof.Rows L2
variable [Tbi : Tabl]
section
variable {K : PySem.W.Frag} {mg : Str → Option Value} {E : XK} {X : Cx} {gd : List Nat} {a b c o e tg iter : Expr} {es : List Expr} {pos p q : Pos} {body : List Stmt}
variable [Fg : FxG gd]
open Classical in
noncomputable def whileW (t : M Bool) (f : M Fl) : M Fl := fun env => if h : ∃ n, whileS t f n env ≠ .no then whileS t f (Classical.choose h) env else .no
theorem whileS_more {t : M Bool} {f : M Fl} : ∀ {n : Nat} {env : Env}, whileS t f n env ≠ .no → ∀ k, whileS t f (n + k) env = whileS t f n env
  | 0, env, h, k => absurd rfl h
  | n + 1, env, h, k => by
    have e : n + 1 + k = n + k + 1 := by omega
    rw [e]
    unfold whileS M.bind at h
    show M.bind t _ env = M.bind t _ env
    unfold M.bind
    cases ht : t env with
    | no => rfl
    | exc x env' => rfl
    | ok b env' =>
      rw [ht] at h
      cases b with
      | false => rfl
      | true =>
        simp only [cond] at h ⊢
        cases hf : f env' with
        | no => rfl
        | exc x env2 => rfl
        | ok fl env2 =>
          rw [hf] at h
          cases fl with
          | nx => exact whileS_more h k
          | ct => exact whileS_more h k
          | bk => rfl
          | rt r => rfl
theorem whileW_of {t : M Bool} {f : M Fl} {n : Nat} {env : Env} (h : whileS t f n env ≠ .no) : whileW t f env = whileS t f n env := by
  have hx : ∃ n, whileS t f n env ≠ .no := ⟨n, h⟩
  have e : whileW t f env = whileS t f (Classical.choose hx) env := dif_pos hx
  rw [e]
  have h2 := Classical.choose_spec hx
  rcases Nat.le_total n (Classical.choose hx) with l | l
  · obtain ⟨k, e2⟩ := Nat.exists_eq_add_of_le l
    rw [e2]; exact whileS_more h k
  · obtain ⟨k, e2⟩ := Nat.exists_eq_add_of_le l
    have := whileS_more h2 k
    rw [← e2] at this
    exact this.symm
def whileB (t : M Bool) (f w : M Fl) : M Fl := M.bind t fun b => cond b (fun env => match f env with
    | .ok .nx env' => w env'
    | .ok .ct env' => w env'
    | .ok .bk env' => .ok .nx env'
    | o => o) skipS
theorem whileW_eq {t : M Bool} {f : M Fl} (env : Env) : whileW t f env = whileB t f (whileW t f) env := by
  have step : ∀ n, (∀ env', whileS t f n env' ≠ .no → whileW t f env' = whileS t f n env') → whileS t f (n + 1) env ≠ .no → whileB t f (whileW t f) env = whileS t f (n + 1) env := fun n ih h => by
    unfold whileS at h ⊢
    unfold whileB
    unfold M.bind at h ⊢
    cases ht : t env with
    | no => rfl
    | exc x env' => rfl
    | ok b env' =>
      rw [ht] at h
      cases b with
      | false => rfl
      | true =>
        simp only [cond] at h ⊢
        cases hf : f env' with
        | no => rfl
        | exc x env2 => rfl
        | ok fl env2 =>
          rw [hf] at h
          cases fl with
          | nx => exact ih _ h
          | ct => exact ih _ h
          | bk => rfl
          | rt r => rfl
  by_cases hx : ∃ n, whileS t f n env ≠ .no
  · obtain ⟨n, h⟩ := hx
    rw [whileW_of h]
    cases n with
    | zero => exact absurd rfl h
    | succ n => exact (step n (fun env' h' => whileW_of h') h).symm
  · have e : whileW t f env = .no := dif_neg hx
    rw [e]
    -- the right side would be reached in one step more
    refine Classical.byContradiction fun hne => ?_
    have hne : whileB t f (whileW t f) env ≠ .no := fun z => hne z.symm
    unfold whileB M.bind at hne
    cases ht : t env with
    | no => rw [ht] at hne; exact hne rfl
    | exc x env' => exact hx ⟨1, by unfold whileS M.bind; rw [ht]; exact fun z => nomatch z⟩
    | ok b env' =>
      rw [ht] at hne
      cases b with
      | false => exact hx ⟨1, by unfold whileS M.bind; rw [ht]; exact fun z => nomatch z⟩
      | true =>
        simp only [cond] at hne
        have go : ∀ env2, (f env' = .ok .nx env2 ∨ f env' = .ok .ct env2) → whileW t f env2 ≠ .no → False := fun env2 hf hw => by
          have hx2 : ∃ n, whileS t f n env2 ≠ .no := Classical.byContradiction fun hn => hw (dif_neg hn)
          obtain ⟨n, hn⟩ := hx2
          refine hx ⟨n + 1, ?_⟩
          unfold whileS M.bind
          rw [ht]
          simp only [cond]
          rcases hf with hf | hf
          · rw [hf]; exact hn
          · rw [hf]; exact hn
        cases hf : f env' with
        | no => rw [hf] at hne; exact hne rfl
        | exc x env2 => exact hx ⟨1, by unfold whileS M.bind; rw [ht]; simp only [cond]; rw [hf]; exact fun z => nomatch z⟩
        | ok fl env2 =>
          cases fl with
          | nx => rw [hf] at hne; exact go _ (.inl hf) hne
          | ct => rw [hf] at hne; exact go _ (.inr hf) hne
          | bk => exact hx ⟨1, by unfold whileS M.bind; rw [ht]; simp only [cond]; rw [hf]; exact fun z => nomatch z⟩
          | rt r => exact hx ⟨1, by unfold whileS M.bind; rw [ht]; simp only [cond]; rw [hf]; exact fun z => nomatch z⟩
theorem ds_whileW {t : M Bool} {f : M Fl} (hp : PassesOwn (model X.prog X.w) X.A X.env X.xe) (hc : PT X c (tT K mg E t)) (hb : PSs X body (tS K mg E gd f)) :
    PS X (.While c body [] pos) (tS K mg E gd (whileW t f)) := by
  refine ⟨fun pins s σ H D I h => ?_⟩
  obtain ⟨W, F, env, rl, h⟩ := h
  by_cases hx : ∃ n, whileS t f n env ≠ .no
  · have e : whileW t f env = whileS t f (Classical.choose hx) env := dif_pos hx
    rw [e] at h
    exact (ds_while (Classical.choose hx) hp hc hb).run pins s σ H D I ⟨W, F, env, rl, h⟩
  · have e : whileW t f env = .no := dif_neg hx
    rw [e] at h
    exact h.elim
/-! ### for -/
def forL (gd : List Nat) (t : Tg) (f : M Fl) : List PyData → M Fl
  | [] => skipS
  | d :: ds => fun env => match asgT gd t d env with
    | none => .no
    | some env1 => match f env1 with
      | .ok .nx env2 => forL gd t f ds env2
      | .ok .ct env2 => forL gd t f ds env2
      | .ok .bk env2 => .ok .nx env2
      | o => o
def forS (gd : List Nat) (m : M (List PyData)) (t : Tg) (f : M Fl) : M Fl := M.bind m (forL gd t f)
/-- at a turn: the item, whether it is one of the heap or a new tuple -/
theorem yd_step {W : Addr → Prop} {σ : L2.St} {F0 F H H' : Hp} {env : Env} {ds : List PyData} {i : Nat} {x : V} (rl : Rel K W F H σ env) (s0 : Same F0 F) (y : YD K F0 ds i H x H') :
    ∃ d F', ds[i]? = some d ∧ Aft K W σ env F H env F' H' ∧ Dq K F' x d := by
  obtain ⟨d, hd, ⟨rfl, q⟩ | ⟨T, xs, es, rfl, hT, rfl, rfl, q⟩⟩ := y
  · exact ⟨d, F, hd, Aft.refl rl, Dq.mono s0 q⟩
  · have a := aft_data (o := .tup xs) rl hT
    exact ⟨_, _, hd, a, .tup (SqT.of upd_same) (DqAll.mono (s0.trans a.same) q)⟩
theorem ds_for {m : M (List PyData)} {t : Tg} {f : M Fl} (hp : PassesOwn (model X.prog X.w) X.A X.env X.xe) (hc : X.calm = true) (hi : PI X tg iter (tI K mg E m)) (hg : PG X tg (tG K gd t)) (hb : PSs X body (tS K mg E gd f))
    (hs : ∀ x, foldedSetIterable iter X.env x = pure x) : PS X (.For tg iter body [] pos) (tS K mg E gd (forS gd m t f)) := by
  refine (ps_for hp hc hi hg hb hs).imp fun D σ H ⟨W, F, env, rl, h⟩ => ⟨W, F, env, rl, (postS_bind h).imp fun ds env1 F1 H1 _ a1 h1 J w => ?_⟩
  refine for_it w (fun i σ' H' => ∃ F' env', Rel K W F' H' σ' env' ∧ Same F1 F' ∧ postS K mg E gd W σ' env' F' H' (forL gd t f (ds.drop i) env') D) ⟨F1, env1, a1.rel, Same.refl _, h1⟩
    (fun i σ' H' _ ⟨F', env', rl', s', _⟩ => s'.trans rl'.fz) (fun i x σ' H' H'' hi ⟨F', env', rl', s', h'⟩ y => ?_) (fun σ' H' ⟨F', env', rl', s', h'⟩ => ?_)
  · obtain ⟨d, F2, hd, a2, hq⟩ := yd_step rl' s' y
    rw [List.drop_eq_getElem_cons hi] at h'
    have e : ds[i] = d := by rw [List.getElem?_eq_getElem hi] at hd; exact Option.some.inj hd
    rw [e] at h'
    unfold forL at h'
    cases hA : asgT gd t d env' with
    | none => simp only [hA] at h'; exact h'.elim
    | some env2 =>
      simp only [hA] at h'
      refine ⟨W, F2, env', d, env2, a2.rel, hq, hA, fun σ2 F3 H3 a3 => ⟨W, F3, env2, a3.rel, ?_⟩⟩
      have h2 := postS.from ((SAft.of a2).trans a3) h'
      have s2 : Same F1 F3 := s'.trans (a2.same.trans a3.same)
      cases hf : f env2 with
      | no => rw [hf] at h2; exact h2.elim
      | exc x env3 => rw [hf] at h2; exact h2
      | ok fl env3 =>
        rw [hf] at h2
        cases fl with
        | nx => exact fun σ4 F4 H4 a4 => ⟨F4, env3, a4.rel, s2.trans a4.same, postS.from a4 h2⟩
        | ct => exact fun σ4 F4 H4 a4 => ⟨F4, env3, a4.rel, s2.trans a4.same, postS.from a4 h2⟩
        | bk => exact h2
        | rt r => exact h2
  · rw [List.drop_eq_nil_of_le (Nat.le_refl _)] at h'
    exact h' σ' F' H' (SAft.refl rl')
end
end Ev
set_option maxHeartbeats 1000000
/-! Ev25: comprehensions. -/
namespace Ev
open PySem PySem.Spec PyProof.Rows L2
variable [Tbi : Tabl]
/-! ### the block's own slots -/
def wipeE (env : Env) : List Nat → Env
  | [] => env
  | v :: vs => (wipeE env vs).set v none
def restE (env0 env : Env) : List Nat → Env
  | [] => env
  | v :: vs => (restE env0 env vs).set v (env0[v]?).join
theorem wipeE_len {env : Env} : ∀ vs : List Nat, (wipeE env vs).length = env.length
  | [] => rfl
  | v :: vs => by unfold wipeE; rw [List.length_set, wipeE_len vs]
theorem restE_len {env0 env : Env} : ∀ vs : List Nat, (restE env0 env vs).length = env.length
  | [] => rfl
  | v :: vs => by unfold restE; rw [List.length_set, restE_len vs]
theorem wipeE_out {env : Env} {i : Nat} : ∀ {vs : List Nat}, i ∉ vs → (wipeE env vs)[i]? = env[i]?
  | [], _ => rfl
  | v :: vs, h => by
    unfold wipeE
    rw [List.getElem?_set_ne (fun e => h (by simp [e])), wipeE_out (fun z => h (List.mem_cons_of_mem _ z))]
theorem wipeE_in {env : Env} {i : Nat} {r : Option R} : ∀ {vs : List Nat}, i ∈ vs → (wipeE env vs)[i]? = some r → r = none
  | [], h, _ => by cases h
  | v :: vs, h, e => by
    unfold wipeE at e
    by_cases hv : v = i
    · subst hv
      have hl : v < ((wipeE env vs).set v none).length := (List.getElem?_eq_some_iff.mp e).1
      rw [List.length_set] at hl
      rw [List.getElem?_set_self hl] at e
      exact (Option.some.inj e).symm
    · rw [List.getElem?_set_ne hv] at e
      rcases List.mem_cons.mp h with z | z
      · exact absurd z.symm hv
      · exact wipeE_in z e
theorem wipe_in {σ : L2.St} {i : Nat} {r : Option V} : ∀ {vs : List Nat}, i ∈ vs → (wipe σ vs)[i]? = some r → r = none
  | [], h, _ => by cases h
  | v :: vs, h, e => by
    unfold wipe at e
    by_cases hv : v = i
    · subst hv
      have hl : v < ((wipe σ vs).set v none).length := (List.getElem?_eq_some_iff.mp e).1
      rw [List.length_set] at hl
      rw [List.getElem?_set_self hl] at e
      exact (Option.some.inj e).symm
    · rw [List.getElem?_set_ne hv] at e
      rcases List.mem_cons.mp h with z | z
      · exact absurd z.symm hv
      · exact wipe_in z e
theorem restE_out {env0 env : Env} {i : Nat} : ∀ {vs : List Nat}, i ∉ vs → (restE env0 env vs)[i]? = env[i]?
  | [], _ => rfl
  | v :: vs, h => by
    unfold restE
    rw [List.getElem?_set_ne (fun e => h (by simp [e])), restE_out (fun z => h (List.mem_cons_of_mem _ z))]
theorem restE_in {env0 env : Env} {i : Nat} (hl : env.length = env0.length) : ∀ {vs : List Nat}, i ∈ vs → (restE env0 env vs)[i]? = env0[i]?
  | [], h => by cases h
  | v :: vs, h => by
    unfold restE
    by_cases hv : v = i
    · subst hv
      by_cases hi : v < env0.length
      · rw [List.getElem?_set_self (by rw [restE_len, hl]; exact hi), List.getElem?_eq_getElem hi]
        rfl
      · rw [List.getElem?_eq_none_iff.mpr (by rw [List.length_set, restE_len, hl]; omega), List.getElem?_eq_none_iff.mpr (by omega)]
    · rw [List.getElem?_set_ne hv]
      rcases List.mem_cons.mp h with z | z
      · exact absurd z.symm hv
      · exact restE_in hl z
theorem wipe_out' {σ : L2.St} {i : Nat} : ∀ {vs : List Nat}, i ∉ vs → (wipe σ vs)[i]? = σ[i]?
  | [], _ => rfl
  | v :: vs, h => by
    unfold wipe
    rw [List.getElem?_set_ne (fun e => h (by simp [e])), wipe_out' (fun z => h (List.mem_cons_of_mem _ z))]
def outer (n : Nat) (vs : List Nat) : List Nat := (List.range n).filter fun i => !vs.contains i
theorem mem_outer {n i : Nat} {vs : List Nat} : i ∈ outer n vs ↔ i < n ∧ i ∉ vs := by simp [outer]
section
variable {K : PySem.W.Frag} {mg : Str → Option Value} {E : XK} {X : Cx} {gd : List Nat} {a b c o e tg iter elt : Expr} {es ifs : List Expr} {pos p q : Pos} {body : List Stmt}
theorem rel_wipe {W : Addr → Prop} {σ : L2.St} {F H : Hp} {env : Env} (rl : Rel K W F H σ env) (vs : List Nat) (hfx : ∀ j ∈ Tbi.fx, j ∉ vs) : Rel K W F H (wipe σ vs) (wipeE env vs) := by
  have own : ∀ i p, Own (wipe σ vs) (wipeE env vs) i p → Own σ env i p := fun i p ⟨e1, c, e2⟩ => by
    by_cases hi : i ∈ vs
    · exact absurd (wipeE_in hi e2) (by simp)
    · rw [wipe_out' hi] at e1
      rw [wipeE_out hi] at e2
      exact ⟨e1, c, e2⟩
  refine ⟨by rw [wipe_length, wipeE_len]; exact rl.len, rl.fz, rl.fw, fun i x r h1 h2 => ?_, fun i j p o1 o2 => rl.ds i j p (own i p o1) (own j p o2), rl.tb, fun j hj => by rw [wipe_out' (hfx j hj)]; exact rl.fn j hj, rl.tf⟩
  by_cases hi : i ∈ vs
  · have e := wipeE_in hi h2
    subst e
    cases x <;> exact True.intro
  · rw [wipe_out' hi] at h1
    rw [wipeE_out hi] at h2
    exact rl.sl i x r h1 h2
theorem saft_wipe {W : Addr → Prop} {σ : L2.St} {F H : Hp} {env : Env} (rl : Rel K W F H σ env) (vs : List Nat) (hfx : ∀ j ∈ Tbi.fx, j ∉ vs) {n : Nat} : SAft K (outer n vs) W σ env F H (wipe σ vs) (wipeE env vs) F H :=
  ⟨wipeE_len vs, Same.refl _, fun _ _ => rfl, rel_wipe rl vs hfx, fun i hi => by
    have hi := (mem_outer.mp hi).2
    exact ⟨wipe_out' hi, fun r h => ⟨r, by rw [wipeE_out hi]; exact h, SLe.refl r⟩⟩⟩
def lcL (n : Nat) (vs : List Nat) (t : Tg) (c : M Bool) (f : M Rv) : List PyData → List PyData → M (List PyData)
  | [], acc => M.ret acc
  | d :: ds, acc => fun env => match asgT (outer n vs) t d (wipeE env vs) with
    | none => .no
    | some env1 => match c env1 with
      | .ok true env2 => match M.bind f asD env2 with
        | .ok y env3 => if acc.length < sizeLine then lcL n vs t c f ds (acc ++ [y]) env3 else .no
        | _ => .no
      | .ok false env2 => lcL n vs t c f ds acc env2
      | _ => .no
def clean (vs : List Nat) (env : Env) : Bool := vs.all fun v => match env[v]? with
  | some (some (.c _)) => false
  | _ => true
def lcM (m : M (List PyData)) (vs : List Nat) (t : Tg) (c : M Bool) (f : M Rv) : M Rv := M.bind m fun ds env0 => if clean vs env0 = true then match lcL env0.length vs t c f ds [] env0 with
    | .ok ys env' => .ok (.n (.l ys)) (restE env0 env' vs)
    | _ => .no
  else .no
def noE : XK := fun _ _ _ => False
theorem aft_rest {W W' : Addr → Prop} {σ σ' : L2.St} {env env' : Env} {F F' H H' : Hp} {vs : List Nat} (rl : Rel K W F H σ env) (hw : ∀ a, W a → W' a) (hc : clean vs env = true)
    {H1 : Hp} (hk : ∀ a, W a → H1 a = H a) (a : SAft K (outer env.length vs) W' (wipe σ vs) (wipeE env vs) F H1 σ' env' F' H') : Aft K W σ env F H (restE env env' vs) F' H' := by
  have hl : env'.length = env.length := a.len.trans (wipeE_len vs)
  have out : ∀ {i : Nat}, i < env.length → i ∉ vs → σ'[i]? = σ[i]? ∧ ∀ r, env[i]? = some r → ∃ r', env'[i]? = some r' ∧ SLe r r' := fun {i} hi hv => by
    have q := a.gds i (mem_outer.mpr ⟨hi, hv⟩)
    rw [wipe_out' hv, wipeE_out hv] at q
    exact q
  have own : ∀ i p, Own σ (restE env env' vs) i p → i ∉ vs ∧ Own σ' env' i p := fun i p ⟨e1, c, e2⟩ => by
    have hi : i < env.length := by
      have := (List.getElem?_eq_some_iff.mp e2).1
      rw [restE_len, hl] at this
      exact this
    by_cases hv : i ∈ vs
    · rw [restE_in hl hv] at e2
      have := List.all_eq_true.mp hc i hv
      rw [e2] at this
      cases this
    · rw [restE_out hv] at e2
      exact ⟨hv, by rw [(out hi hv).1]; exact e1, c, e2⟩
  refine ⟨⟨(restE_len vs).trans hl, fun i r h => ?_⟩, a.same, fun x hx => (a.keep x (hw x hx)).trans (hk x hx), ⟨by rw [restE_len, hl]; exact rl.len, a.rel.fz, fun x hx => a.rel.fw x (hw x hx), fun i x r h1 h2 => ?_, fun i j p o1 o2 => a.rel.ds i j p (own i p o1).2 (own j p o2).2, a.rel.tb, rl.fn, a.rel.tf⟩⟩
  · have hi : i < env.length := (List.getElem?_eq_some_iff.mp h).1
    by_cases hv : i ∈ vs
    · exact ⟨r, by rw [restE_in hl hv]; exact h, SLe.refl r⟩
    · rw [restE_out hv]; exact (out hi hv).2 r h
  · have hi : i < env.length := by rw [← rl.len]; exact (List.getElem?_eq_some_iff.mp h1).1
    by_cases hv : i ∈ vs
    · rw [restE_in hl hv] at h2
      have q := rl.sl i x r h1 h2
      match x, r, q with
      | _, none, _ => exact True.intro
      | some v, some (.d x), q => exact Dq.mono a.same q
      | some v, some (.s x), q => obtain ⟨p, e, hq⟩ := q; exact ⟨p, e, a.same.seq hq⟩
      | some v, some (.c d), q =>
        have := List.all_eq_true.mp hc i hv
        rw [h2] at this
        cases this
    · rw [restE_out hv] at h2
      rw [← (out hi hv).1] at h1
      have q := a.rel.sl i x r h1 h2
      match x, r, q with
      | _, none, _ => exact True.intro
      | some v, some (.d x), q => exact q
      | some v, some (.s x), q => exact q
      | some v, some (.c d), ⟨q, o, e, hq, hc, hf', hw'⟩ => exact ⟨q, o, e, hq, hc, hf', fun z => hw' (hw _ z)⟩
end
end Ev
set_option maxHeartbeats 1000000
/-! Ev26: a comprehension of one clause. -/
namespace Ev
open PySem PySem.Spec PyProof.Rows L2
variable [Tbi : Tabl]
section
variable {K : PySem.W.Frag} {mg : Str → Option Value} {E : XK} {X : Cx} {gd : List Nat} {a b c o e tg iter elt : Expr} {es ifs : List Expr} {pos p q : Pos} {body : List Stmt}
theorem dts_nil : PTs X [] (tT K mg E (M.ret true)) := by
  have h : PTs X [] tYes := pts_nil
  exact ⟨fun pins s σ H Q I hw => h.run pins s σ H Q I (by obtain ⟨W, F, env, rl, h⟩ := hw; exact h F H (Aft.refl rl))⟩
theorem dts_one {t : M Bool} (h : PT X c (tT K mg E t)) : PTs X [c] (tT K mg E t) := pts_one h
theorem post_noE {α : Type} {W : Addr → Prop} {σ : L2.St} {F H : Hp} {env : Env} {o : Out α} {Q : α → Env → Hp → Hp → Prop} (h : ∃ x env', o = .ok x env') (k : ∀ x env' F' H', o = .ok x env' → Aft K W σ env F H env' F' H' → Q x env' F' H') : post K mg noE W σ env F H o Q := by
  obtain ⟨x, env', rfl⟩ := h
  exact fun F' H' a => k x env' F' H' rfl a
theorem rel_updW {W : Addr → Prop} {σ : L2.St} {F H : Hp} {env : Env} (rl : Rel K W F H σ env) {p : Addr} {o : HO} {xs : List V} (hx : H p = some (.lst xs)) (hp : W p) (ho : isTup o = false) : Rel K W F (upd H p o) σ env := by
  have hf := (rl.fw p hp).1
  refine ⟨rl.len, fun a u e => by rw [upd_ne (ne_of_none e hf)]; exact rl.fz a u e, fun a ha => ⟨(rl.fw a ha).1, ?_⟩, fun i x r h1 h2 => ?_, rl.ds, tabs_lst rl.tb hx, rl.fn, rl.tf⟩
  · by_cases e : a = p
    · subst e; exact ⟨o, upd_same, ho⟩
    · rw [upd_ne e]; exact (rl.fw a ha).2
  · have q := rl.sl i x r h1 h2
    match x, r, q with
    | _, none, _ => exact True.intro
    | some v, some (.d x), q => exact q
    | some v, some (.s x), q => exact q
    | some v, some (.c d), ⟨q, o, e, hq, hc, hf', hw'⟩ =>
      exact ⟨q, o, e, by rw [upd_ne (fun z => hw' (by rw [z]; exact hp))]; exact hq, hc, hf', hw'⟩
theorem SAft.less {W W' : Addr → Prop} {σ σ' : L2.St} {env env' : Env} {F F' H H' : Hp} (a : SAft K gd W' σ env F H σ' env' F' H') (h : ∀ a, W a → W' a) : SAft K gd W σ env F H σ' env' F' H' :=
  ⟨a.len, a.same, fun x hx => a.keep x (h x hx), a.rel.less h, a.gds⟩
theorem saft_upd {W : Addr → Prop} {σ σ' : L2.St} {env env' : Env} {F F' H H' : Hp} {D : Addr} {o : HO} (a : SAft K gd W σ env F H σ' env' F' H') (hD : ¬ W D) (rl : Rel K W F' (upd H' D o) σ' env') : SAft K gd W σ env F H σ' env' F' (upd H' D o) :=
  ⟨a.len, a.same, fun x hx => by rw [upd_ne (fun e => hD (by rw [← e]; exact hx))]; exact a.keep x hx, rl, a.gds⟩
theorem wipe_same {σ σ4 : L2.St} {vs : List Nat} {n : Nat} (hn : σ.length ≤ n) (hlen : σ4.length = (wipe σ vs).length) (h : ∀ j ∈ outer n vs, σ4[j]? = (wipe σ vs)[j]?) : wipe σ4 vs = wipe σ vs := by
  refine List.ext_getElem? fun j => ?_
  by_cases hj : j ∈ vs
  · by_cases hjl : j < σ.length
    · have h1 : j < (wipe σ4 vs).length := by rw [wipe_length, hlen, wipe_length]; exact hjl
      have h2 : j < (wipe σ vs).length := by rw [wipe_length]; exact hjl
      rw [List.getElem?_eq_getElem h1, List.getElem?_eq_getElem h2]
      have e1 := wipe_in hj (List.getElem?_eq_getElem h1)
      have e2 := wipe_in hj (List.getElem?_eq_getElem h2)
      rw [e1, e2]
    · rw [List.getElem?_eq_none_iff.mpr (by rw [wipe_length, hlen, wipe_length]; omega), List.getElem?_eq_none_iff.mpr (by rw [wipe_length]; omega)]
  · rw [wipe_out' hj]
    by_cases hjl : j < n
    · exact h j (mem_outer.mpr ⟨hjl, hj⟩)
    · rw [List.getElem?_eq_none_iff.mpr (by rw [hlen, wipe_length]; omega), List.getElem?_eq_none_iff.mpr (by rw [wipe_length]; omega)]
theorem lc_run {m : M (List PyData)} {vs : List Nat} {t : Tg} {c : M Bool} {f : M Rv} {σ : L2.St} {H : Hp} {Q : VK} (hfx : ∀ j ∈ Tbi.fx, j ∉ vs) (h : tE K mg E (lcM m vs t c f) σ H Q) :
    tLc (tI K mg E m) (tG K (outer σ.length vs) t) (tT K mg noE c) (tE K mg noE f) vs σ H Q := by
  obtain ⟨W, F, env, rl, h⟩ := h
  refine ⟨W, F, env, rl, (post_bind h).imp fun ds env1 F1 H1 _ a1 h1 J w D hD => ?_⟩
  by_cases hc : clean vs env1 = true
  · simp only [hc, if_true] at h1
    cases hl : lcL env1.length vs t c f ds [] env1 with
    | no => rw [hl] at h1; exact h1.elim
    | exc x env' => rw [hl] at h1; exact h1.elim
    | ok ys envE =>
      rw [hl] at h1
      have el : σ.length = env1.length := a1.rel.len
      rw [el]
      -- the new list is nobody's
      have an : Aft K W σ env1 F1 H1 env1 F1 (upd H1 D (.lst [])) := aft_new a1.rel hD
      have hfD : F1 D = none := a1.rel.free hD
      have hwD : ¬ W D := a1.rel.notW hD
      have rD : Rel K (fun a => W a ∨ a = D) F1 (upd H1 D (.lst [])) σ env1 := an.rel.more hfD ⟨_, upd_same, rfl⟩ fun i z => a1.rel.notOwn hD i z
      have h00 : SAft K (outer env1.length vs) W (wipe σ vs) (wipeE env1 vs) F1 (upd H1 D (.lst [])) σ env1 F1 (upd H1 D (.lst [])) := by
        refine ⟨(wipeE_len vs).symm, Same.refl _, fun _ _ => rfl, an.rel, fun i hi => ?_⟩
        have hi := (mem_outer.mp hi).2
        exact ⟨(wipe_out' hi).symm, fun r h => ⟨r, by rw [wipeE_out hi] at h; exact h, SLe.refl r⟩⟩
      refine lc_it w (fun i H' => ∃ F' σ' env' acc accd, SAft K (outer env1.length vs) W (wipe σ vs) (wipeE env1 vs) F1 (upd H1 D (.lst [])) σ' env' F' H' ∧ Rel K (fun a => W a ∨ a = D) F' H' σ' env' ∧ wipe σ' vs = wipe σ vs ∧ H' D = some (.lst acc) ∧ DqAll K F' acc accd ∧
          lcL env1.length vs t c f (ds.drop i) accd env' = .ok ys envE) ⟨F1, σ, env1, [], [], h00, rD, rfl, upd_same, .nil, hl⟩ (fun i H' _ ⟨F', σ', env', acc, accd, a, _⟩ => a.same.trans a.rel.fz) ?_ ?_
      · rintro i x H2 H3 hi ⟨F2, σ2, env2, acc, accd, a2, r2, hw2, hDa, hacc, hL⟩ y
        have rw2 := rel_wipe r2 vs hfx
        rw [hw2] at rw2
        have a2' := a2.trans (saft_wipe a2.rel vs hfx)
        rw [hw2] at a2'
        obtain ⟨d, F3, hd, a3, hq⟩ := yd_step rw2 a2.same y
        rw [List.drop_eq_getElem_cons hi] at hL
        have e : ds[i] = d := by rw [List.getElem?_eq_getElem hi] at hd; exact Option.some.inj hd
        rw [e] at hL
        unfold lcL at hL
        cases hA : asgT (outer env1.length vs) t d (wipeE env2 vs) with
        | none => simp only [hA] at hL; exact nomatch hL
        | some env4 =>
          simp only [hA] at hL
          refine ⟨_, F3, wipeE env2 vs, d, env4, a3.rel, hq, hA, fun σ4 F4 H4 a4 => ?_⟩
          have hw4 : wipe σ4 vs = wipe σ vs := wipe_same (by omega) (by rw [a4.rel.len, a4.len, a3.rel.len]) fun j hj => (a4.gds j hj).1
          refine ⟨hw4, ?_⟩
          have aa := a2'.trans (((SAft.of a3).less fun _ => .inl).trans (a4.less fun _ => .inl))
          refine ⟨_, F4, env4, a4.rel, ?_⟩
          cases hb : c env4 with
          | no => simp only [hb] at hL; exact nomatch hL
          | exc x env5 => simp only [hb] at hL; exact nomatch hL
          | ok b env5 =>
            simp only [hb] at hL
            intro F5 H5 a5
            have aa5 := aa.trans ((SAft.of a5).less fun _ => .inl)
            have hD5 : H5 D = some (.lst acc) := (a5.keep D (.inr rfl)).trans ((a4.keep D (.inr rfl)).trans ((a3.keep D (.inr rfl)).trans hDa))
            have hacc5 : DqAll K F5 acc accd := DqAll.mono (a3.same.trans (a4.same.trans a5.same)) hacc
            cases b with
            | false =>
              simp only [Bool.false_eq_true, if_false]
              exact ⟨F5, σ4, env5, acc, accd, aa5, a5.rel, hw4, hD5, hacc5, hL⟩
            | true =>
              simp only [if_true]
              simp only at hL
              cases hf : M.bind f asD env5 with
              | no => simp only [hf] at hL; exact nomatch hL
              | exc x env6 => simp only [hf] at hL; exact nomatch hL
              | ok yd env6 =>
                simp only [hf] at hL
                split at hL
                · rename_i hz
                  refine ⟨_, F5, env5, a5.rel, ?_⟩
                  have hp : post K mg noE (fun a => W a ∨ a = D) σ4 env5 F5 H5 (M.bind f asD env5) (fun x env' F' H' => x = yd ∧ env' = env6) := post_noE ⟨yd, env6, hf⟩ fun x env' F' H' e _ => by
                    rw [hf] at e; cases e; exact ⟨rfl, rfl⟩
                  refine (post_bind hp).imp fun r env7 F7 H7 _ a7 h7 v rv => ?_
                  rcases asD_run a7.rel rv with e | ⟨d', env8, F8, e, a8, hq8⟩
                  · rw [e] at h7; exact h7.elim
                  · rw [e] at h7
                    obtain ⟨e1, e2⟩ := h7 F8 H7 a8
                    subst e1 e2
                    have hD7 : H7 D = some (.lst acc) := (a7.keep D (.inr rfl)).trans hD5
                    have aa8 := aa5.trans (((SAft.of a7).trans (SAft.of a8)).less fun _ => .inl)
                    have r9 : Rel K (fun a => W a ∨ a = D) F8 (upd H7 D (.lst (acc ++ [v]))) σ4 env8 := rel_updW a8.rel hD7 (.inr rfl) rfl
                    exact ⟨acc, hD7, by rw [hacc.length]; exact hz, F8, σ4, env8, acc ++ [v], accd ++ [d'], saft_upd aa8 hwD (r9.less fun _ => .inl), r9, hw4, upd_same, DqAll.append (DqAll.mono (a7.same.trans a8.same) hacc5) (.cons hq8 .nil), hL⟩
                · exact nomatch hL
      · rintro H2 ⟨F2, σ2, env2, acc, accd, a2, r2, hw2, hDa, hacc, hL⟩
        rw [List.drop_eq_nil_of_le (Nat.le_refl _)] at hL
        cases hL
        have af := aft_rest (W' := W) an.rel (fun a => id) hc (fun _ _ => rfl) a2
        exact h1 F2 H2 (an.trans af) (.ref D) ⟨D, .lst acc, rfl, hDa, hacc, (r2.fw D (.inr rfl)).1, hwD, fun i z => a1.rel.notOwn hD i (af.le.own z)⟩
  · simp only [hc] at h1; exact h1.elim
section
variable {scope : Scope} {own : List (Str × Nat)} {m : M (List PyData)} {t : Tg} {cc : M Bool} {f : M Rv}
theorem fxg_outer {σ : L2.St} {vs : List Nat} {P : (Addr → Prop) → Hp → Env → Prop} {H : Hp} (hfx : ∀ j ∈ Tbi.fx, j ∉ vs) (h : ∃ W F env, Rel K W F H σ env ∧ P W F env) : FxG (outer σ.length vs) := by
  obtain ⟨W, F, env, rl, _⟩ := h
  exact ⟨fun j hj => mem_outer.mpr ⟨(List.getElem?_eq_some_iff.mp (rl.fn j hj)).1, hfx j hj⟩⟩
theorem de_lc (hfx : ∀ j ∈ Tbi.fx, j ∉ own.map (·.2)) (hc : X.calm = true) (hN : X.N.Nodup) (hi : PI X tg iter (tI X.K mg E m)) (ok : BlkOk X.N X.env.scope scope own)
    (hg : ∀ (s : Shared) (H : Hp) (C : Addr) (cl : List (Str × Addr)) (fp : List Addr) (gd : List Nat) [FxG gd], PG (X.blk s H scope (compEnvC scope cl C X.env) fp) tg (tG X.K gd t)) (ht : ∀ (s : Shared) (H : Hp) (C : Addr) (cl : List (Str × Addr)) (fp : List Addr), PTs (X.blk s H scope (compEnvC scope cl C X.env) fp) ifs (tT X.K mg noE cc))
    (he : ∀ (s : Shared) (H : Hp) (C : Addr) (cl : List (Str × Addr)) (fp : List Addr), PE (X.blk s H scope (compEnvC scope cl C X.env) fp) elt (tE X.K mg noE f)) (hs : ∀ x, foldedSetIterable iter X.env x = pure x) :
    PE X (.ListComp elt [⟨tg, iter, ifs, 0⟩] scope pos) (tE X.K mg E (lcM m (own.map (·.2)) t cc f)) :=
  ⟨fun pins s σ H Q I h => by
    haveI : FxG (outer σ.length (own.map (·.2))) := fxg_outer hfx h
    exact (pe_lc hc hN hi ok (fun s H C cl fp => hg s H C cl fp (outer σ.length (own.map (·.2)))) ht he hs).run pins s σ H Q I (lc_run hfx h)⟩
theorem ds_setLc [Fg : FxG gd] {i : Nat} {y : Str} {py : Pos} {spos : Pos} (hfx : ∀ j ∈ Tbi.fx, j ∉ own.map (·.2)) (hc : X.calm = true) (hN : X.N.Nodup) (hy : X.N[i]? = some y) (hyl : X.env.scope.names.lookup y = some .local)
    (hsw : swapsWith (.ListComp elt [⟨tg, iter, ifs, 0⟩] scope pos) (some (.Name y py)) spos.line X.env = pure true) (hi : PI X tg iter (tI X.K mg E m)) (ok : BlkOk X.N X.env.scope scope own)
    (hg : ∀ (s : Shared) (H : Hp) (C : Addr) (cl : List (Str × Addr)) (fp : List Addr) (gd : List Nat) [FxG gd], PG (X.blk s H scope (compEnvC scope cl C X.env) fp) tg (tG X.K gd t)) (ht : ∀ (s : Shared) (H : Hp) (C : Addr) (cl : List (Str × Addr)) (fp : List Addr), PTs (X.blk s H scope (compEnvC scope cl C X.env) fp) ifs (tT X.K mg noE cc))
    (he : ∀ (s : Shared) (H : Hp) (C : Addr) (cl : List (Str × Addr)) (fp : List Addr), PE (X.blk s H scope (compEnvC scope cl C X.env) fp) elt (tE X.K mg noE f)) (hs : ∀ x, foldedSetIterable iter X.env x = pure x) :
    PS X (.Assign [.Name y py] (.ListComp elt [⟨tg, iter, ifs, 0⟩] scope pos) spos) (tS X.K mg E gd (asgS gd i (lcM m (own.map (·.2)) t cc f))) :=
  ⟨fun pins s σ H D I h => by
    haveI : FxG (outer σ.length (own.map (·.2))) := fxg_outer hfx h
    exact (ps_setLc hc hN hy hyl hsw hi ok (fun s H C cl fp => hg s H C cl fp (outer σ.length (own.map (·.2)))) ht he hs).run pins s σ H D I (by
    refine lc_run hfx (Q := fun x H1 => gName i x σ H1 D.nx) ?_
    obtain ⟨W, F, env, rl, h⟩ := h
    refine ⟨W, F, env, rl, (postS_bind h).imp fun r env' F' H' _ a h1 v rv => ?_⟩
    obtain ⟨y, env2, F2, a2, rv2, h2⟩ := settle_postS a.rel rv h1
    exact store_post a2.rel rv2 h2)⟩
end
end
end Ev
set_option maxHeartbeats 1000000
/-! Ev27: what a def promises, by data; a call by data. -/
namespace Ev
open PySem PySem.Spec PyProof.Rows L2
variable [Tbi : Tabl]
/-- what a call gives: a value (no slot's object), what the lent objects are then -/
inductive Res where
  | ok (r : Rv) (outs : List R)
  | exc (x : Exn) (outs : List R)
  | no
abbrev Fn := List R → Res
section
variable {K : PySem.W.Frag} {mg : Str → Option Value} {E : XK}
def lentS (vs : List V) (gd : List Nat) : L2.St := gd.map fun g => vs[g]?
variable (K) in
/-- from (F, H) to (F', H'): what a call may do to the arguments vs -/
structure AftC (gd : List Nat) (W : Addr → Prop) (F H F' H' : Hp) (vs : List V) (outs : List R) : Prop where
  same : Same F F'
  keep : ∀ a, W a → H' a = H a
  rel : Rel K W F' H' (lentS vs gd) (outs.map some)
variable (K) in
def postR (mg : Str → Option Value) (E : XK) (gd : List Nat) (W : Addr → Prop) (F H : Hp) (vs : List V) (o : Res) (Q : VK) : Prop :=
  match o with
  | .ok r outs => ∀ F' H' v, AftC K gd W F H F' H' vs outs → RRv K W F' H' (lentS vs gd) (outs.map some) v r → Q v H'
  | .exc x outs => ∀ F' H' cls od, AftC K gd W F H F' H' vs outs → XR K mg F' H' x cls od → E cls od H'
  | .no => False
variable (K) in
/-- a def computes φ; gd: the parameters whose objects the caller lends it -/
def spM (mg : Str → Option Value) (np : Nat) (gd : List Nat) (φ : Fn) : Sp := fun vs H Q E => vs.length = np ∧ ∃ W F as, Rel K W F H (vs.map some) (as.map some) ∧ (∀ i c, as[i]? = some (.c c) → i ∈ gd) ∧ postR K mg E gd W F H vs (φ as) Q
/-! ### the def's side -/
def outsOf (env : Env) : List Nat → Option (List R)
  | [] => some []
  | g :: gs => match env[g]?, outsOf env gs with
    | some (some r), some rs => some (r :: rs)
    | _, _ => none
def startE (n : Nat) (as : List R) : Env := as.map some ++ List.replicate (n - as.length) none
def retR (gd : List Nat) (env : Env) : Rv → Option Rv
  | .b j => if gd.contains j = true then none else match env[j]? with
    | some (some (.c c)) => some (.n c)
    | some (some (.d x)) => some (.d x)
    | _ => none
  | r => some r
def runD (n : Nat) (gd : List Nat) (f : M Fl) : Fn := fun as => match f (startE n as) with
  | .ok .nx env => match outsOf env gd with
    | some outs => .ok (.d .none) outs
    | none => .no
  | .ok (.rt r) env => match outsOf env gd, retR gd env r with
    | some outs, some r' => .ok r' outs
    | _, _ => .no
  | .exc x env => match outsOf env gd with
    | some outs => .exc x outs
    | none => .no
  | _ => .no
theorem outsOf_get {env : Env} : ∀ {gd : List Nat} {outs : List R}, outsOf env gd = some outs → gd.length = outs.length ∧ ∀ (k g : Nat), gd[k]? = some g → ∃ r, outs[k]? = some r ∧ env[g]? = some (some r)
  | [], _, h => by cases h; exact ⟨rfl, fun k g e => by simp at e⟩
  | g :: gs, outs, h => by
    unfold outsOf at h
    split at h
    · rename_i r rs e1 e2
      cases h
      obtain ⟨l, q⟩ := outsOf_get e2
      refine ⟨congrArg (· + 1) l, fun k g' e => ?_⟩
      cases k with
      | zero => simp at e; subst e; exact ⟨r, rfl, e1⟩
      | succ k => simpa using q k g' (by simpa using e)
    · cases h
theorem startE_len {n : Nat} {as : List R} (h : as.length ≤ n) : (startE n as).length = n := by
  unfold startE
  rw [List.length_append, List.length_map, List.length_replicate]
  omega
theorem startE_lt {n i : Nat} {as : List R} (h : i < as.length) : (startE n as)[i]? = (as[i]?).map some := by
  unfold startE
  rw [List.getElem?_append_left (by rw [List.length_map]; exact h), List.getElem?_map]
theorem startE_some {n i : Nat} {as : List R} {r : R} (h : (startE n as)[i]? = some (some r)) : as[i]? = some r := by
  by_cases hi : i < as.length
  · rw [startE_lt hi] at h
    cases e : as[i]? with
    | none => rw [e] at h; cases h
    | some x => rw [e] at h; cases h; rfl
  · unfold startE at h
    rw [List.getElem?_append_right (by rw [List.length_map]; omega)] at h
    have := List.mem_of_getElem? h
    rw [List.mem_replicate] at this
    cases this.2
theorem start_len {N : List Str} {vs : List V} (h : vs.length ≤ N.length) : (L2.start N vs).length = N.length := by
  unfold L2.start
  rw [List.length_append, List.length_map, List.length_replicate]
  omega
theorem start_lt {N : List Str} {i : Nat} {vs : List V} (h : i < vs.length) : (L2.start N vs)[i]? = (vs[i]?).map some := by
  unfold L2.start
  rw [List.getElem?_append_left (by rw [List.length_map]; exact h), List.getElem?_map]
theorem rel_start (h0 : Tbi.fx = []) {W : Addr → Prop} {F H : Hp} {vs : List V} {as : List R} {N : List Str} (rl : Rel K W F H (vs.map some) (as.map some)) (hn : vs.length ≤ N.length) : Rel K W F H (L2.start N vs) (startE N.length as) := by
  have hl : vs.length = as.length := by simpa using rl.len
  have own : ∀ i p, Own (L2.start N vs) (startE N.length as) i p → Own (vs.map some) (as.map some) i p := fun i p ⟨e1, c, e2⟩ => by
    have h2 := startE_some e2
    have hi : i < as.length := (List.getElem?_eq_some_iff.mp h2).1
    rw [start_lt (by omega)] at e1
    exact ⟨by rw [List.getElem?_map]; exact e1, c, by rw [List.getElem?_map, h2]; rfl⟩
  refine ⟨by rw [start_len hn, startE_len (by omega)], rl.fz, rl.fw, fun i x r h1 h2 => ?_, fun i j p o1 o2 => rl.ds i j p (own i p o1) (own j p o2), rl.tb, fun j hj => (by rw [h0] at hj; cases hj), rl.tf⟩
  cases r with
  | none => cases x <;> exact True.intro
  | some r =>
    have h3 := startE_some h2
    have hi : i < as.length := (List.getElem?_eq_some_iff.mp h3).1
    rw [start_lt (by omega)] at h1
    exact rl.sl i x (some r) (by rw [List.getElem?_map]; exact h1) (by rw [List.getElem?_map, h3]; rfl)
theorem aftc_of (h0 : Tbi.fx = []) {W : Addr → Prop} {F H F' H' : Hp} {vs : List V} {as : List R} {N : List Str} {gd : List Nat} {σ' : L2.St} {env' : Env} {outs : List R} (hn : vs.length ≤ N.length) (hg : ∀ g ∈ gd, g < vs.length) (nd : gd.Nodup)
    (a : SAft K gd W (L2.start N vs) (startE N.length as) F H σ' env' F' H') (ho : outsOf env' gd = some outs) : AftC K gd W F H F' H' vs outs := by
  obtain ⟨hlen, hget⟩ := outsOf_get ho
  have slot : ∀ {k : Nat} {x : Option V} {r : Option R}, (lentS vs gd)[k]? = some x → (outs.map some)[k]? = some r → ∃ g, gd[k]? = some g ∧ σ'[g]? = some x ∧ env'[g]? = some r := fun {k x r} h1 h2 => by
    unfold lentS at h1
    rw [List.getElem?_map] at h1
    cases hk : gd[k]? with
    | none => rw [hk] at h1; cases h1
    | some g =>
      rw [hk] at h1
      obtain ⟨r', e1, e2⟩ := hget k g hk
      rw [List.getElem?_map, e1] at h2
      have gl := hg g (List.mem_of_getElem? hk)
      have s := (a.gds g (List.mem_of_getElem? hk)).1
      rw [start_lt gl] at s
      refine ⟨g, rfl, ?_, by rw [e2]; exact h2⟩
      have h1 : some (vs[g]?) = some x := h1
      rw [s, ← h1, List.getElem?_eq_getElem gl]
      rfl
  have own : ∀ k p, Own (lentS vs gd) (outs.map some) k p → ∃ g, gd[k]? = some g ∧ Own σ' env' g p := fun k p ⟨e1, c, e2⟩ => by
    obtain ⟨g, hk, h1, h2⟩ := slot e1 e2
    exact ⟨g, hk, h1, c, h2⟩
  refine ⟨a.same, a.keep, ⟨by simp [lentS, hlen], a.rel.fz, a.rel.fw, fun k x r h1 h2 => ?_, fun k k' p o1 o2 => ?_, a.rel.tb, fun j hj => (by rw [h0] at hj; cases hj), a.rel.tf⟩⟩
  · obtain ⟨g, _, e1, e2⟩ := slot h1 h2
    exact a.rel.sl g x r e1 e2
  · obtain ⟨g, hk, o1⟩ := own k p o1
    obtain ⟨g', hk', o2⟩ := own k' p o2
    have e := a.rel.ds g g' p o1 o2
    subst e
    exact (List.getElem?_inj (List.getElem?_eq_some_iff.mp hk).1 nd).mp (hk.trans hk'.symm)
/-- a slot that is no lent one: its object is none of the lent ones -/
theorem lent_own {W : Addr → Prop} {F H F' H' : Hp} {vs : List V} {as : List R} {N : List Str} {gd : List Nat} {σ' : L2.St} {env' : Env} {outs : List R} (hg : ∀ g ∈ gd, g < vs.length)
    (a : SAft K gd W (L2.start N vs) (startE N.length as) F H σ' env' F' H') (ho : outsOf env' gd = some outs) {k : Nat} {p : Addr} (o : Own (lentS vs gd) (outs.map some) k p) : ∃ g ∈ gd, Own σ' env' g p := by
  obtain ⟨hlen, hget⟩ := outsOf_get ho
  obtain ⟨e1, c, e2⟩ := o
  unfold lentS at e1
  rw [List.getElem?_map] at e1
  cases hk : gd[k]? with
  | none => rw [hk] at e1; cases e1
  | some g =>
    rw [hk] at e1
    obtain ⟨r', q1, q2⟩ := hget k g hk
    rw [List.getElem?_map, q1] at e2
    have gl := hg g (List.mem_of_getElem? hk)
    have s := (a.gds g (List.mem_of_getElem? hk)).1
    rw [start_lt gl] at s
    refine ⟨g, List.mem_of_getElem? hk, ?_, c, by rw [q2]; exact e2⟩
    have e1 : some (vs[g]?) = some (some (V.ref p)) := e1
    rw [s, ← e1, List.getElem?_eq_getElem gl]
    rfl
theorem spM_run (h0 : Tbi.fx = []) {W : Addr → Prop} {F H : Hp} {vs : List V} {as : List R} {N : List Str} {gd : List Nat} {f : M Fl} {Q : VK} (hn : vs.length ≤ N.length) (hg : ∀ g ∈ gd, g < vs.length) (nd : gd.Nodup)
    (h : postR K mg E gd W F H vs (runD N.length gd f as) Q) : postS K mg E gd W (L2.start N vs) (startE N.length as) F H (f (startE N.length as)) { nx := fun _ H' => Q .non H', rt := Q } := by
  unfold runD at h
  cases hf : f (startE N.length as) with
  | no => rw [hf] at h; exact h.elim
  | exc x env' =>
    rw [hf] at h
    simp only at h
    intro σ' F' H' cls od a xr
    cases ho : outsOf env' gd with
    | none => rw [ho] at h; exact h.elim
    | some outs => rw [ho] at h; exact h F' H' cls od (aftc_of h0 hn hg nd a ho) xr
  | ok fl env' =>
    rw [hf] at h
    cases fl with
    | bk => exact h.elim
    | ct => exact h.elim
    | nx =>
      simp only at h
      intro σ' F' H' a
      cases ho : outsOf env' gd with
      | none => rw [ho] at h; exact h.elim
      | some outs => rw [ho] at h; exact h F' H' .non (aftc_of h0 hn hg nd a ho) .non
    | rt r =>
      simp only at h
      intro σ' F' H' v a rv
      cases ho : outsOf env' gd with
      | none => rw [ho] at h; exact h.elim
      | some outs =>
        have ac := aftc_of h0 hn hg nd a ho
        cases hr : retR gd env' r with
        | none => rw [ho, hr] at h; exact h.elim
        | some r' =>
          rw [ho, hr] at h
          refine h F' H' v ac ?_
          cases r with
          | d x => cases hr; exact rv
          | t xs => cases hr; exact rv
          | s ns => cases hr; exact rv
          | n c =>
            cases hr
            obtain ⟨p, o, rfl, hp, hc, hf, hw, ho'⟩ := rv
            exact ⟨p, o, rfl, hp, hc, hf, hw, fun k z => by
              obtain ⟨g, _, z⟩ := lent_own hg a ho z
              exact ho' g z⟩
          | b j =>
            by_cases hj : gd.contains j = true
            · simp only [retR, hj, if_true] at hr
              cases hr
            · simp only [retR, hj] at hr
              obtain ⟨h1, r2, h2⟩ := rv
              have q := a.rel.sl j _ _ h1 h2
              rw [h2] at hr
              cases r2 with
              | c c =>
                cases hr
                obtain ⟨p, o, rfl, hp, hcr, hf, hw⟩ := q
                refine ⟨p, o, rfl, hp, hcr, hf, hw, fun k z => ?_⟩
                obtain ⟨g, hgm, z⟩ := lent_own hg a ho z
                have e := a.rel.ds g j p z ⟨h1, c, h2⟩
                subst e
                exact hj (by simpa using hgm)
              | d x => cases hr; exact q
              | s x => cases hr
end
end Ev
set_option maxHeartbeats 1000000
/-! Ev28: the caller's side of a call. -/
namespace Ev
open PySem PySem.Spec PyProof.Rows L2
variable [Tbi : Tabl]
section
variable {K : PySem.W.Frag} {mg : Str → Option Value} {E : XK}
def noN : Rv → Bool
  | .n _ => false
  | _ => true
def prep1 : Bool → Rv → M Rv
  | true, .b i => M.ret (.b i)
  | true, _ => M.no
  | false, .s ns => M.ret (.s ns)
  | false, x => M.bind (asD x) fun d => M.ret (.d d)
def prep : List Bool → List Rv → M (List Rv)
  | [], [] => M.ret []
  | l :: ls, x :: xs => M.bind (prep1 l x) fun y => M.bind (prep ls xs) fun ys => M.ret (y :: ys)
  | _, _ => M.no
variable (K) in
def RRp (W : Addr → Prop) (F H : Hp) (σ : L2.St) (env : Env) : List V → List Rv → Prop
  | [], [] => True
  | v :: vs, y :: ys => (RRv K W F H σ env v y ∧ noN y = true) ∧ RRp W F H σ env vs ys
  | _, _ => False
section
variable {W : Addr → Prop} {σ : L2.St} {F H F' H' : Hp} {env env' : Env}
theorem rrv_keep {v : V} {y : Rv} (h : RRv K W F H σ env v y) (n : noN y = true) (a : Aft K W σ env F H env' F' H') : RRv K W F' H' σ env' v y :=
  h.keep (a.less fun b hb => hb.elim id fun z => by cases y <;> first | exact z.elim | cases n)
theorem RRp.keep : ∀ {vs : List V} {ys : List Rv}, RRp K W F H σ env vs ys → Aft K W σ env F H env' F' H' → RRp K W F' H' σ env' vs ys
  | [], [], _, _ => True.intro
  | _ :: _, _ :: _, ⟨⟨h, n⟩, t⟩, a => ⟨⟨rrv_keep h n a, n⟩, RRp.keep t a⟩
  | [], _ :: _, h, _ => h.elim
  | _ :: _, [], h, _ => h.elim
theorem RRp.len : ∀ {vs : List V} {ys : List Rv}, RRp K W F H σ env vs ys → vs.length = ys.length
  | [], [], _ => rfl
  | _ :: _, _ :: _, ⟨_, t⟩ => congrArg (· + 1) t.len
  | [], _ :: _, h => h.elim
  | _ :: _, [], h => h.elim
theorem RRp.get : ∀ {vs : List V} {ys : List Rv}, RRp K W F H σ env vs ys → ∀ {k : Nat} {y : Rv}, ys[k]? = some y → ∃ v, vs[k]? = some v ∧ RRv K W F H σ env v y ∧ noN y = true
  | [], [], _, k, y, e => by simp at e
  | v :: _, _ :: _, ⟨⟨h, n⟩, t⟩, 0, y, e => by simp at e; subst e; exact ⟨v, rfl, h, n⟩
  | _ :: _, _ :: _, ⟨_, t⟩, k + 1, y, e => by simpa using t.get (k := k) (by simpa using e)
  | [], _ :: _, h, _, _, _ => h.elim
  | _ :: _, [], h, _, _, _ => h.elim
theorem prep1_run {v : V} {x : Rv} {l : Bool} (rl : Rel K W F H σ env) (h : RRv K W F H σ env v x) : prep1 l x env = .no ∨ ∃ y env' F', prep1 l x env = .ok y env' ∧ Aft K W σ env F H env' F' H ∧ RRv K W F' H σ env' v y ∧ noN y = true := by
  cases l with
  | true =>
    cases x with
    | b i => exact .inr ⟨_, _, F, rfl, Aft.refl rl, h, rfl⟩
    | _ => exact .inl rfl
  | false =>
    have gen : M.bind (asD x) (fun d => M.ret (Rv.d d)) env = .no ∨ ∃ y env' F', M.bind (asD x) (fun d => M.ret (Rv.d d)) env = .ok y env' ∧ Aft K W σ env F H env' F' H ∧ RRv K W F' H σ env' v y ∧ noN y = true := by
      unfold M.bind
      rcases asD_run rl h with e | ⟨d, env', F', e, a, q⟩
      · rw [e]; exact .inl rfl
      · rw [e]; exact .inr ⟨_, _, F', rfl, a, q, rfl⟩
    cases x with
    | s ns => exact .inr ⟨_, _, F, rfl, Aft.refl rl, h, rfl⟩
    | d x => exact gen
    | t x => exact gen
    | n x => exact gen
    | b x => exact gen
end
theorem prep_run {σ : L2.St} {H : Hp} : ∀ {ls : List Bool} {vs : List V} {xs : List Rv} {W : Addr → Prop} {F : Hp} {env : Env}, Rel K W F H σ env → RRvs K σ env F H W vs xs →
    prep ls xs env = .no ∨ ∃ ys env' F', prep ls xs env = .ok ys env' ∧ Aft K W σ env F H env' F' H ∧ RRp K W F' H σ env' vs ys
  | [], [], [], W, F, env, rl, _ => .inr ⟨[], env, F, rfl, Aft.refl rl, True.intro⟩
  | l :: ls, v :: vs, x :: xs, W, F, env, rl, ⟨h1, h2⟩ => by
    have r2 : Rel K (fun a => W a ∨ pends vs xs a) F H σ env := (RRvs.hold (h2.less fun _ => .inl) rl)
    have h1' : RRv K (fun a => W a ∨ pends vs xs a) F H σ env v x := by
      cases x with
      | n c =>
        obtain ⟨p, o, rfl, hp, hc, hf, hw, ho⟩ := h1
        exact ⟨p, o, rfl, hp, hc, hf, fun z => z.elim hw fun z => RRvs.apart h2 z (.inr rfl), ho⟩
      | _ => exact h1
    unfold prep M.bind
    rcases prep1_run (l := l) r2 h1' with e | ⟨y, env1, F1, e, a1, q, ny⟩
    · rw [e]; exact .inl rfl
    · rw [e]
      have h3 : RRvs K σ env1 F1 H W vs xs := RRvs.keep (h2.less fun _ => .inl) a1
      rcases prep_run (ls := ls) (a1.rel.less fun _ => .inl) h3 with e2 | ⟨ys, env2, F2, e2, a2, q2⟩
      · simp only [e2]; first | exact .inl rfl | exact .inl True.intro
      · simp only [e2]
        exact .inr ⟨_, _, F2, rfl, (a1.less fun _ => .inl).trans a2, ⟨rrv_keep (q.less fun _ => .inl) ny a2, ny⟩, q2⟩
  | [], [], _ :: _, _, _, _, _, h => h.elim
  | [], _ :: _, [], _, _, _, _, h => h.elim
  | [], _ :: _, _ :: _, _, _, _, _, _ => .inl rfl
  | _ :: _, [], [], _, _, _, _, _ => .inl rfl
  | _ :: _, [], _ :: _, _, _, _, _, h => h.elim
  | _ :: _, _ :: _, [], _, _, _, _, h => h.elim
def rdR (env : Env) : Rv → Option R
  | .d x => some (.d x)
  | .t xs => some (.d (.tuple xs))
  | .s ns => some (.s ns)
  | .b i => match env[i]? with
    | some (some (.c c)) => some (.c c)
    | _ => none
  | .n _ => none
def rdRs (env : Env) : List Rv → Option (List R)
  | [] => some []
  | y :: ys => match rdR env y, rdRs env ys with
    | some a, some as => some (a :: as)
    | _, _ => none
def lentP : Nat → List Rv → List (Nat × Nat)
  | _, [] => []
  | k, .b i :: ys => (k, i) :: lentP (k + 1) ys
  | k, _ :: ys => lentP (k + 1) ys
def setAllE (env : Env) : List Nat → List R → Env
  | i :: is, r :: rs => (setAllE env is rs).set i (some r)
  | _, _ => env
def callY (φ : Fn) (gd : List Nat) (ys : List Rv) : M Rv := fun env => match rdRs env ys with
  | some as => if (lentP 0 ys).map (·.1) = gd ∧ ((lentP 0 ys).map (·.2)).Nodup then match φ as with
      | .ok r outs => if noB r = true then .ok r (setAllE env ((lentP 0 ys).map (·.2)) outs) else .no
      | .exc x outs => .exc x (setAllE env ((lentP 0 ys).map (·.2)) outs)
      | .no => .no
    else .no
  | none => .no
theorem rdRs_get {env : Env} : ∀ {ys : List Rv} {as : List R}, rdRs env ys = some as → ys.length = as.length ∧ ∀ {k : Nat} {a : R}, as[k]? = some a → ∃ y, ys[k]? = some y ∧ rdR env y = some a
  | [], _, h => by cases h; exact ⟨rfl, fun {k a} e => by simp at e⟩
  | y :: ys, as, h => by
    unfold rdRs at h
    split at h
    · rename_i a as' e1 e2
      cases h
      obtain ⟨l, q⟩ := rdRs_get e2
      refine ⟨congrArg (· + 1) l, fun {k b} e => ?_⟩
      cases k with
      | zero => simp at e; subst e; exact ⟨y, rfl, e1⟩
      | succ k => simpa using q (k := k) (a := b) (by simpa using e)
    · cases h
theorem lentP_mem : ∀ {ys : List Rv} {k g i : Nat}, (g, i) ∈ lentP k ys ↔ k ≤ g ∧ ys[g - k]? = some (.b i)
  | [], k, g, i => by simp [lentP]
  | y :: ys, k, g, i => by
    have ih := @lentP_mem ys (k + 1) g i
    have key : (k + 1 ≤ g ∧ ys[g - (k + 1)]? = some (.b i)) ↔ (k + 1 ≤ g ∧ (y :: ys)[g - k]? = some (.b i)) := by
      constructor
      · rintro ⟨h1, h2⟩
        have e : g - k = (g - (k + 1)) + 1 := by omega
        exact ⟨h1, by rw [e, List.getElem?_cons_succ]; exact h2⟩
      · rintro ⟨h1, h2⟩
        have e : g - k = (g - (k + 1)) + 1 := by omega
        rw [e, List.getElem?_cons_succ] at h2
        exact ⟨h1, h2⟩
    have other : (∀ j, y ≠ .b j) → ((g, i) ∈ lentP (k + 1) ys ↔ k ≤ g ∧ (y :: ys)[g - k]? = some (.b i)) := fun hy => by
      rw [ih, key]
      constructor
      · rintro ⟨h1, h2⟩; exact ⟨by omega, h2⟩
      · rintro ⟨h1, h2⟩
        by_cases e : g = k
        · subst e
          rw [Nat.sub_self, List.getElem?_cons_zero] at h2
          exact absurd (Option.some.inj h2) (hy i)
        · exact ⟨by omega, h2⟩
    cases y with
    | b j =>
      rw [lentP, List.mem_cons, ih, key]
      constructor
      · rintro (e | ⟨h1, h2⟩)
        · cases e; exact ⟨Nat.le_refl _, by rw [Nat.sub_self]; rfl⟩
        · exact ⟨by omega, h2⟩
      · rintro ⟨h1, h2⟩
        by_cases e : g = k
        · subst e
          rw [Nat.sub_self, List.getElem?_cons_zero] at h2
          cases h2
          exact .inl rfl
        · exact .inr ⟨by omega, h2⟩
    | d x => exact other (fun j z => nomatch z)
    | t x => exact other (fun j z => nomatch z)
    | s x => exact other (fun j z => nomatch z)
    | n x => exact other (fun j z => nomatch z)
theorem fst_inj {α β : Type} : ∀ {l : List (α × β)}, (l.map (·.2)).Nodup → ∀ {a b : α} {i : β}, (a, i) ∈ l → (b, i) ∈ l → a = b
  | [], _, a, b, i, h, _ => by simp at h
  | (x, y) :: l, nd, a, b, i, h1, h2 => by
    rw [List.map_cons, List.nodup_cons] at nd
    rcases List.mem_cons.mp h1 with e1 | e1
    · rcases List.mem_cons.mp h2 with e2 | e2
      · cases e1; cases e2; rfl
      · cases e1
        exact absurd (List.mem_map.mpr ⟨_, e2, rfl⟩) nd.1
    · rcases List.mem_cons.mp h2 with e2 | e2
      · cases e2
        exact absurd (List.mem_map.mpr ⟨_, e1, rfl⟩) nd.1
      · exact fst_inj nd.2 e1 e2
theorem setAllE_len {env : Env} : ∀ {is : List Nat} {rs : List R}, (setAllE env is rs).length = env.length
  | [], _ => rfl
  | _ :: _, [] => rfl
  | i :: is, r :: rs => by unfold setAllE; rw [List.length_set, setAllE_len]
theorem setAllE_out {env : Env} {j : Nat} : ∀ {is : List Nat} {rs : List R}, j ∉ is → (setAllE env is rs)[j]? = env[j]?
  | [], _, _ => rfl
  | _ :: _, [], _ => rfl
  | i :: is, r :: rs, h => by
    unfold setAllE
    rw [List.getElem?_set_ne (fun e => h (by simp [e])), setAllE_out fun z => h (List.mem_cons_of_mem _ z)]
theorem setAllE_in {env : Env} {j : Nat} (hj : j < env.length) : ∀ {is : List Nat} {rs : List R} {k : Nat}, is.Nodup → is[k]? = some j → is.length = rs.length → ∃ r, rs[k]? = some r ∧ (setAllE env is rs)[j]? = some (some r)
  | [], _, k, _, h, _ => by simp at h
  | _ :: _, [], k, _, _, h => by simp at h
  | i :: is, r :: rs, 0, nd, h, _ => by
    simp at h
    subst h
    exact ⟨r, rfl, by unfold setAllE; exact List.getElem?_set_self (by rw [setAllE_len]; exact hj)⟩
  | i :: is, r :: rs, k + 1, nd, h, hl => by
    have h : is[k]? = some j := by simpa using h
    rw [List.nodup_cons] at nd
    have hne : i ≠ j := fun e => nd.1 (e ▸ List.mem_of_getElem? h)
    obtain ⟨r', e1, e2⟩ := setAllE_in hj nd.2 h (by simpa using hl)
    refine ⟨r', by simpa using e1, ?_⟩
    unfold setAllE
    rw [List.getElem?_set_ne hne]
    exact e2
end
end Ev
set_option maxHeartbeats 1000000
/-! Ev29: a call by data, from the caller's frame into the def's. -/
namespace Ev
open PySem PySem.Spec PyProof.Rows L2
variable [Tbi : Tabl]
section
variable {K : PySem.W.Frag} {mg : Str → Option Value} {E : XK}
section
variable {W : Addr → Prop} {σ : L2.St} {F H : Hp} {env : Env} {vs : List V} {ys : List Rv} {as : List R}
theorem rdR_b {i : Nat} {a : R} (h : rdR env (.b i) = some a) : ∃ c, a = .c c ∧ env[i]? = some (some (.c c)) := by
  have h : (match env[i]? with | some (some (.c c)) => some (R.c c) | _ => none) = some a := h
  split at h
  · rename_i c hc
    cases h
    exact ⟨c, rfl, hc⟩
  · cases h
/-- others' things, for the callee: also what the caller's slots hold and do not lend -/
def Wc (W : Addr → Prop) (σ : L2.St) (env : Env) (is : List Nat) : Addr → Prop := fun a => W a ∨ ∃ i, i ∉ is ∧ Own σ env i a
theorem arg_of (rp : RRp K W F H σ env vs ys) (hr : rdRs env ys = some as) {k : Nat} {x : Option V} {r : Option R} (h1 : (vs.map some)[k]? = some x) (h2 : (as.map some)[k]? = some r) :
    ∃ v y a, x = some v ∧ r = some a ∧ as[k]? = some a ∧ ys[k]? = some y ∧ rdR env y = some a ∧ vs[k]? = some v ∧ RRv K W F H σ env v y := by
  rw [List.getElem?_map] at h1 h2
  cases ha : as[k]? with
  | none => rw [ha] at h2; cases h2
  | some a =>
    rw [ha] at h2
    obtain ⟨y, hy, hq⟩ := (rdRs_get hr).2 ha
    obtain ⟨v, hv, rv, _⟩ := rp.get hy
    rw [hv] at h1
    cases h1
    cases h2
    exact ⟨v, y, a, rfl, rfl, rfl, hy, hq, hv, rv⟩
theorem rel_args (rl : Rel K W F H σ env) (rp : RRp K W F H σ env vs ys) (hr : rdRs env ys = some as) (nd : ((lentP 0 ys).map (·.2)).Nodup) : Rel (Tbi := Tbi.base) K (Wc W σ env ((lentP 0 ys).map (·.2))) F H (vs.map some) (as.map some) := by
  have own : ∀ k p, Own (vs.map some) (as.map some) k p → ∃ i, ys[k]? = some (.b i) ∧ Own σ env i p := fun k p ⟨e1, c, e2⟩ => by
    obtain ⟨v, y, a, hx, hra, _, hy, hq, _, rv⟩ := arg_of rp hr e1 e2
    cases hx
    cases hra
    cases y with
    | b i =>
      obtain ⟨c', e, hc⟩ := rdR_b hq
      exact ⟨i, hy, rv.1, _, hc⟩
    | _ => cases hq
  refine Rel.mk (Tbi := Tbi.base) (by rw [List.length_map, List.length_map, rp.len]; exact (rdRs_get hr).1) rl.fz (fun a ha => ?_) (fun k x r h1 h2 => ?_) (fun k k' p o1 o2 => ?_) rl.tb (fun j hj => by cases hj) rl.tf
  · rcases ha with ha | ⟨i, _, e1, c, e2⟩
    · exact rl.fw a ha
    · obtain ⟨p, o, e, hp, hc, hf, _⟩ := rl.sl i _ _ e1 e2
      cases e
      exact ⟨hf, o, hp, hc.notTup⟩
  · obtain ⟨v, y, a, rfl, rfl, _, hy, hq, _, rv⟩ := arg_of rp hr h1 h2
    cases y with
    | d x => cases hq; exact rv
    | t xs => cases hq; obtain ⟨p, ws, rfl, q1, q2⟩ := rv; exact .tup (SqT.of q1) q2
    | s ns => cases hq; exact rv
    | n c => cases hq
    | b i =>
      obtain ⟨c, e, hc⟩ := rdR_b hq
      subst e
      obtain ⟨p, o, rfl, hp, hcr, hf, hw⟩ := rl.sl i _ _ rv.1 hc
      refine ⟨p, o, rfl, hp, hcr, hf, fun z => ?_⟩
      rcases z with z | ⟨j, hj, z⟩
      · exact hw z
      · have e := rl.ds i j p ⟨rv.1, c, hc⟩ z
        subst e
        exact hj (List.mem_map.mpr ⟨(k, i), lentP_mem.mpr ⟨Nat.zero_le _, hy⟩, rfl⟩)
  · obtain ⟨i, hy, q⟩ := own k p o1
    obtain ⟨i', hy', q'⟩ := own k' p o2
    have e := rl.ds i i' p q q'
    subst e
    exact fst_inj nd (lentP_mem.mpr ⟨Nat.zero_le _, hy⟩) (lentP_mem.mpr ⟨Nat.zero_le _, hy'⟩)
theorem aft_call {F' H' : Hp} {outs : List R} (rl : Rel K W F H σ env) (rp : RRp K W F H σ env vs ys) (hr : rdRs env ys = some as) (nd : ((lentP 0 ys).map (·.2)).Nodup)
    (a : AftC (Tbi := Tbi.base) K ((lentP 0 ys).map (·.1)) (Wc W σ env ((lentP 0 ys).map (·.2))) F H F' H' vs outs) : Aft K W σ env F H (setAllE env ((lentP 0 ys).map (·.2)) outs) F' H' ∧
      ∀ p, (∀ k, ¬ Own (lentS vs ((lentP 0 ys).map (·.1))) (outs.map some) k p) → ¬ Wc W σ env ((lentP 0 ys).map (·.2)) p → ∀ i, ¬ Own σ (setAllE env ((lentP 0 ys).map (·.2)) outs) i p := by
  have ar := AftC.rel (Tbi := Tbi.base) a
  have a_same := AftC.same (Tbi := Tbi.base) a
  have a_keep := AftC.keep (Tbi := Tbi.base) a
  have ar_len := Rel.len (Tbi := Tbi.base) ar
  have ar_fz := Rel.fz (Tbi := Tbi.base) ar
  have ar_fw := Rel.fw (Tbi := Tbi.base) ar
  have ar_sl := Rel.sl (Tbi := Tbi.base) ar
  have ar_tb := Rel.tb (Tbi := Tbi.base) ar
  have hlen : ((lentP 0 ys).map (·.2)).length = outs.length := by
    have := ar_len
    simp only [lentS, List.length_map] at this ⊢
    exact this
  have slot : ∀ {i : Nat}, i ∈ (lentP 0 ys).map (·.2) → ∃ k v c r, (lentS vs ((lentP 0 ys).map (·.1)))[k]? = some (some v) ∧ σ[i]? = some (some v) ∧ env[i]? = some (some (.c c)) ∧ outs[k]? = some r ∧ (setAllE env ((lentP 0 ys).map (·.2)) outs)[i]? = some (some r) := fun {i} hi => by
    obtain ⟨k, hk⟩ := List.getElem?_of_mem hi
    rw [List.getElem?_map] at hk
    cases hp : (lentP 0 ys)[k]? with
    | none => rw [hp] at hk; cases hk
    | some gi =>
      rw [hp] at hk
      obtain ⟨g, j⟩ := gi
      have e : i = j := (Option.some.inj hk).symm
      subst e
      have hm := (lentP_mem.mp (List.mem_of_getElem? hp)).2
      rw [Nat.sub_zero] at hm
      obtain ⟨v, hv, rv, _⟩ := rp.get hm
      have hb : ∃ c, env[i]? = some (some (.c c)) := by
        have hl := (rdRs_get hr).1
        have hg : g < as.length := by rw [← hl]; exact (List.getElem?_eq_some_iff.mp hm).1
        obtain ⟨y, hy, hq⟩ := (rdRs_get hr).2 (List.getElem?_eq_getElem hg)
        rw [hm] at hy
        cases hy
        obtain ⟨c, _, hc⟩ := rdR_b hq
        exact ⟨c, hc⟩
      obtain ⟨c, hc⟩ := hb
      have hil : i < env.length := (List.getElem?_eq_some_iff.mp hc).1
      obtain ⟨r, e1, e2⟩ := setAllE_in hil (k := k) nd (by rw [List.getElem?_map, hp]; rfl) hlen
      refine ⟨k, v, c, r, ?_, rv.1, hc, e1, e2⟩
      unfold lentS
      rw [List.map_map, List.getElem?_map, hp]
      show some (vs[g]?) = _
      rw [hv]
  have own : ∀ {i : Nat} {p : Addr}, Own σ (setAllE env ((lentP 0 ys).map (·.2)) outs) i p → Own σ env i p ∧ (i ∈ (lentP 0 ys).map (·.2) → ∃ k, Own (lentS vs ((lentP 0 ys).map (·.1))) (outs.map some) k p) := fun {i p} ⟨e1, c, e2⟩ => by
    by_cases hi : i ∈ (lentP 0 ys).map (·.2)
    · obtain ⟨k, v, c', r, q1, q2, q3, q4, q5⟩ := slot hi
      rw [q5] at e2
      cases e2
      rw [e1] at q2
      cases q2
      exact ⟨⟨e1, c', q3⟩, fun _ => ⟨k, q1, c, by rw [List.getElem?_map, q4]; rfl⟩⟩
    · rw [setAllE_out hi] at e2
      exact ⟨⟨e1, c, e2⟩, fun z => absurd z hi⟩
  refine ⟨⟨⟨setAllE_len, fun i r h => ?_⟩, a_same, fun x hx => a_keep x (.inl hx), ⟨by rw [setAllE_len]; exact rl.len, ar_fz, fun x hx => ar_fw x (.inl hx), fun i x r h1 h2 => ?_, fun i j p o1 o2 => rl.ds i j p (own o1).1 (own o2).1, ar_tb, rl.fn, Rel.tf (Tbi := Tbi.base) ar⟩⟩, fun p hp hw i z => ?_⟩
  · by_cases hi : i ∈ (lentP 0 ys).map (·.2)
    · obtain ⟨k, v, c', r', q1, q2, q3, q4, q5⟩ := slot hi
      rw [q3] at h
      cases h
      exact ⟨_, q5, rfl⟩
    · exact ⟨r, by rw [setAllE_out hi]; exact h, SLe.refl r⟩
  · by_cases hi : i ∈ (lentP 0 ys).map (·.2)
    · obtain ⟨k, v, c', r', q1, q2, q3, q4, q5⟩ := slot hi
      rw [q5] at h2
      cases h2
      rw [q2] at h1
      cases h1
      have q := ar_sl k _ _ q1 (by rw [List.getElem?_map, q4]; rfl)
      match r', q with
      | .d x, q => exact q
      | .s x, q => exact q
      | .c d, ⟨q, o, e, hq, hc, hf', hw'⟩ => exact ⟨q, o, e, hq, hc, hf', fun z => hw' (.inl z)⟩
    · rw [setAllE_out hi] at h2
      have q := rl.sl i x r h1 h2
      match x, r, q with
      | _, none, _ => exact True.intro
      | some v, some (.d x), q => exact Dq.mono a_same q
      | some v, some (.s x), q => obtain ⟨p, e, hq⟩ := q; exact ⟨p, e, a_same.seq hq⟩
      | some v, some (.c d), ⟨q, o, e, hq, hc, hf', hw'⟩ =>
        subst e
        have hW : Wc W σ env ((lentP 0 ys).map (·.2)) q := .inr ⟨i, hi, h1, d, h2⟩
        exact ⟨q, o, rfl, (a_keep q hW).trans hq, hc.mono a_same, (ar_fw q hW).1, hw'⟩
  · obtain ⟨z1, z2⟩ := own z
    by_cases hi : i ∈ (lentP 0 ys).map (·.2)
    · obtain ⟨k, z3⟩ := z2 hi
      exact hp k z3
    · exact hw (.inr ⟨i, hi, z1⟩)
theorem call_core {φ : Fn} {gd : List Nat} {Q : VK} (rl : Rel K W F H σ env) (rp : RRp K W F H σ env vs ys)
    (h : post K mg E W σ env F H (callY φ gd ys env) (fun r env' F' H' => ∀ w, RRv K W F' H' σ env' w r → Q w H')) : spM (Tbi := Tbi.base) K mg ys.length gd φ vs H Q E := by
  unfold callY at h
  cases hr : rdRs env ys with
  | none => rw [hr] at h; exact h.elim
  | some as =>
    rw [hr] at h
    simp only at h
    split at h
    · rename_i hc
      obtain ⟨hg, nd⟩ := hc
      refine ⟨rp.len, Wc W σ env ((lentP 0 ys).map (·.2)), F, as, rel_args rl rp hr nd, fun k c hk => ?_, ?_⟩
      · obtain ⟨y, hy, hq⟩ := (rdRs_get hr).2 hk
        cases y with
        | b i => rw [← hg]; exact List.mem_map.mpr ⟨(k, i), lentP_mem.mpr ⟨Nat.zero_le _, hy⟩, rfl⟩
        | _ => cases hq
      · rw [← hg]
        cases hφ : φ as with
        | no => rw [hφ] at h; exact h.elim
        | exc x outs =>
          rw [hφ] at h
          exact fun F' H' cls od a xr => h F' H' cls od (aft_call rl rp hr nd a).1 xr
        | ok r outs =>
          rw [hφ] at h
          simp only at h
          split at h
          · rename_i nb
            intro F' H' v a rv
            obtain ⟨af, no⟩ := aft_call rl rp hr nd a
            refine h F' H' af v ?_
            cases r with
            | d x => exact rv
            | t xs => exact rv
            | s ns => exact rv
            | b j => cases nb
            | n c =>
              obtain ⟨p, o, rfl, hp, hcr, hf, hw, ho⟩ := rv
              exact ⟨p, o, rfl, hp, hcr, hf, fun z => hw (.inl z), no p ho hw⟩
          · exact h.elim
    · exact h.elim
end
end
end Ev
set_option maxHeartbeats 1000000
/-! Ev30: defs and calls of them. -/
namespace Ev
open PySem PySem.Spec PyProof.Rows L2
variable [Tbi : Tabl]
/-- a def keeps the promise sp wherever no guard waits -/
structure FnG (P : Program) (w : World) (K : PySem.W.Frag) (mg : Str → Option Value) (base : Heap) (CX : CXT) (k : Nat) (f : Addr) (fd : FuncData) (ps : List Str) (sp : Sp) : Prop where
  len : ∀ vs H Q E, sp vs H Q E → vs.length = ps.length
  go : ∀ (A : Around) (outer : List PySem.Env) (s : Shared) (H : Hp) (args : Args) (us : List Value) (vs : List V) (Q : VK) (E : XK), Room k A → A.guards = some [] → Env0 P w K mg base A outer s H → BindsTo s fd args (ps.zip us) → Vals vs us → sp vs H Q E →
    codeAny (model P w) A (.call (.ref f) args) (L2.CR CX outer P w H s Q E) s
theorem FnG.mono {P : Program} {w : World} {K : PySem.W.Frag} {mg : Str → Option Value} {base : Heap} {CX : CXT} {j k : Nat} {f : Addr} {fd : FuncData} {ps : List Str} {sp : Sp} (F : FnG P w K mg base CX j f fd ps sp) (h : j ≤ k) : FnG P w K mg base CX k f fd ps sp :=
  ⟨F.len, fun A outer s H args us vs Q E hr => F.go A outer s H args us vs Q E (hr.mono h)⟩
section
variable {K : PySem.W.Frag} {mg : Str → Option Value} {E : XK} {X : Cx} {CX : CXT} {k : Nat} {f : Addr} {fd : FuncData} {ps : List Str} {x : Str} {p pos : Pos} {e : Expr} {es : List Expr}
theorem run_g {sp : Sp} {pins : List (Addr × Obj)} {σ : L2.St} {H : Hp} {s : Shared} {Q : VK} {us : List Value} {vs : List V} (F : FnG X.prog X.w X.K X.mg X.base CX k f fd ps sp) (hr : Room k X.A) (hgd : X.A.guards = some []) (hb : Binds X.K fd ps []) (hx : Passes CX X E)
    (I : Inv X pins σ H s) (r : Vals vs us) (h : sp vs H Q E) : wpAny (model X.prog X.w) X.A (call (.ref f) us) (EP X pins σ Q) X.xe s := by
  have hl : us.length = ps.length := by rw [← r.length]; exact F.len _ _ _ _ h
  have bt := hb s us I.kIn (by rw [List.append_nil]; exact hl)
  rw [List.append_nil] at bt
  refine wpAny_call (codeAny_mono (F.go X.A X.stack s H ⟨us, []⟩ us vs Q E hr hgd I.env0 bt r h) fun r s' hq => ?_)
  match r, hq with
  | .error e, hq => exact hx pins σ H s e s' I hq
  | .ok (.ret u), hq => exact I.after hq
  | .ok .next, hq => exact False.elim hq
  | .ok .brk, hq => exact False.elim hq
  | .ok .cont, hq => exact False.elim hq
def callM (φ : Fn) (gd : List Nat) (ls : List Bool) (fs : M (List Rv)) : M Rv := M.bind fs fun rs => M.bind (prep ls rs) (callY φ gd)
theorem prep_len : ∀ {ls : List Bool} {xs ys : List Rv} {env env' : Ev.Env}, prep ls xs env = .ok ys env' → ys.length = ls.length
  | [], [], ys, env, env', h => by cases h; rfl
  | l :: ls, x :: xs, ys, env, env', h => by
    unfold prep M.bind at h
    split at h
    · rename_i y env1 h1
      cases h2 : prep ls xs env1 with
      | ok zs env2 =>
        simp only [h2] at h
        cases h
        exact congrArg (· + 1) (prep_len h2)
      | exc x env2 => simp only [h2] at h; cases h
      | no => simp only [h2] at h; cases h
    · cases h
    · cases h
  | [], _ :: _, _, _, _, h => by cases h
  | _ :: _, [], _, _, _, h => by cases h
theorem prep_post {σ : L2.St} {F H : Hp} {W : Addr → Prop} {env : Ev.Env} {ls : List Bool} {vs : List V} {xs : List Rv} {kk : List Rv → M Rv} {Q : Rv → Ev.Env → Hp → Hp → Prop} (rl : Rel K W F H σ env) (rx : RRvs K σ env F H W vs xs) (h : post K mg E W σ env F H (M.bind (prep ls xs) kk env) Q) :
    ∃ ys env' F', Aft K W σ env F H env' F' H ∧ RRp K W F' H σ env' vs ys ∧ ys.length = ls.length ∧ post K mg E W σ env' F' H (kk ys env') Q := by
  have h := post_bind h
  rcases prep_run (ls := ls) rl rx with e | ⟨ys, env', F', e, a, q⟩
  · rw [e] at h; exact h.elim
  · have hl := prep_len e
    rw [e] at h
    exact ⟨ys, env', F', a, q, hl, h F' H a⟩
theorem de_call {φ : Fn} {gd : List Nat} {ls : List Bool} {fs : M (List Rv)} (F : FnG X.prog X.w X.K X.mg X.base CX k f fd ps (spM (Tbi := Tbi.base) X.K mg ps.length gd φ)) (hl : ls.length = ps.length) (hr : Room k X.A) (hgd : X.A.guards = some []) (hg : Gl X x) (hm : X.mg x = some (.ref f)) (hk : PySem.W.keepIn X.K (.ref f) = true) (hb : Binds X.K fd ps []) (hx : Passes CX X E)
    (ha : PA X (e :: es) (tA X.K mg E fs)) (hdb : (x == ("__debug__" : Str)) = false) (he : starEach (e :: es) X.env = (false, eval e X.env) :: starEach es X.env) (hpl : (backTo pos (starEach es X.env)).any (·.1) = false) :
    PE X (.Call (.Name x p) (e :: es) [] pos) (tE X.K mg E (callM φ gd ls fs)) := by
  refine ⟨fun pins s σ H Q I h => ?_⟩
  have hA : tA X.K mg E fs σ H (fun vs H1 => spM (Tbi := Tbi.base) X.K mg ps.length gd φ vs H1 Q E) := tA_args h fun W F env H vs xs rl rx hq => by
    obtain ⟨ys, env', F', a, rp, hy, h2⟩ := prep_post rl rx hq
    have := call_core a.rel rp h2
    rw [hy, hl] at this
    exact this
  refine wpAny_Call_Name_kw (ld_glob I hg hm ?_ hdb)
  refine PySem.W.callWith_K (h₀ := X.base) I.ok.mod.kin hk (thn (ha.run pos pins s σ H _ I hA) fun us s1 ⟨vs, H1, I1, r, q⟩ => ⟨I1.kIn, ?_⟩) he hpl
  exact run_g F hr hgd hb hx I1 r q
theorem de_call0 {φ : Fn} {gd : List Nat} (F : FnG X.prog X.w X.K X.mg X.base CX k f fd ps (spM (Tbi := Tbi.base) X.K mg ps.length gd φ)) (hl : ps = []) (hr : Room k X.A) (hgd : X.A.guards = some []) (hg : Gl X x) (hm : X.mg x = some (.ref f)) (hk : PySem.W.keepIn X.K (.ref f) = true) (hb : Binds X.K fd ps []) (hx : Passes CX X E)
    (hdb : (x == ("__debug__" : Str)) = false) : PE X (.Call (.Name x p) [] [] pos) (tE X.K mg E (callM φ gd [] (M.ret []))) := by
  refine ⟨fun pins s σ H Q I h => ?_⟩
  have hS : spM (Tbi := Tbi.base) X.K mg ps.length gd φ [] H Q E := by
    obtain ⟨W, F, env, rl, h⟩ := h
    have h : post X.K mg E W σ env F H (M.bind (prep [] []) (callY φ gd) env) _ := h
    obtain ⟨ys, env', F', a, rp, hy, h2⟩ := prep_post (ls := []) (vs := []) (xs := []) rl True.intro h
    have := call_core a.rel rp h2
    rw [hy] at this
    rw [hl]
    exact this
  refine wpAny_Call_Name_kw (ld_glob I hg hm ?_ hdb)
  exact PySem.W.callWith_K0 I.kIn hk (run_g (us := []) F hr hgd hb hx I .nil hS)
/-! ### the def's side -/
theorem g_of (h0 : Tbi.fx = []) {P : Program} {w : World} {base : Heap} {name qual : Str} {params : Arguments} {body : List Stmt} {scope : Scope} {dV kV doc pm cdv ct oc : Value} {an od : Option Addr} {osl : Array (Option Value)} {N : List Str} {gd : List Nat} {fb : M Fl}
    (lk : K.lookup f = some ⟨oc, od, .func (PySem.W.fnOf name qual params body scope dV kV doc pm an cdv ct), osl⟩) (hcd : PySem.W.codeIn K cdv qual = true) (S : FnScope N ps scope) (hgd : ∀ g ∈ gd, g < ps.length) (nd : gd.Nodup)
    (hbody : ∀ (A : Around) (outer : List PySem.Env) (s : Shared) (H : Hp) (E : XK), Room k (A.deeper (envOfC qual scope s.heap.objs.size f cdv)) → (A.deeper (envOfC qual scope s.heap.objs.size f cdv)).guards = some [] →
      PSs (cxOf CX P w K mg base N qual scope f cdv A outer s H E) body (tS K mg E gd fb)) :
    FnG P w K mg base CX (k + 1) f (PySem.W.fnOf name qual params body scope dV kV doc pm an cdv ct) ps (spM K mg ps.length gd (runD N.length gd fb)) := by
  have hpn : ps.length ≤ N.length := by
    have := congrArg List.length S.pre
    rw [List.length_take] at this
    omega
  refine ⟨fun vs H Q E q => q.1, fun A outer s H args us vs Q E hr hgs e0 hb r hsp => ?_⟩
  have hl := hsp.1
  have KX : K.In s.heap := e0.mod.kin.keeps fun b o e => (e0.bs b o e).1
  have lim : s.heap.NoLimit := e0.mod.nolimit.keeps fun b o e => (e0.bs b o e).1
  have hkind : ∀ y ∈ ps.zip us, scope.names.lookup y.1 = some .local ∨ (scope.names.lookup y.1 = some .cell ∧ ((cellsFrom (s.heap.objs.size + 1) scope.names []).lookup y.1).isSome = true) := fun ⟨n, v⟩ hy =>
    (S.par n (List.of_mem_zip hy).1).elim .inl fun q => .inr ⟨q, PySem.W.cellsFrom_some _ _ _ (.inl q)⟩
  refine codeAny_call_function hr.depth (KX _ _ lk) rfl S.co S.gen rfl (PySem.W.codeRec_of KX hcd) (hb _ _ _ _ ?_)
  refine wpAny_newFunctionEnv_cells S.kind hkind fun env he s1 x => ?_
  subst he
  refine ⟨lim.keeps x.toInCall.keep, codeAny_func ?_⟩
  have ht := hbody A outer s H E (hr.deeper _) hgs
  have I : Inv (cxOf CX P w K mg base N qual scope f cdv A outer s H E) [] (L2.start N vs) H s1 := inv_start S hr.hd e0 hl r x
  have hq : tS K mg E gd fb { nx := fun _ H' => Q .non H', rt := Q } (L2.start N vs) H := by
    obtain ⟨_, W, F, as, rl, hown, hp⟩ := hsp
    exact ⟨W, F, startE N.length as, rel_start h0 rl (by omega), spM_run h0 (by omega) (fun g hg => by rw [hl]; exact hgd g hg) nd hp⟩
  refine wpAny_mono (ht.run [] s1 (L2.start N vs) H _ I hq) (fun fl s' hs => ?_) fun e s' hs => hs
  have fin : ∀ {σ' : L2.St} {H' : Hp} {v : V} {u : Value}, Inv (cxOf CX P w K mg base N qual scope f cdv A outer s H E) [] σ' H' s' → RelV v u → Q v H' → CE outer P w H s Q u s' :=
    fun {σ' H' v u} J rv q => ⟨v, H', J.os, J.bare, J.base, J.hok, rv, q⟩
  match fl, hs with
  | .ret u, hs =>
    obtain ⟨v, σ', H', J, rv, q⟩ := hs
    exact fin J rv q
  | .next, hs =>
    obtain ⟨σ', H', J, q⟩ := hs
    exact fin (v := V.non) (u := Value.none) J rfl q
  | .brk, hs =>
    obtain ⟨_, _, _, q⟩ := hs
    exact False.elim q
  | .cont, hs =>
    obtain ⟨_, _, _, q⟩ := hs
    exact False.elim q
end
end Ev
set_option maxHeartbeats 1000000
/-! Ev31: calls of defs with keywords. -/
namespace Ev
open PySem PySem.Spec PyProof.Rows L2
variable [Tbi : Tabl]
def permL {α : Type} (pm : List Nat) (l : List α) : List α := pm.filterMap fun i => l[i]?
section
variable {K : PySem.W.Frag} {mg : Str → Option Value} {E : XK} {X : Cx} {CX : CXT} {k : Nat} {f : Addr} {fd : FuncData} {ps ks : List Str} {x : Str} {p pos : Pos} {e : Expr} {es : List Expr} {kws : List Keyword}
theorem RRvs.app {σ : L2.St} {F H : Hp} {env : Ev.Env} : ∀ {vs us : List V} {xs ys : List Rv} {W : Addr → Prop}, RRvs K σ env F H W vs xs → RRvs K σ env F H (fun a => W a ∨ pends vs xs a) us ys → RRvs K σ env F H W (vs ++ us) (xs ++ ys)
  | [], us, [], ys, W, _, h => h.less fun _ => .inl
  | v :: vs, us, x :: xs, ys, W, ⟨h1, h2⟩, h => ⟨h1, RRvs.app h2 (h.less fun a ha => by
      rcases ha with (ha | ha) | ha
      · exact .inl ha
      · exact .inr (.inl ha)
      · exact .inr (.inr ha))⟩
  | [], _, _ :: _, _, _, h, _ => h.elim
  | _ :: _, _, [], _, _, h, _ => h.elim
theorem tA_len {σ : L2.St} {H : Hp} {Q : List V → Hp → Prop} {fs : M (List Rv)} {n : Nat} (hn : ∀ env r env', fs env = .ok r env' → r.length = n) (h : tA K mg E fs σ H Q) : tA K mg E fs σ H (fun vs H1 => vs.length = n ∧ Q vs H1) := by
  obtain ⟨W, F, env, rl, h⟩ := h
  exact ⟨W, F, env, rl, h.imp fun xs env1 F1 H1 e a1 h1 vs rv => ⟨(RRvs.length rv).trans (hn _ _ _ e), h1 vs rv⟩⟩
theorem RRp.perm {W : Addr → Prop} {σ : L2.St} {F H : Hp} {env : Ev.Env} {vs : List V} {ys : List Rv} (h : RRp K W F H σ env vs ys) : ∀ pm : List Nat, RRp K W F H σ env (permL pm vs) (permL pm ys)
  | [] => True.intro
  | i :: pm => by
    have ih := h.perm pm
    unfold permL at ih ⊢
    rw [List.filterMap_cons, List.filterMap_cons]
    cases hy : ys[i]? with
    | none =>
      have : vs[i]? = none := by
        rw [List.getElem?_eq_none_iff] at hy ⊢
        rw [h.len]; exact hy
      rw [this]
      exact ih
    | some y =>
      obtain ⟨v, hv, rv, n⟩ := h.get hy
      rw [hv]
      exact ⟨⟨rv, n⟩, ih⟩
theorem dk_nil : PK X [] (tA K mg E (M.ret [])) := by
  have h : PK X [] tNil := pk_nil
  exact ⟨fun pos pins s σ H Q I ⟨W, F, env, rl, h'⟩ => h.run pos pins s σ H Q I (h' F H (Aft.refl rl) [] True.intro)⟩
theorem dk_cons {nm kpos} {ff : M Rv} {fs : M (List Rv)} (ha : PE X e (tE K mg E ff)) (hr : PK X kws (tA K mg E fs)) : PK X (⟨nm, e, kpos⟩ :: kws) (tA K mg E (M.bind ff fun x => M.bind fs fun xs => M.ret (x :: xs))) := by
  have h := pk_cons (nm := nm) (kpos := kpos) ha hr
  refine ⟨fun pos pins s σ H Q I ⟨W, F, env, rl, q⟩ => h.run pos pins s σ H Q I ?_⟩
  refine ⟨W, F, env, rl, (post_bind q).imp fun x env1 F1 H1 _ a1 h1 v rv => ?_⟩
  refine ⟨Wp W v x, F1, env1, rv.hold a1.rel, ((post_bind h1).more (W' := Wp W v x) fun _ => .inl).imp fun xs env2 F2 H2 _ a2 h2 vs rvs => ?_⟩
  exact h2 a2 F2 H2 (Aft.refl (a2.rel.less fun _ => .inl)) (v :: vs) ⟨rv.keep a2, rvs⟩
def callKM (φ : Fn) (gd : List Nat) (ls : List Bool) (pm : List Nat) (fs ks : M (List Rv)) : M Rv := M.bind fs fun rs => M.bind ks fun zs => M.bind (prep ls (rs ++ zs)) fun ys => callY φ gd (permL pm ys)
/-- how the keywords bind -/
def BindsK (fd : FuncData) (ps ks : List Str) (m : Nat) (pm : List Nat) : Prop := ∀ us ws : List Value, us.length = m → ws.length = ks.length → bindArgs fd ⟨us, ks.zip ws⟩ = pure (ps.zip (permL pm (us ++ ws)))
theorem permL_vals {pm : List Nat} {vs : List V} {us : List Value} (h : Vals vs us) : Vals (permL pm vs) (permL pm us) := by
  induction pm with
  | nil => exact .nil
  | cons i pm ih =>
    unfold permL at ih ⊢
    rw [List.filterMap_cons, List.filterMap_cons]
    cases hv : vs[i]? with
    | none =>
      have : us[i]? = none := by
        rw [List.getElem?_eq_none_iff] at hv ⊢
        rw [← h.length]; exact hv
      rw [this]; exact ih
    | some v =>
      obtain ⟨u, hu, r⟩ := h.get hv
      rw [hu]; exact .cons r ih
theorem run_gk {sp : Sp} {pins : List (Addr × Obj)} {σ : L2.St} {H : Hp} {s : Shared} {Q : VK} {us ws : List Value} {vs zs : List V} {m : Nat} {pm : List Nat} (F : FnG X.prog X.w X.K X.mg X.base CX k f fd ps sp) (hr : Room k X.A) (hgd : X.A.guards = some []) (hb : BindsK fd ps ks m pm) (hx : Passes CX X E)
    (hu : us.length = m) (hw : ws.length = ks.length) (I : Inv X pins σ H s) (r : Vals vs us) (rz : Vals zs ws) (h : sp (permL pm (vs ++ zs)) H Q E) : wpAny (model X.prog X.w) X.A (call (.ref f) us (ks.zip ws)) (EP X pins σ Q) X.xe s := by
  refine wpAny_call (codeAny_mono (F.go X.A X.stack s H ⟨us, ks.zip ws⟩ (permL pm (us ++ ws)) (permL pm (vs ++ zs)) Q E hr hgd I.env0 (.of_eq (hb us ws hu hw)) (permL_vals (r.append rz)) h) fun r s' hq => ?_)
  match r, hq with
  | .error e, hq => exact hx pins σ H s e s' I hq
  | .ok (.ret u), hq => exact I.after hq
  | .ok .next, hq => exact False.elim hq
  | .ok .brk, hq => exact False.elim hq
  | .ok .cont, hq => exact False.elim hq
section
variable {φ : Fn} {gd : List Nat} {ls : List Bool} {pm : List Nat} {fs fk : M (List Rv)} {m : Nat}
theorem km_run {W : Addr → Prop} {σ : L2.St} {F H : Hp} {env : Ev.Env} {vs zs : List V} {xs ys : List Rv} {Q : VK} (rl : Rel K W F H σ env) (rx : RRvs K σ env F H W vs xs) (ry : RRvs K σ env F H (fun a => W a ∨ pends vs xs a) zs ys)
    (h : post K mg E W σ env F H (M.bind (prep ls (xs ++ ys)) (fun ys => callY φ gd (permL pm ys)) env) (fun r env' F' H' => ∀ w, RRv K W F' H' σ env' w r → Q w H')) (hp : ∀ {α : Type} {l : List α}, l.length = ls.length → (permL pm l).length = ps.length) :
    spM (Tbi := Tbi.base) K mg ps.length gd φ (permL pm (vs ++ zs)) H Q E := by
  obtain ⟨ys', env', F', a, rp, hy, h2⟩ := prep_post rl (RRvs.app rx ry) h
  have := call_core a.rel (rp.perm pm) h2
  rw [hp hy] at this
  exact this
theorem de_callK (F : FnG X.prog X.w X.K X.mg X.base CX k f fd ps (spM (Tbi := Tbi.base) X.K mg ps.length gd φ)) (hp : ∀ {α : Type} {l : List α}, l.length = ls.length → (permL pm l).length = ps.length) (hr : Room k X.A) (hgd : X.A.guards = some []) (hg : Gl X x) (hm : X.mg x = some (.ref f)) (hk : PySem.W.keepIn X.K (.ref f) = true) (hb : BindsK fd ps ks m pm) (hx : Passes CX X E)
    (ha : PA X (e :: es) (tA X.K mg E fs)) (hkw : PK X kws (tA X.K mg E fk)) (hall : (backToKw pos (keywordEach kws X.env)).all (·.1.isSome) = true) (hks : (backToKw pos (keywordEach kws X.env)).filterMap (·.1) = ks)
    (hla : ∀ env r env', fs env = .ok r env' → r.length = m) (hlk : ∀ env r env', fk env = .ok r env' → r.length = ks.length)
    (hdb : (x == ("__debug__" : Str)) = false) (he : starEach (e :: es) X.env = (false, eval e X.env) :: starEach es X.env)
    (hpl : ((backTo pos (starEach (e :: es) X.env)).any (·.1) || (backToKw pos (keywordEach kws X.env)).any (·.1.isNone)) = false) :
    PE X (.Call (.Name x p) (e :: es) kws pos) (tE X.K mg E (callKM φ gd ls pm fs fk)) := by
  refine ⟨fun pins s σ H Q I h => ?_⟩
  have hA : tA X.K mg E fs σ H (fun vs H1 => tA X.K mg E fk σ H1 (fun zs H2 => zs.length = ks.length ∧ spM (Tbi := Tbi.base) X.K mg ps.length gd φ (permL pm (vs ++ zs)) H2 Q E)) := by
    refine tA_args h (R' := fun vs H1 => tA X.K mg E fk σ H1 (fun zs H2 => zs.length = ks.length ∧ spM (Tbi := Tbi.base) X.K mg ps.length gd φ (permL pm (vs ++ zs)) H2 Q E)) fun W F env H vs xs rl rx hq => tA_len hlk ?_
    refine ⟨fun a => W a ∨ pends vs xs a, F, env, rx.hold rl, ?_⟩
    refine ((post_bind hq).more (W' := fun a => W a ∨ pends vs xs a) fun _ => .inl).imp fun ys env2 F2 H2 _ a2 h2 zs rvs => ?_
    exact km_run (a2.rel.less fun _ => .inl) (rx.keep a2) rvs (h2 a2) hp
  refine wpAny_Call_Name_kw (ld_glob I hg hm ?_ hdb)
  refine PySem.W.callWith_KW (h₀ := X.base) I.ok.mod.kin hk hall (thn (ha.run pos pins s σ H _ I (tA_len hla hA)) fun us s1 ⟨vs, H1, I1, r, hl1, q⟩ => ?_) hpl he
  refine thn (hkw.run pos pins s1 σ H1 _ I1 q) fun ws s2 ⟨zs, H2, I2, rz, hl2, q2⟩ => ⟨I2.kIn, ?_⟩
  rw [hks]
  exact run_gk (us := us) F hr hgd hb hx (by rw [← r.length, hl1]) (by rw [← rz.length, hl2]) I2 r rz q2
theorem de_callK0 (F : FnG X.prog X.w X.K X.mg X.base CX k f fd ps (spM (Tbi := Tbi.base) X.K mg ps.length gd φ)) (hp : ∀ {α : Type} {l : List α}, l.length = ls.length → (permL pm l).length = ps.length) (hr : Room k X.A) (hgd : X.A.guards = some []) (hg : Gl X x) (hm : X.mg x = some (.ref f)) (hk : PySem.W.keepIn X.K (.ref f) = true) (hb : BindsK fd ps ks 0 pm) (hx : Passes CX X E)
    (hkw : PK X kws (tA X.K mg E fk)) (hall : (backToKw pos (keywordEach kws X.env)).all (·.1.isSome) = true) (hks : (backToKw pos (keywordEach kws X.env)).filterMap (·.1) = ks)
    (hlk : ∀ env r env', fk env = .ok r env' → r.length = ks.length)
    (hdb : (x == ("__debug__" : Str)) = false) (hpl : ((backTo pos (starEach [] X.env)).any (·.1) || (backToKw pos (keywordEach kws X.env)).any (·.1.isNone)) = false) :
    PE X (.Call (.Name x p) [] kws pos) (tE X.K mg E (callKM φ gd ls pm (M.ret []) fk)) := by
  refine ⟨fun pins s σ H Q I h => ?_⟩
  have hA : tA X.K mg E fk σ H (fun zs H2 => zs.length = ks.length ∧ spM (Tbi := Tbi.base) X.K mg ps.length gd φ (permL pm ([] ++ zs)) H2 Q E) := by
    refine tA_len hlk ?_
    obtain ⟨W, F, env, rl, hq⟩ := h
    have hq : post X.K mg E W σ env F H (M.bind fk (fun zs => M.bind (prep ls ([] ++ zs)) fun ys => callY φ gd (permL pm ys)) env) _ := hq
    refine ⟨W, F, env, rl, (post_bind hq).imp fun ys env2 F2 H2 _ a2 h2 zs rvs => ?_⟩
    exact km_run (vs := []) (xs := []) a2.rel True.intro (rvs.less fun a ha => ha.elim id False.elim) h2 hp
  refine wpAny_Call_Name_kw (ld_glob I hg hm ?_ hdb)
  refine PySem.W.callWith_KW0 (h₀ := X.base) I.ok.mod.kin hk hall (thn (hkw.run pos pins s σ H _ I hA) fun ws s2 ⟨zs, H2, I2, rz, hl2, q2⟩ => ⟨I2.kIn, ?_⟩) hpl
  rw [hks]
  exact run_gk (us := []) F hr hgd hb hx rfl (by rw [← rz.length, hl2]) I2 .nil rz q2
end
end
end Ev
set_option maxHeartbeats 1000000
/-! Ev32: a lambda with parameters. -/
namespace Ev
open PySem PySem.Spec PyProof.Rows L2
variable [Tbi : Tabl]
section
variable {K : PySem.W.Frag} {mg : Str → Option Value} {E : XK} {CX : CXT} {P : Program} {w : World} {base : Heap} {N ps fr : List Str} {F : NdefX.NF} {body : Expr} {f : Addr} {k : Nat}
/-- the frame of a lambda: the arguments, then what it captured -/
def startL (n : Nat) (as : List R) (wE : List (Option R)) : Ev.Env := as.map some ++ (wE ++ List.replicate (n - as.length - wE.length) none)
def lamFn (n : Nat) (wE : List (Option R)) (fB : M Rv) : Fn := fun as => match M.bind fB asD (startL n as wE) with
  | .ok d _ => .ok (.d d) []
  | .exc x _ => .exc x []
  | .no => .no
variable (K) in
/-- what was captured is data -/
def CapD (F0 : Hp) (ws : List (Option V)) (wE : List (Option R)) : Prop := ws.length = wE.length ∧ ∀ (i : Nat) r, wE[i]? = some (some r) → ∃ v x, ws[i]? = some (some v) ∧ r = .d x ∧ Dq K F0 v x
theorem rel_startL {W : Addr → Prop} {F0 H : Hp} {vs : List V} {ws : List (Option V)} {as : List R} {wE : List (Option R)} (h0 : Tbi.fx = []) (rl : Rel K W F0 H (vs.map some) (as.map some)) (hn : vs.length + fr.length ≤ N.length) (hw : ws.length = fr.length) (hc : CapD K Tbi.f0 ws wE) :
    Rel K W F0 H (NdefX.startF N vs ws) (startL N.length as wE) := by
  have hl : vs.length = as.length := by simpa using rl.len
  have hwl := hc.1
  have lenE : (startL N.length as wE).length = N.length := by
    unfold startL
    rw [List.length_append, List.length_append, List.length_map, List.length_replicate]; omega
  have lenS : (NdefX.startF N vs ws).length = N.length := by
    unfold NdefX.startF
    rw [List.length_append, List.length_append, List.length_map, List.length_replicate]; omega
  -- a slot: an argument, or data
  have slot : ∀ {i : Nat} {x : Option V} {r : R}, (NdefX.startF N vs ws)[i]? = some x → (startL N.length as wE)[i]? = some (some r) → ((vs.map some)[i]? = some x ∧ (as.map some)[i]? = some (some r)) ∨ ∃ v d, x = some v ∧ r = .d d ∧ Dq K Tbi.f0 v d := fun {i x r} h1 h2 => by
    unfold NdefX.startF at h1
    unfold startL at h2
    by_cases hi : i < vs.length
    · rw [List.getElem?_append_left (by rw [List.length_map]; exact hi)] at h1
      rw [List.getElem?_append_left (by rw [List.length_map]; omega)] at h2
      exact .inl ⟨h1, h2⟩
    · rw [List.getElem?_append_right (by rw [List.length_map]; omega), List.length_map] at h1
      rw [List.getElem?_append_right (by rw [List.length_map]; omega), List.length_map] at h2
      by_cases hj : i - as.length < wE.length
      · rw [List.getElem?_append_left hj] at h2
        rw [List.getElem?_append_left (by omega), hl] at h1
        obtain ⟨v, d, e1, e2, q⟩ := hc.2 _ _ h2
        rw [e1] at h1
        exact .inr ⟨v, d, (Option.some.inj h1).symm, e2, q⟩
      · rw [List.getElem?_append_right (by omega)] at h2
        have := List.mem_of_getElem? h2
        rw [List.mem_replicate] at this
        cases this.2
  have own : ∀ i p, Own (NdefX.startF N vs ws) (startL N.length as wE) i p → Own (vs.map some) (as.map some) i p := fun i p ⟨e1, c, e2⟩ => by
    rcases slot e1 e2 with ⟨q1, q2⟩ | ⟨v, d, q1, q2, _⟩
    · exact ⟨q1, c, q2⟩
    · cases q2
  refine ⟨by rw [lenS, lenE], rl.fz, rl.fw, fun i x r h1 h2 => ?_, fun i j p o1 o2 => rl.ds i j p (own i p o1) (own j p o2), rl.tb, fun j hj => (by rw [h0] at hj; cases hj), rl.tf⟩
  cases r with
  | none => cases x <;> exact True.intro
  | some r =>
    rcases slot h1 h2 with ⟨q1, q2⟩ | ⟨v, d, rfl, rfl, q⟩
    · exact rl.sl i x (some r) q1 q2
    · exact Dq.mono rl.tf.2 q
structure LamG (P : Program) (w : World) (K : PySem.W.Frag) (mg : Str → Option Value) (base : Heap) (CX : CXT) (k : Nat) (f : Addr) (F : NdefX.NF) (body : Expr) (fr : List Str) (ws : List (Option V)) (sp : Sp) : Prop where
  go : ∀ (A : Around) (outer : List PySem.Env) (s : Shared) (H : Hp) (pm ctv : Value) (us : List Value) (vs : List V) (Q : VK) (E : XK), Room k A → A.guards = some [] → Env0 P w K mg base A outer s H →
    s.heap.get? f = some (PySem.W.kla_obj F.name F.qual F.params body F.scope F.cl pm F.c ctv) → H F.c = some (LamX.CodeO F.c F.qual) → NdefX.CellsAt F.cl fr ws s.heap H → Vals vs us → sp vs H Q E →
    codeAny (model P w) A (.call (.ref f) ⟨us, []⟩) (L2.CR CX outer P w H s Q E) s
theorem lam_of {ws : List (Option V)} {wE : List (Option R)} {fB : M Rv} (h0 : Tbi.fx = []) (S : NdefX.NScope N ps fr F.scope) (hb : ∀ (pm ctv : Value) (us : List Value), us.length = ps.length → bindArgs (PySem.W.kla_fn F.name F.qual F.params body F.scope F.cl pm (.ref F.c) ctv) ⟨us, []⟩ = pure (ps.zip us))
    (hc : CapD K Tbi.f0 ws wE)
    (hbody : ∀ (A : Around) (outer : List PySem.Env) (s : Shared) (H : Hp) (E : XK), Room k (A.deeper (NdefX.envF F f s.heap.objs.size)) → (A.deeper (NdefX.envF F f s.heap.objs.size)).guards = some [] → PE (NdefX.ncx CX P w K mg base N F f A outer s H E) body (tE K mg E fB)) :
    LamG P w K mg base CX (k + 1) f F body fr ws (spM K mg ps.length [] (lamFn N.length wE fB)) := by
  refine ⟨fun A outer s H pm ctv us vs Q E hr hgs e0 ho hcd C r hsp => ?_⟩
  have hl := hsp.1
  have lim : s.heap.NoLimit := e0.mod.nolimit.keeps fun b o e => (e0.bs b o e).1
  have hpn : ps.length + fr.length ≤ N.length := by
    have := congrArg List.length S.pre
    rw [List.length_take, List.length_append] at this
    omega
  refine PySem.W.kla_callFunE hr.depth ho rfl S.co S.gen rfl (NdefX.codeO_at e0.hok hcd) ?_
  rw [hb pm ctv us (by rw [← r.length]; exact hl)]
  refine wpAny_pure (wpAny_newFunctionEnv S.nocell (fun ⟨n, _⟩ hy => S.par n (List.of_mem_zip hy).1) (fun h₁ hns hsb => ⟨lim.fresh _ hsb, ?_⟩) S.kind)
  show codeAny _ _ (.expr body (NdefX.envF F f s.heap.objs.size)) _ _
  have kp : ∀ b o, s.heap.get? b = some o → h₁.get? b = some o := fun b o e => hsb.extBut b o (Nat.ne_of_lt (Heap.lt_size e)) (Heap.get?_push_of_some _ e)
  have I : Inv (NdefX.ncx CX P w K mg base N F f A outer s H E) [] (NdefX.startF N vs ws) H { s with heap := h₁, toks := s.toks + (ps.zip us).length } := NdefX.inv_startN S hr.hd e0 hl r C hns kp
  have hq : tE K mg E fB (NdefX.startF N vs ws) H Q := by
    obtain ⟨_, W, F0, as, rl, hown, hp⟩ := hsp
    refine ⟨W, F0, startL N.length as wE, rel_startL h0 rl (by omega) C.len hc, ?_⟩
    unfold lamFn at hp
    unfold M.bind at hp
    have back : ∀ {F' H' : Hp} {env' : Ev.Env}, Aft K W (NdefX.startF N vs ws) (startL N.length as wE) F0 H env' F' H' → AftC K [] W F0 H F' H' vs [] := fun {F' H' env'} a => by
      refine ⟨a.same, a.keep, ⟨rfl, a.rel.fz, a.rel.fw, fun i x r h1 h2 => ?_, fun i j p o1 o2 => ?_, a.rel.tb, fun j hj => (by rw [h0] at hj; cases hj), a.rel.tf⟩⟩
      · simp [lentS] at h1
      · obtain ⟨e1, _⟩ := o1
        simp [lentS] at e1
    cases hf : fB (startL N.length as wE) with
    | no => rw [hf] at hp; exact hp.elim
    | exc x env1 =>
      rw [hf] at hp
      exact fun F' H' cls od a xr => hp F' H' cls od (back a) xr
    | ok rr env1 =>
      rw [hf] at hp
      intro F1 H1 a1 v rv
      rcases asD_run a1.rel rv with e | ⟨d, env2, F2, e, a2, hd⟩
      · simp only [e] at hp; exact hp.elim
      · simp only [e] at hp
        exact hp F2 H1 v (back (a1.trans a2)) hd
  refine PySem.W.kla_codeExpr (wpAny_mono ((hbody A outer s H E (hr.deeper _) hgs).run [] _ _ H Q I hq) (fun v s' hs => ?_) fun e s' hs => hs)
  obtain ⟨w', H', J, rv, q⟩ := hs
  exact ⟨w', H', J.os, J.bare, J.base, J.hok, rv, q⟩
end
end Ev
set_option maxHeartbeats 1000000
/-! Ev33: a function that was handed in, called; a lambda handed to a def. -/
namespace Ev
open PySem PySem.Spec PyProof.Rows L2
section
variable [Tbi : Tabl]
variable {K : PySem.W.Frag} {mg : Str → Option Value} {E : XK} {CX : CXT} {P : Program} {w : World} {base : Heap} {N ps fr : List Str} {F : NdefX.NF} {body : Expr} {f : Addr} {k : Nat}
theorem rel_ext {W : Addr → Prop} {F0 H H1 : Hp} {σ : L2.St} {env : Ev.Env} (rl : Rel K W F0 H σ env) (eN : LamX.ExtN H H1) (T1 : LamX.Tabs Tbi.T H1) : Aft K W σ env F0 H env F0 H1 := by
  have kw : ∀ a, W a → ∃ o, H a = some o ∧ isTup o = false ∧ H1 a = some o := fun a ha => by
    obtain ⟨_, o, h, t⟩ := rl.fw a ha
    exact ⟨o, h, t, eN a o h fun ps e => by subst e; cases t⟩
  refine ⟨ELe.refl _, Same.refl _, fun a ha => ?_, ⟨rl.len, fun a u e => eN a u (rl.fz a u e) fun ps z => rl.tf.1 a ps (by rw [e, z]), fun a ha => ⟨(rl.fw a ha).1, ?_⟩, fun i x r h1 h2 => ?_, rl.ds, ⟨T1, fun x hx => eN _ _ (rl.tb.2 x hx) fun ps => LamX.codeO_ne ps⟩, rl.fn, rl.tf⟩⟩
  · obtain ⟨o, h, _, h1⟩ := kw a ha
    rw [h, h1]
  · obtain ⟨o, _, t, h1⟩ := kw a ha
    exact ⟨o, h1, t⟩
  · have q := rl.sl i x r h1 h2
    match x, r, q with
    | _, none, _ => exact True.intro
    | some v, some (.d x), q => exact q
    | some v, some (.s x), q => exact q
    | some v, some (.c d), ⟨q, o, e, hq, hc, hf', hw'⟩ =>
      refine ⟨q, o, e, eN q o hq (fun ps z => ?_), hc, hf', hw'⟩
      subst z; cases d <;> exact hc.elim
/-- in Z the slot j holds a function that computes lam -/
def Handed (Z : Cx) (CX : CXT) (mg : Str → Option Value) (k j np : Nat) (lam : Fn) : Prop := ∃ (f : Addr) (F : NdefX.NF) (body : Expr) (fr : List Str) (ws : List (Option V)), j ∈ Tbi.fx ∧ Tbi.fv j = .ref f ∧ (F.c, F.qual) ∈ Tbi.cs ∧
  LamG Z.prog Z.w Z.K Z.mg Z.base CX k f F body fr ws (spM (Tbi := Tbi.base) Z.K mg np [] lam) ∧
  ∀ pins σ H s, Inv Z pins σ H s → (∃ pm ctv, s.heap.get? f = some (PySem.W.kla_obj F.name F.qual F.params body F.scope F.cl pm F.c ctv)) ∧ NdefX.CellsAt F.cl fr ws s.heap H
theorem de_fncall {Z : Cx} {j np : Nat} {lam : Fn} {ls : List Bool} {fs : M (List Rv)} {a : Str} {e : Expr} {es : List Expr} {p1 p2 : Pos} (hh : Handed Z CX mg k j np lam) (hl : ls.length = np) (hr : Room k Z.A) (hgd : Z.A.guards = some []) (hx : Passes CX Z E)
    (hN : Z.N[j]? = some a) (hv : Vis Z.env.scope a) (hd : (a == ("__debug__" : Str)) = false) (hcd : (a == ("__classdict__" : Str)) = false) (ha : PA Z (e :: es) (tA Z.K mg E fs)) (he : starEach (e :: es) Z.env = (false, eval e Z.env) :: starEach es Z.env) (hpl : (backTo p2 (starEach es Z.env)).any (·.1) = false) :
    PE Z (.Call (.Name a p1) (e :: es) [] p2) (tE Z.K mg E (callM lam [] ls fs)) := by
  obtain ⟨f, F, body, fr, ws, h1, h2, h3, L, st⟩ := hh
  refine ⟨fun pins s σ H Q I h => ?_⟩
  have hs : σ[j]? = some (some (.ref f)) := by
    obtain ⟨W, F, env, rl, _⟩ := h
    rw [← h2]; exact rl.fn j h1
  have hA : tA Z.K mg E fs σ H (fun vs H1 => H1 F.c = some (LamX.CodeO F.c F.qual) ∧ spM (Tbi := Tbi.base) Z.K mg np [] lam vs H1 Q E) := tA_args h fun W F env H vs xs rl rx hq => by
    obtain ⟨ys, env', F', a, rp, hy, h2⟩ := prep_post rl rx hq
    have := call_core a.rel rp h2
    rw [hy, hl] at this
    exact ⟨rl.tb.2 _ h3, this⟩
  refine wpAny_Call_Name_kw (thn ((pe_var (pos := p1) (i := j) hN hv hd hcd).run pins s σ H (fun v H1 => v = .ref f ∧ H1 = H) I ⟨.ref f, hs, rfl, rfl⟩) fun u s1 ⟨v, H1, I1, r1, q1⟩ => ?_)
  obtain ⟨ev, eH⟩ := q1
  subst ev
  rw [eH] at I1
  obtain rfl : u = Value.ref f := r1
  obtain ⟨⟨pm, ctv, of1⟩, _⟩ := st pins σ H s1 I1
  refine PySem.W.callWith_F ⟨_, _, _, _, of1⟩ (thn (ha.run p2 pins s1 σ H _ I1 hA) fun us s2 ⟨vs, H2, I2, r, hc, q⟩ => ?_) he hpl
  obtain ⟨⟨pm, ctv, of2⟩, C2⟩ := st pins σ H2 s2 I2
  refine ⟨⟨_, _, _, _, of2⟩, wpAny_call (codeAny_mono (L.go Z.A Z.stack s2 H2 pm ctv us vs Q E hr hgd I2.env0 of2 hc C2 r q) fun r s' hq => ?_)⟩
  match r, hq with
  | .error e, hq => exact hx pins σ H2 s2 e s' I2 hq
  | .ok (.ret u), hq => exact I2.after hq
  | .ok .next, hq => exact False.elim hq
  | .ok .brk, hq => exact False.elim hq
  | .ok .cont, hq => exact False.elim hq
/-- arguments, then a lambda -/
def PL (X : Cx) (es : List Expr) (lam : Expr) (t : TA) : Prop := ∀ (pos : Pos) (pins : List (Addr × Obj)) (s : Shared) (σ : L2.St) (H : Hp) (R : List Value → Shared → Prop), Inv X pins σ H s →
  t σ H (fun vs H1 => ∀ us s1, Inv X pins σ H1 s1 → Vals vs us → wpAny (model X.prog X.w) X.A (eval lam X.env) (fun v s2 => R (us ++ [v]) s2) X.xe s1) →
  wpAny (model X.prog X.w) X.A (spliced (backTo pos (starEach (es ++ [lam]) X.env))) R X.xe s
section
variable {X : Cx} {e lam : Expr} {es : List Expr} {te : TE} {t t' : TA}
theorem PL.imp (h : PL X es lam t) (k : ∀ σ H Q, t' σ H Q → t σ H Q) : PL X es lam t' := fun pos pins s σ H R I q => h pos pins s σ H R I (k _ _ _ q)
theorem pl_nil (hs : starEach [lam] X.env = [(false, eval lam X.env)]) : PL X [] lam tNil := fun pos pins s σ H R I h => by
  show wpAny _ _ (spliced (backTo pos (starEach [lam] X.env))) _ _ _
  rw [hs]
  show wpAny _ _ (spliced ((false, eval lam X.env) :: [])) _ _ s
  exact Calls.spliced_cons (wpAny_mono (h [] s I .nil) (fun v s2 q => Calls.spliced_nil q) fun _ _ x => x)
theorem tA_mono {σ : L2.St} {H : Hp} {fs : M (List Rv)} {Q Q' : List V → Hp → Prop} (h : tA K mg E fs σ H Q) (k : ∀ vs H1, Q vs H1 → Q' vs H1) : tA K mg E fs σ H Q' := by
  obtain ⟨W, F, env, rl, h⟩ := h
  exact ⟨W, F, env, rl, h.imp fun xs env1 F1 H1 _ a1 h1 vs rv => k _ _ (h1 vs rv)⟩
theorem dl_nil (hs : starEach [lam] X.env = [(false, eval lam X.env)]) : PL X [] lam (tA X.K mg E (M.ret [])) := (pl_nil hs).imp fun σ H Q ⟨W, F, env, rl, h⟩ => h F H (Aft.refl rl) [] True.intro
theorem dl_cons {f : M Rv} {fs : M (List Rv)} (ha : PE X e (tE X.K mg E f)) (hr : PL X es lam (tA X.K mg E fs)) (hs : starEach (e :: (es ++ [lam])) X.env = (false, eval e X.env) :: starEach (es ++ [lam]) X.env) :
    PL X (e :: es) lam (tA X.K mg E (M.bind f fun x => M.bind fs fun xs => M.ret (x :: xs))) := fun pos pins s σ H R I h => by
  show wpAny _ _ (spliced (backTo pos (starEach (e :: (es ++ [lam])) X.env))) _ _ _
  rw [hs]
  show wpAny _ _ (spliced ((false, eval e X.env) :: backTo pos (starEach (es ++ [lam]) X.env))) _ _ s
  have h2 : tE X.K mg E f σ H (fun x H1 => tA X.K mg E fs σ H1 fun xs H2 => ∀ us s1, Inv X pins σ H2 s1 → Vals (x :: xs) us → wpAny (model X.prog X.w) X.A (eval lam X.env) (fun v s2 => R (us ++ [v]) s2) X.xe s1) := by
    obtain ⟨W, F, env, rl, h⟩ := h
    refine ⟨W, F, env, rl, (post_bind h).imp fun x env1 F1 H1 _ a1 h1 v rv => ?_⟩
    refine ⟨Wp W v x, F1, env1, rv.hold a1.rel, ((post_bind h1).more (W' := Wp W v x) fun _ => .inl).imp fun xs env2 F2 H2 _ a2 h2 vs rvs => ?_⟩
    exact h2 a2 F2 H2 (Aft.refl (a2.rel.less fun _ => .inl)) (v :: vs) ⟨rv.keep a2, rvs⟩
  refine Calls.spliced_cons (thn (ha.run pins s σ H _ I h2) fun u s1 ⟨x, H1, I1, r1, q1⟩ => ?_)
  exact hr pos pins s1 σ H1 _ I1 (tA_mono q1 fun vs H2 q us s2 I2 r2 => q (u :: us) s2 I2 (.cons r1 r2))
end
end
end Ev
set_option maxHeartbeats 1000000
/-! Ev34: a def that is handed a lambda. -/
namespace Ev
open PySem PySem.Spec PyProof.Rows L2
section
variable {K : PySem.W.Frag} {mg : Str → Option Value} {E : XK} {CX : CXT} {P : Program} {w : World} {base : Heap} {N ps fr : List Str} {F : NdefX.NF} {body : Expr} {f : Addr} {k : Nat}
theorem rel_inst {t1 t2 : Tabl} {W : Addr → Prop} {F0 H : Hp} {σ : L2.St} {env : Ev.Env} (hT : t1.T = t2.T) (hx : t1.fx = t2.fx) (hv : t1.fv = t2.fv) (hcs : ∀ x ∈ t2.cs, x ∈ t1.cs) (h0 : Same t2.f0 t1.f0) (r : Rel (Tbi := t1) K W F0 H σ env) : Rel (Tbi := t2) K W F0 H σ env :=
  Rel.mk (Tbi := t2) (Rel.len (Tbi := t1) r) (Rel.fz (Tbi := t1) r) (Rel.fw (Tbi := t1) r) (Rel.sl (Tbi := t1) r) (Rel.ds (Tbi := t1) r)
    (have q := Rel.tb (Tbi := t1) r; ⟨by rw [← hT]; exact q.1, fun x hx => q.2 x (hcs x hx)⟩) (fun j hj => by
      rw [← hv]; exact Rel.fn (Tbi := t1) r j (by rw [hx]; exact hj)) (have q := Rel.tf (Tbi := t1) r; ⟨q.1, h0.trans q.2⟩)
theorem post_inst {t1 t2 : Tabl} {α : Type} {W : Addr → Prop} {F0 H : Hp} {σ : L2.St} {env : Ev.Env} {o : Out α} {Q : α → Ev.Env → Hp → Hp → Prop} (hT : t1.T = t2.T) (hx : t1.fx = t2.fx) (hv : t1.fv = t2.fv) (hcs : ∀ x ∈ t2.cs, x ∈ t1.cs) (h0 : Same t2.f0 t1.f0)
    (h : post (Tbi := t2) K mg E W σ env F0 H o Q) : post (Tbi := t1) K mg E W σ env F0 H o Q := by
  have af : ∀ {env' F' H'}, Aft (Tbi := t1) K W σ env F0 H env' F' H' → Aft (Tbi := t2) K W σ env F0 H env' F' H' := fun {env' F' H'} a =>
    Aft.mk (Tbi := t2) (Aft.le (Tbi := t1) a) (Aft.same (Tbi := t1) a) (Aft.keep (Tbi := t1) a) (rel_inst hT hx hv hcs h0 (Aft.rel (Tbi := t1) a))
  cases o with
  | no => exact h.elim
  | ok x env' => exact fun F' H' a => h F' H' (af a)
  | exc x env' => exact fun F' H' cls od a xr => h F' H' cls od (af a) xr
theorem cells_un {cl : List (Str × Addr)} {ws : List (Option V)} {h h' : Heap} {H HZ : Hp} {fs : List Addr} (C : NdefX.CellsAt cl fr ws h H) (un : Un fs [] H HZ h h') : NdefX.CellsAt cl fr ws h' HZ := by
  have kp : ∀ y c, cl.lookup y = some c → ∀ v, h.IsCell c v → h'.IsCell c v := fun y c e v ⟨o, ho, hd⟩ => by
    obtain ⟨sl, q⟩ := un.any ho (C.all y c e).1 (by simp)
    exact ⟨_, q, hd⟩
  refine ⟨C.len, fun y c e => ?_, C.inj, fun i y e => ?_⟩
  · obtain ⟨n, v, z⟩ := C.all y c e
    refine ⟨?_, v, kp y c e v z⟩
    obtain ⟨o, ho, _⟩ := z
    exact un.free c o ho n (by simp)
  · obtain ⟨c, hc, hv⟩ := C.has i y e
    refine ⟨c, hc, fun v ev => ?_⟩
    obtain ⟨u, r, z⟩ := hv v ev
    exact ⟨u, r, kp y c hc _ z⟩
theorem handed_of [Tbi : Tabl] {gN : List Str} {qual : Str} {scope : Scope} {g : Addr} {cdv : Value} {A : Around} {outer : List PySem.Env} {s : Shared} {H : Hp} {ws : List (Option V)} {j np : Nat} {lam : Fn} {pm ctv : Value}
    (h1 : j ∈ Tbi.fx) (h2 : Tbi.fv j = .ref f) (h3 : (F.c, F.qual) ∈ Tbi.cs) (L : LamG P w K mg base CX k f F body fr ws (spM (Tbi := Tbi.base) K mg np [] lam))
    (ho : s.heap.get? f = some (PySem.W.kla_obj F.name F.qual F.params body F.scope F.cl pm F.c ctv)) (hn : H f = none) (hf : f ∉ frs outer) (C : NdefX.CellsAt F.cl fr ws s.heap H) :
    Handed (cxOf CX P w K mg base gN qual scope g cdv A outer s H E) CX mg k j np lam := by
  refine ⟨f, F, body, fr, ws, h1, h2, h3, L, fun pins σ HZ s1 I => ?_⟩
  have un : Un (frs outer) [] H HZ s.heap s1.heap := I.base
  exact ⟨⟨pm, ctv, un.keep f _ ho hn hf (by simp)⟩, cells_un C un⟩
/-! ### the def's side -/
def runH (n j : Nat) (fb : M Fl) : Fn := fun as => match fb (startE n as) with
  | .ok .nx _ => .ok (.d .none) []
  | .ok (.rt r) env => match retR [j] env r with
    | some r' => .ok r' []
    | none => .no
  | .exc x _ => .exc x []
  | _ => .no
section
variable [Tbi : Tabl]
theorem rel_startH {W : Addr → Prop} {F0 H : Hp} {vs : List V} {as : List R} {np : Nat} (hx : Tbi.fx = [np]) (hv : Tbi.fv np = .ref f) (rl : Rel (Tbi := Tbi.base) K W F0 H (vs.map some) (as.map some)) (ho : ∀ (i : Nat) (c : C), as[i]? ≠ some (R.c c)) (hl : vs.length = np) (hn : np < N.length) :
    Rel K W F0 H (L2.start N (vs ++ [.ref f])) (startE N.length as) := by
  have hla : vs.length = as.length := by simpa using (Rel.len (Tbi := Tbi.base) rl)
  have own : ∀ {i p}, ¬ Own (L2.start N (vs ++ [.ref f])) (startE N.length as) i p := fun {i p} ⟨e1, c, e2⟩ => ho i c (startE_some e2)
  have q := Rel.tb (Tbi := Tbi.base) rl
  have q2 := Rel.tf (Tbi := Tbi.base) rl
  refine ⟨by rw [start_len (by rw [List.length_append, List.length_singleton]; omega), startE_len (by omega)], Rel.fz (Tbi := Tbi.base) rl, Rel.fw (Tbi := Tbi.base) rl, fun i x r h1 h2 => ?_, fun i j p o1 _ => absurd o1 own, q, fun j hj => ?_, q2⟩
  · cases r with
    | none => cases x <;> exact True.intro
    | some r =>
      have h3 := startE_some h2
      have hi : i < as.length := (List.getElem?_eq_some_iff.mp h3).1
      rw [start_lt (by rw [List.length_append]; omega), List.getElem?_append_left (by omega)] at h1
      exact Rel.sl (Tbi := Tbi.base) rl i x (some r) (by rw [List.getElem?_map]; exact h1) (by rw [List.getElem?_map, h3]; rfl)
  · rw [hx] at hj
    have hj : j = np := by simpa using hj
    subst hj
    rw [hv, start_lt (by rw [List.length_append, List.length_singleton]; omega), List.getElem?_append_right (by omega), hl, Nat.sub_self]
    rfl
theorem spH_run {W : Addr → Prop} {F0 H : Hp} {vs : List V} {as : List R} {fb : M Fl} {Q : VK} {σ0 : L2.St} {np : Nat} {gd : List Nat}
    (h : postR (Tbi := Tbi.base) K mg E [] W F0 H vs (runH N.length np fb as) Q) : postS K mg E gd W σ0 (startE N.length as) F0 H (fb (startE N.length as)) { nx := fun _ H' => Q .non H', rt := Q } := by
  have back : ∀ {σ' env' F' H'}, SAft K gd W σ0 (startE N.length as) F0 H σ' env' F' H' → AftC (Tbi := Tbi.base) K [] W F0 H F' H' vs [] := fun {σ' env' F' H'} a =>
    AftC.mk (Tbi := Tbi.base) a.same a.keep (Rel.mk (Tbi := Tbi.base) rfl a.rel.fz a.rel.fw (fun i x r h1 h2 => by simp [lentS] at h1) (fun i j p o1 o2 => by obtain ⟨e1, _⟩ := o1; simp [lentS] at e1) a.rel.tb (fun j hj => by cases hj) a.rel.tf)
  unfold runH at h
  cases hf : fb (startE N.length as) with
  | no => rw [hf] at h; exact h.elim
  | exc x env' =>
    rw [hf] at h
    exact fun σ' F' H' cls od a xr => h F' H' cls od (back a) xr
  | ok fl env' =>
    rw [hf] at h
    cases fl with
    | bk => exact h.elim
    | ct => exact h.elim
    | nx => exact fun σ' F' H' a => h F' H' .non (back a) .non
    | rt r =>
      simp only at h
      intro σ' F' H' v a rv
      cases hr : retR [np] env' r with
      | none => rw [hr] at h; exact h.elim
      | some r' =>
        rw [hr] at h
        refine h F' H' v (back a) ?_
        have noo : ∀ k p, ¬ Own (lentS vs []) (([] : List R).map some) k p := fun k p o => by obtain ⟨e1, _⟩ := o; simp [lentS] at e1
        cases r with
        | d x => cases hr; exact rv
        | t xs => cases hr; exact rv
        | s ns => cases hr; exact rv
        | n c =>
          cases hr
          obtain ⟨p, o, rfl, hp, hc, hf, hw, ho'⟩ := rv
          exact ⟨p, o, rfl, hp, hc, hf, hw, fun k => noo k p⟩
        | b i =>
          by_cases hi : ([np] : List Nat).contains i = true
          · simp only [retR, hi, if_true] at hr
            cases hr
          · simp only [retR, hi] at hr
            obtain ⟨h1, r2, h2⟩ := rv
            have q := a.rel.sl i _ _ h1 h2
            rw [h2] at hr
            cases r2 with
            | c c =>
              cases hr
              obtain ⟨p, o, rfl, hp, hcr, hf, hw⟩ := q
              exact ⟨p, o, rfl, hp, hcr, hf, hw, fun k => noo k p⟩
            | d x => cases hr; exact q
            | s x => cases hr
end
end
end Ev
set_option maxHeartbeats 1000000
/-! Ev35: a def that is handed a lambda: its promise, the call. -/
namespace Ev
open PySem PySem.Spec PyProof.Rows L2
section
variable [Tbi : Tabl]
variable {K : PySem.W.Frag} {mg : Str → Option Value} {E : XK} {CX : CXT} {P : Program} {w : World} {base : Heap} {N ps fr : List Str} {k kl nl np : Nat} {g : Addr} {fd : FuncData}
structure HDef (P : Program) (w : World) (K : PySem.W.Frag) (mg : Str → Option Value) (base : Heap) (CX : CXT) (k kl nl : Nat) (g : Addr) (fd : FuncData) (ps : List Str) (np : Nat) (Φ : Fn → Fn) : Prop where
  go : ∀ (t : Tabl) (f : Addr) (lam : Fn) (A : Around) (outer : List PySem.Env) (s : Shared) (H : Hp) (us : List Value) (vs : List V) (Q : VK) (E : XK), t.T = Tbi.T → Same Tbi.f0 t.f0 → t.fx = [np] → t.fv np = .ref f → Room k A → A.guards = some [] → Env0 P w K mg base A outer s H →
    (∀ (gN : List Str) (qual : Str) (scope : Scope) (g : Addr) (cdv : Value) (E : XK), Handed (Tbi := t) (cxOf CX P w K mg base gN qual scope g cdv A outer s H E) CX mg kl np nl lam) →
    BindsTo s fd ⟨us ++ [.ref f], []⟩ (ps.zip (us ++ [.ref f])) → Vals vs us → spM (Tbi := t.base) K mg np [] (Φ lam) vs H Q E → codeAny (model P w) A (.call (.ref g) ⟨us ++ [.ref f], []⟩) (L2.CR CX outer P w H s Q E) s
theorem h_of {name qual : Str} {params : Arguments} {body : List Stmt} {scope : Scope} {dV kV doc pm cdv ct oc : Value} {an od : Option Addr} {osl : Array (Option Value)} {fb : Fn → M Fl}
    (lk : K.lookup g = some ⟨oc, od, .func (PySem.W.fnOf name qual params body scope dV kV doc pm an cdv ct), osl⟩) (hcd : PySem.W.codeIn K cdv qual = true) (S : FnScope N ps scope) (hps : ps.length = np + 1)
    (hbody : ∀ (t : Tabl) (lam : Fn) (A : Around) (outer : List PySem.Env) (s : Shared) (H : Hp) (E : XK), t.T = Tbi.T → Same Tbi.f0 t.f0 → t.fx = [np] → Room k (A.deeper (envOfC qual scope s.heap.objs.size g cdv)) → (A.deeper (envOfC qual scope s.heap.objs.size g cdv)).guards = some [] →
      Handed (Tbi := t) (cxOf CX P w K mg base N qual scope g cdv A outer s H E) CX mg kl np nl lam → PSs (cxOf CX P w K mg base N qual scope g cdv A outer s H E) body (tS (Tbi := t) K mg E [np] (fb lam))) :
    HDef P w K mg base CX (k + 1) kl nl g (PySem.W.fnOf name qual params body scope dV kV doc pm an cdv ct) ps np (fun lam => runH N.length np (fb lam)) := by
  refine ⟨fun t f lam A outer s H us vs Q E hT hF hx hv hr hgs e0 hh hb r hsp => ?_⟩
  have hl : (vs ++ [V.ref f]).length = ps.length := by rw [List.length_append, List.length_singleton, hps, hsp.1]
  have r2 : Vals (vs ++ [V.ref f]) (us ++ [.ref f]) := r.append (.cons rfl .nil)
  have hpn : ps.length ≤ N.length := by
    have := congrArg List.length S.pre
    rw [List.length_take] at this
    omega
  have KX : K.In s.heap := e0.mod.kin.keeps fun b o e => (e0.bs b o e).1
  have lim : s.heap.NoLimit := e0.mod.nolimit.keeps fun b o e => (e0.bs b o e).1
  have hkind : ∀ y ∈ ps.zip (us ++ [Value.ref f]), scope.names.lookup y.1 = some .local ∨ (scope.names.lookup y.1 = some .cell ∧ ((cellsFrom (s.heap.objs.size + 1) scope.names []).lookup y.1).isSome = true) := fun ⟨n, v⟩ hy =>
    (S.par n (List.of_mem_zip hy).1).elim .inl fun q => .inr ⟨q, PySem.W.cellsFrom_some _ _ _ (.inl q)⟩
  refine codeAny_call_function hr.depth (KX _ _ lk) rfl S.co S.gen rfl (PySem.W.codeRec_of KX hcd) (hb _ _ _ _ ?_)
  refine wpAny_newFunctionEnv_cells S.kind hkind fun env he s1 x => ?_
  subst he
  refine ⟨lim.keeps x.toInCall.keep, codeAny_func ?_⟩
  have ht := hbody t lam A outer s H E hT hF hx (hr.deeper _) hgs (hh _ _ _ _ _ _)
  have I : Inv (cxOf CX P w K mg base N qual scope g cdv A outer s H E) [] (L2.start N (vs ++ [V.ref f])) H s1 := inv_start S hr.hd e0 hl r2 x
  have hq : tS (Tbi := t) K mg E [np] (fb lam) { nx := fun _ H' => Q .non H', rt := Q } (L2.start N (vs ++ [V.ref f])) H := by
    obtain ⟨hvl, W, F, as, rl, hown, hp⟩ := hsp
    exact ⟨W, F, startE N.length as, rel_startH (Tbi := t) hx hv rl (fun i c e => by have := hown i c e; cases this) hvl (by omega), spH_run (Tbi := t) hp⟩
  refine wpAny_mono (ht.run [] s1 (L2.start N (vs ++ [V.ref f])) H _ I hq) (fun fl s' hs => ?_) fun e s' hs => hs
  have fin : ∀ {σ' : L2.St} {H' : Hp} {v : V} {u : Value}, Inv (cxOf CX P w K mg base N qual scope g cdv A outer s H E) [] σ' H' s' → RelV v u → Q v H' → CE outer P w H s Q u s' :=
    fun {σ' H' v u} J rv q => ⟨v, H', J.os, J.bare, J.base, J.hok, rv, q⟩
  match fl, hs with
  | .ret u, hs =>
    obtain ⟨v, σ', H', J, rv, q⟩ := hs
    exact fin J rv q
  | .next, hs =>
    obtain ⟨σ', H', J, q⟩ := hs
    exact fin (v := V.non) (u := Value.none) J rfl q
  | .brk, hs =>
    obtain ⟨_, _, _, q⟩ := hs
    exact False.elim q
  | .cont, hs =>
    obtain ⟨_, _, _, q⟩ := hs
    exact False.elim q
/-! ### the call -/
def capt (env : Ev.Env) : List Nat → Option (List (Option R))
  | [] => some []
  | j :: js => match env[j]?, capt env js with
    | some (some (.d x)), some r => some (some (.d x) :: r)
    | _, _ => none
theorem capt_ok {W : Addr → Prop} {F H : Hp} {σ : L2.St} {env : Ev.Env} (rl : Rel K W F H σ env) : ∀ {js : List Nat} {wE : List (Option R)}, capt env js = some wE → CapD K F (js.map (NdefX.slotAt σ)) wE
  | [], _, h => by cases h; exact ⟨rfl, fun i r e => by simp at e⟩
  | j :: js, wE, h => by
    unfold capt at h
    split at h
    · rename_i x r e1 e2
      cases h
      obtain ⟨hl, q⟩ := capt_ok rl e2
      refine ⟨congrArg (· + 1) hl, fun i r' e => ?_⟩
      cases i with
      | zero =>
        simp at e
        obtain ⟨v, hv, hs⟩ := rl.at e1
        exact ⟨v, x, by rw [List.map_cons, List.getElem?_cons_zero, NdefX.slotAt_of hv], e.symm, hs⟩
      | succ i => simpa using q i r' (by simpa using e)
    · cases h
def callLM (Φ : Fn → Fn) (ls : List Bool) (fs : M (List Rv)) (js : List Nat) (mkL : List (Option R) → Fn) : M Rv := M.bind fs fun rs => M.bind (prep ls rs) fun ys env => match capt env js with
  | some wE => callY (Φ (mkL wE)) [] ys env
  | none => .no
theorem de_callL {X : Cx} {x : Str} {p pos lpos : Pos} {e : Expr} {es : List Expr} {fs : M (List Rv)} {ls : List Bool} {Φ : Fn → Fn} {params : Arguments} {body : Expr} {scope : Scope} {c Pt : Addr} {js : List Nat} {NL psL : List Str} {fB : M Rv}
    (G : HDef X.prog X.w X.K X.mg X.base CX k (kl + 1) psL.length g fd ps np Φ) (hls : ls.length = np) (hr : Room k X.A) (hgd : X.A.guards = some []) (hg : Gl X x) (hm : X.mg x = some (.ref g)) (hk : PySem.W.keepIn X.K (.ref g) = true)
    (hps : ps.length = np + 1) (hb : ∀ us : List Value, us.length = ps.length → bindArgs fd ⟨us, []⟩ = pure (ps.zip us)) (hx : Passes CX X E)
    (ha : PL X (e :: es) (.Lambda params body scope lpos) (tA X.K mg E fs)) (TB : LamX.TabB X.base X.mg c Pt) (hcode : X.env.code = .ref c) (hmT : (Pt, X.env.qual ++ "<lambda>") ∈ Tbi.T) (hu : ∀ p ∈ Tbi.T, p.1 = Pt → p.2 = X.env.qual ++ "<lambda>")
    (hdef : defaultsOf params X.env = ([], [])) (hfree : ∀ y ∈ scope.names, y.2 = .free → X.env.scope.names.lookup y.1 = some .cell ∨ X.env.scope.names.lookup y.1 = some .free) (hfr : ∀ y ∈ fr, (y, NameKind.free) ∈ scope.names) (hjs : js.map (fun j => X.N[j]?) = fr.map some)
    (SL : NdefX.NScope NL psL fr scope) (hbL : ∀ (cl : List (Str × Addr)) (pm ctv : Value) (c' : Addr) (us : List Value), us.length = psL.length → bindArgs (PySem.W.kla_fn "<lambda>" (X.env.qual ++ "<lambda>") params body scope cl pm (.ref c') ctv) ⟨us, []⟩ = pure (psL.zip us))
    (hbodyL : ∀ (t : Tabl) (cl : List (Str × Addr)) (c' f : Addr) (A : Around) (outer : List PySem.Env) (s : Shared) (H : Hp) (E : XK), t.T = Tbi.T → Same Tbi.f0 t.f0 → t.fx = [] → Room kl (A.deeper (NdefX.envF ⟨"<lambda>", X.env.qual ++ "<lambda>", params, [], scope, cl, c'⟩ f s.heap.objs.size)) →
      (A.deeper (NdefX.envF ⟨"<lambda>", X.env.qual ++ "<lambda>", params, [], scope, cl, c'⟩ f s.heap.objs.size)).guards = some [] → PE (NdefX.ncx CX X.prog X.w X.K X.mg X.base NL ⟨"<lambda>", X.env.qual ++ "<lambda>", params, [], scope, cl, c'⟩ f A outer s H E) body (tE (Tbi := t) X.K mg E fB))
    (hmg : X.mg = mg) (hdb : (x == ("__debug__" : Str)) = false) (he : starEach (e :: (es ++ [.Lambda params body scope lpos])) X.env = (false, eval e X.env) :: starEach (es ++ [.Lambda params body scope lpos]) X.env) (hpl : (backTo pos (starEach (es ++ [.Lambda params body scope lpos]) X.env)).any (·.1) = false) :
    PE X (.Call (.Name x p) (e :: (es ++ [.Lambda params body scope lpos])) [] pos) (tE X.K mg E (callLM Φ ls fs js fun wE => lamFn NL.length wE fB)) := by
  subst hmg
  refine ⟨fun pins s σ H Q I h => ?_⟩
  have hA : tA X.K X.mg E fs σ H (fun vs H1 => ∃ W F env ys wE, Rel X.K W F H1 σ env ∧ RRp X.K W F H1 σ env vs ys ∧ ys.length = np ∧ capt env js = some wE ∧
      post X.K X.mg E W σ env F H1 (callY (Φ (lamFn NL.length wE fB)) [] ys env) (fun r env' F' H' => ∀ w, RRv X.K W F' H' σ env' w r → Q w H')) := tA_args h fun W F env H vs xs rl rx hq => by
    obtain ⟨ys, env', F', a, rp, hy, h2⟩ := prep_post rl rx hq
    cases hc : capt env' js with
    | none => simp only [hc] at h2; exact h2.elim
    | some wE => simp only [hc] at h2; exact ⟨W, F', env', ys, wE, a.rel, rp, hy.trans hls, hc, h2⟩
  refine wpAny_Call_Name_kw (ld_glob I hg hm ?_ hdb)
  refine PySem.W.callWith_K (h₀ := X.base) I.ok.mod.kin hk ?_ he hpl
  refine ha pos pins s σ H _ I (tA_mono hA fun vs H1 ⟨W, F, env, ys, wE, rl, rp, hy, hc, hp⟩ us s1 I1 rV => ?_)
  have hfr2 : ∀ y ∈ scope.names, y.2 = .free → ∃ c, X.env.cells.lookup y.1 = some c := fun y hy e => (hfree y hy e).elim (fun z => I1.ok.has _ (.inl z)) fun z => I1.ok.has _ (.inr z)
  refine LamX.lam_make2 I1 TB hcode hmT hu rl.tb.1 hdef hfr2 fun f c' pm ctv H2 s2 I2 eN T2 ho hn hf hco => ⟨I2.kIn, ?_⟩
  have aE := rel_ext rl eN T2
  have rl2 := aE.rel
  have h2 := post.from aE hp
  have rl3 : Rel (Tbi := ⟨Tbi.T, Tbi.fx, Tbi.fv, (c', X.env.qual ++ "<lambda>") :: Tbi.cs, F⟩) X.K W F H2 σ env := Rel.mk (Tbi := ⟨Tbi.T, Tbi.fx, Tbi.fv, (c', X.env.qual ++ "<lambda>") :: Tbi.cs, F⟩) rl2.len rl2.fz rl2.fw rl2.sl rl2.ds
    ⟨rl2.tb.1, fun x hx => (List.mem_cons.mp hx).elim (fun e => by rw [e]; exact hco) fun hx => rl2.tb.2 x hx⟩ rl2.fn ⟨rl2.tf.1, Same.refl F⟩
  have h3 := post_inst (t1 := ⟨Tbi.T, Tbi.fx, Tbi.fv, (c', X.env.qual ++ "<lambda>") :: Tbi.cs, F⟩) (t2 := Tbi) rfl rfl rfl (fun x hx => List.mem_cons_of_mem _ hx) rl2.tf.2 h2
  have sp := call_core (Tbi := ⟨Tbi.T, Tbi.fx, Tbi.fv, (c', X.env.qual ++ "<lambda>") :: Tbi.cs, F⟩) rl3 (rp.keep aE) (post.imp (Tbi := ⟨Tbi.T, Tbi.fx, Tbi.fv, (c', X.env.qual ++ "<lambda>") :: Tbi.cs, F⟩) h3 fun _ _ _ _ _ _ q => q)
  rw [hy] at sp
  have L : LamG X.prog X.w X.K X.mg X.base CX (kl + 1) f ⟨"<lambda>", X.env.qual ++ "<lambda>", params, [], scope, cloFrom X.env.cells scope.names [], c'⟩ body fr (js.map (NdefX.slotAt σ)) (spM (Tbi := ⟨Tbi.T, [], fun _ => .non, (c', X.env.qual ++ "<lambda>") :: Tbi.cs, F⟩) X.K X.mg psL.length [] (lamFn NL.length wE fB)) :=
    lam_of (Tbi := ⟨Tbi.T, [], fun _ => .non, (c', X.env.qual ++ "<lambda>") :: Tbi.cs, F⟩) rfl SL (fun pm ctv us hl => hbL _ pm ctv c' us hl) (capt_ok rl hc) fun A outer s H E hr hg => hbodyL _ _ _ _ A outer s H E rfl rl2.tf.2 rfl hr hg
  have C := NdefX.cells_of I2 (NdefX.Caps.made I2.ok hfree hfr hjs)
  have hl : (us ++ [Value.ref f]).length = ps.length := by rw [List.length_append, List.length_singleton, ← rV.length, hps, rp.len, hy]
  refine wpAny_call (codeAny_mono (G.go ⟨Tbi.T, [np], fun _ => .ref f, (c', X.env.qual ++ "<lambda>") :: Tbi.cs, F⟩ f _ X.A X.stack s2 H2 us vs Q E rfl rl2.tf.2 rfl rfl hr hgd I2.env0 (fun gN qual scope g cdv E => handed_of (Tbi := ⟨Tbi.T, [np], fun _ => .ref f, (c', X.env.qual ++ "<lambda>") :: Tbi.cs, F⟩) (by simp) rfl (by simp) L ho hn hf C) (.of_eq (hb _ hl)) rV sp) fun r s' hq => ?_)
  match r, hq with
  | .error e, hq => exact hx pins σ H2 s2 e s' I2 hq
  | .ok (.ret u), hq => exact I2.after hq
  | .ok .next, hq => exact False.elim hq
  | .ok .brk, hq => exact False.elim hq
  | .ok .cont, hq => exact False.elim hq
end
end Ev
set_option maxHeartbeats 1000000
/-! Ev36: rules in the form that the printed proofs use. -/
namespace Ev
open PySem PySem.Spec PyProof.Rows L2
/-- what all frames share: the makers' tables, the globals that are data in the heap -/
structure Top0 where
  T : List (Addr × Str)
  F : Hp
def TopI (T0 : Top0) (t : Tabl) : Prop := t.T = T0.T ∧ Same T0.F t.f0
theorem vis_by {sc : Scope} {x : Str} (h : (match sc.names.lookup x with | some .local => true | some .cell => true | some .free => true | _ => false) = true) : Vis sc x := by
  unfold Vis
  split at h
  · exact .inl (by assumption)
  · exact .inr (.inl (by assumption))
  · exact .inr (.inr (by assumption))
  · cases h
theorem loc_by {sc : Scope} {x : Str} (h : (match sc.names.lookup x with | some .local => true | some .cell => true | _ => false) = true) : L2.Loc sc x := by
  unfold L2.Loc
  split at h
  · exact .inl (by assumption)
  · exact .inr (by assumption)
  · cases h
section
variable [Tbi : Tabl]
variable {K : PySem.W.Frag} {mg : Str → Option Value} {E : XK} {X : Cx} {k j : Nat} {f : Addr} {fd : FuncData} {ps N : List Str} {x qual : Str} {p pos : Pos} {e : Expr} {es : List Expr} {P : Program} {w : World} {base : Heap} {st : Stmt} {gd : List Nat} {φ : Fn} {T0 : Top0}
theorem fxg0 (h0 : Tbi.fx = []) : FxG gd := ⟨fun j hj => by rw [h0] at hj; cases hj⟩
theorem fxn0 (h0 : Tbi.fx = []) {vs : List Nat} : ∀ j ∈ Tbi.fx, j ∉ vs := fun j hj => by rw [h0] at hj; cases hj
theorem passT {X : Cx} {E : XK} : Passes L2.CX0 X E := fun _ _ _ _ _ _ _ h => h.elim
theorem okG {fb : M Fl} (h0 : Tbi.fx = []) (F : L2.Fun K x qual st f fd) (S : FnScope N ps (defScope st)) (hgd : ∀ g ∈ gd, g < ps.length) (nd : gd.Nodup)
    (hbody : ∀ (cdv : Value) (A : Around) (outer : List PySem.Env) (s : Shared) (H : Hp) (E : XK), Room k (A.deeper (envOfC qual (defScope st) s.heap.objs.size f cdv)) → (A.deeper (envOfC qual (defScope st) s.heap.objs.size f cdv)).guards = some [] →
      PSs (cxOf L2.CX0 P w K mg base N qual (defScope st) f cdv A outer s H E).nox (defBody st) (tS K mg E gd fb)) :
    FnG P w K mg base L2.CX0 (k + 1) f fd ps (spM K mg ps.length gd (runD N.length gd fb)) := by
  obtain ⟨oc, od, kV, doc, pm, an, cdv, ct, osl, rfl, lk, hcd⟩ := F.ex
  exact g_of h0 lk hcd S hgd nd fun A outer s H E hr hg => (hbody cdv A outer s H E hr hg).nox
/-- a def of the program: where it is, what it computes -/
structure DefOk (P : Program) (w : World) (K : PySem.W.Frag) (mg : Str → Option Value) (base : Heap) (T0 : Top0) (x : Str) (k : Nat) (np : Nat) (gd : List Nat) (φ : Fn) : Prop where
  ex : ∃ (f : Addr) (fd : FuncData) (ps : List Str), ps.length = np ∧ mg x = some (.ref f) ∧ PySem.W.keepIn K (.ref f) = true ∧ Binds K fd ps [] ∧ ∀ t : Tabl, TopI T0 t → t.fx = [] → FnG P w K mg base L2.CX0 k f fd ps (spM (Tbi := t) K mg ps.length gd φ)
theorem de_def {np : Nat} {ls : List Bool} {fs : M (List Rv)} (D : DefOk X.prog X.w X.K X.mg X.base T0 x j np gd φ) (hT : TopI T0 Tbi) (hjk : j ≤ k) (hl : ls.length = np) (hr : Room k X.A) (hgd : X.A.guards = some []) (hg : Gl X x)
    (ha : PA X (e :: es) (tA X.K X.mg E fs)) (hdb : (x == ("__debug__" : Str)) = false) (he : starEach (e :: es) X.env = (false, eval e X.env) :: starEach es X.env) (hpl : (backTo pos (starEach es X.env)).any (·.1) = false) :
    PE X (.Call (.Name x p) (e :: es) [] pos) (tE X.K X.mg E (callM φ gd ls fs)) := by
  obtain ⟨f, fd, ps, hn, hm, hk, hb, F⟩ := D.ex
  exact de_call (CX := L2.CX0) (k := k) ((F Tbi.base hT rfl).mono hjk) (by rw [hl, hn]) hr hgd hg hm hk hb passT ha hdb he hpl
/-- a keyword call's binding -/
structure DefOkK (P : Program) (w : World) (K : PySem.W.Frag) (mg : Str → Option Value) (base : Heap) (T0 : Top0) (x : Str) (k : Nat) (np : Nat) (gd : List Nat) (φ : Fn) (ks : List Str) (m : Nat) (pm : List Nat) : Prop where
  ex : ∃ (f : Addr) (fd : FuncData) (ps : List Str), ps.length = np ∧ mg x = some (.ref f) ∧ PySem.W.keepIn K (.ref f) = true ∧ BindsK fd ps ks m pm ∧ ∀ t : Tabl, TopI T0 t → t.fx = [] → FnG P w K mg base L2.CX0 k f fd ps (spM (Tbi := t) K mg ps.length gd φ)
theorem permL_len {α : Type} {l : List α} : ∀ {pm : List Nat}, (∀ i ∈ pm, i < l.length) → (permL pm l).length = pm.length
  | [], _ => rfl
  | i :: pm, h => by
    have hi : i < l.length := h i (by simp)
    unfold permL
    rw [List.filterMap_cons, List.getElem?_eq_getElem hi]
    exact congrArg (· + 1) (permL_len (pm := pm) fun j hj => h j (by simp [hj]))
theorem de_defK0 {np : Nat} {ls : List Bool} {pm : List Nat} {ks : List Str} {kws : List Keyword} {fk : M (List Rv)} (D : DefOkK X.prog X.w X.K X.mg X.base T0 x j np gd φ ks 0 pm) (hT : TopI T0 Tbi) (hjk : j ≤ k) (hl : ls.length = np) (hpm : pm.length = np) (hpi : ∀ i ∈ pm, i < ls.length) (hr : Room k X.A) (hgd : X.A.guards = some []) (hg : Gl X x)
    (hkw : PK X kws (tA X.K X.mg E fk)) (hall : (backToKw pos (keywordEach kws X.env)).all (·.1.isSome) = true) (hks : (backToKw pos (keywordEach kws X.env)).filterMap (·.1) = ks) (hlk : ∀ env r env', fk env = .ok r env' → r.length = ks.length)
    (hdb : (x == ("__debug__" : Str)) = false) (hpl : ((backTo pos (starEach [] X.env)).any (·.1) || (backToKw pos (keywordEach kws X.env)).any (·.1.isNone)) = false) :
    PE X (.Call (.Name x p) [] kws pos) (tE X.K X.mg E (callKM φ gd ls pm (M.ret []) fk)) := by
  obtain ⟨f, fd, ps, hn, hm, hk, hb, F⟩ := D.ex
  exact de_callK0 (CX := L2.CX0) (k := k) ((F Tbi.base hT rfl).mono hjk) (fun {α l} hle => by rw [permL_len fun i hi => by rw [hle]; exact hpi i hi, hpm, hn]) hr hgd hg hm hk hb passT hkw hall hks hlk hdb hpl
theorem de_defK {np m : Nat} {ls : List Bool} {pm : List Nat} {ks : List Str} {kws : List Keyword} {fs fk : M (List Rv)} (D : DefOkK X.prog X.w X.K X.mg X.base T0 x j np gd φ ks m pm) (hT : TopI T0 Tbi) (hjk : j ≤ k) (hl : ls.length = np) (hpm : pm.length = np) (hpi : ∀ i ∈ pm, i < ls.length) (hr : Room k X.A) (hgd : X.A.guards = some []) (hg : Gl X x)
    (ha : PA X (e :: es) (tA X.K X.mg E fs)) (hkw : PK X kws (tA X.K X.mg E fk)) (hall : (backToKw pos (keywordEach kws X.env)).all (·.1.isSome) = true) (hks : (backToKw pos (keywordEach kws X.env)).filterMap (·.1) = ks) (hla : ∀ env r env', fs env = .ok r env' → r.length = m) (hlk : ∀ env r env', fk env = .ok r env' → r.length = ks.length)
    (hdb : (x == ("__debug__" : Str)) = false) (he : starEach (e :: es) X.env = (false, eval e X.env) :: starEach es X.env) (hpl : ((backTo pos (starEach (e :: es) X.env)).any (·.1) || (backToKw pos (keywordEach kws X.env)).any (·.1.isNone)) = false) :
    PE X (.Call (.Name x p) (e :: es) kws pos) (tE X.K X.mg E (callKM φ gd ls pm fs fk)) := by
  obtain ⟨f, fd, ps, hn, hm, hk, hb, F⟩ := D.ex
  exact de_callK (CX := L2.CX0) (k := k) ((F Tbi.base hT rfl).mono hjk) (fun {α l} hle => by rw [permL_len fun i hi => by rw [hle]; exact hpi i hi, hpm, hn]) hr hgd hg hm hk hb passT ha hkw hall hks hla hlk hdb he hpl
/-- the arguments' number -/
def argsN (n : Nat) (fs : M (List Rv)) : Prop := ∀ env r env', fs env = .ok r env' → r.length = n
theorem an_nil : argsN 0 (M.ret []) := fun env r env' h => by cases h; rfl
theorem an_cons {f : M Rv} {fs : M (List Rv)} {n : Nat} (h : argsN n fs) : argsN (n + 1) (M.bind f fun x => M.bind fs fun xs => M.ret (x :: xs)) := fun env r env' e => by
  unfold M.bind at e
  cases hf : f env with
  | no => rw [hf] at e; cases e
  | exc x env1 => rw [hf] at e; cases e
  | ok x env1 =>
    rw [hf] at e
    simp only at e
    cases hs : fs env1 with
    | no => rw [hs] at e; cases e
    | exc x env2 => rw [hs] at e; cases e
    | ok xs env2 =>
      rw [hs] at e
      cases e
      exact congrArg (· + 1) (h env1 xs env' hs)
def negR : R → Option Rv
  | .d (.int i) => some (.d (.int (-i)))
  | .d (.bool b) => none
  | _ => none
theorem de_neg {a : Expr} {fa : M Rv} (ha : PE X a (tE K mg E fa)) : PE X (.UnaryOp .USub a pos) (tE K mg E (M.bind fa (lift1 negR))) := by
  refine (pe_un un_neg ha).imp fun σ H Q h => ?_
  obtain ⟨W, F, env, rl, h⟩ := h
  refine ⟨W, F, env, rl, (post_bind h).imp fun x env1 F1 H1 _ a1 h1 v rv => ?_⟩
  obtain ⟨a, z, ha, hz, hq⟩ := lift1_ok a1.rel rv h1
  unfold negR at hz
  split at hz
  · cases hz
    have ha : Dq K F1 v _ := ha
    cases ha
    exact ⟨_, rfl, res_same hq a1.rel (.int _)⟩
  · cases hz
  · cases hz
end
end Ev
set_option maxHeartbeats 2000000
/-! Ev37: the end: from the head's heap to the law's def, no guard waiting there. -/
namespace Ev
open PySem PySem.Spec PyProof.Rows L2
/-- a tuple of the top, laid at an address -/
structure GTup where
  a : Addr
  o : Obj
  vs : List V
structure GTup.At (g : GTup) (h : Heap) : Prop where
  get : h.get? g.a = some g.o
  cls : g.o.cls = .type "tuple"
  dat : ∃ (its : Array Value) (n : Nat), g.o.data = .seq its n ∧ its.size ≤ sizeLine ∧ Vals g.vs its.toList
/-- those that the head does not know, as a heap -/
def gF (K : PySem.W.Frag) (gs : List GTup) : Hp := fun b => match gs.find? (fun g => g.a == b && (K.lookup b).isNone) with
  | some g => some (.frz g.o (.tup g.vs))
  | none => none
theorem gF_mem {K : PySem.W.Frag} {gs : List GTup} {b : Addr} {u : HO} (h : gF K gs b = some u) : ∃ g ∈ gs, g.a = b ∧ K.lookup b = none ∧ u = .frz g.o (.tup g.vs) := by
  unfold gF at h
  split at h
  · rename_i g hg
    cases h
    have h1 := List.find?_some hg
    simp only [Bool.and_eq_true, beq_iff_eq, Option.isNone_iff_eq_none] at h1
    exact ⟨g, List.mem_of_find?_eq_some hg, h1.1, h1.2, rfl⟩
  · cases h
theorem gF_sq {K : PySem.W.Frag} {gs : List GTup} {h : Heap} (KX : K.In h) (hA : ∀ g ∈ gs, g.At h) (hU : ∀ g ∈ gs, ∀ g' ∈ gs, g.a = g'.a → g = g') {g : GTup} (hg : g ∈ gs) : SqT K (gF K gs) g.a g.vs := by
  obtain ⟨h1, h2, its, n, h3, h4, h5⟩ := hA g hg
  cases hk : K.lookup g.a with
  | none =>
    refine .inl (.inr ⟨g.o, ?_⟩)
    unfold gF
    cases hf : gs.find? (fun g' => g'.a == g.a && (K.lookup g.a).isNone) with
    | none =>
      have := List.find?_eq_none.mp hf g hg
      simp [hk] at this
    | some g' =>
      have q := List.find?_some hf
      simp only [Bool.and_eq_true, beq_iff_eq] at q
      have e := hU g' (List.mem_of_find?_eq_some hf) g hg q.1
      rw [e]
  | some o =>
    have e := KX g.a o hk
    rw [h1] at e
    cases e
    exact .inr ⟨_, its, n, hk, h2, h3, h4, h5⟩
theorem law_run {P : Program} {w : World} {K : PySem.W.Frag} {mg mb : Str → Option Value} {k : Nat} {fa a : Addr} {cs : List (Addr × Addr)} {fd : FuncData} {x : Str} {sp : Sp} {s₁ : Shared} {vs : List Value} {ns : List Int} {gs : List GTup}
    (KX : K.In s₁.heap) (hns : s₁.heap.Ns mainGlobals mg) (hb : s₁.heap.Ns builtinsNs mb) (hbb : ∀ x : Str, x ≠ "__name__" → mb x = bootBuiltins x) (hlim : s₁.heap.NoLimit) (hg : s₁.gens = #[])
    (hT : ∀ p ∈ cs, s₁.heap.get? p.2 = some { cls := .none, data := .fields #[] }) (nT : ∀ p ∈ cs, K.lookup p.2 = none) (C : ∀ p ∈ cs, PySem.W.CodeHd s₁.heap p.1 p.2)
    (hbm : ∃ (bm : Addr) (ob : Obj), mg "__builtins__" = some (.ref bm) ∧ bm ≠ builtinsNs ∧ s₁.heap.get? bm = some ob ∧ ob.cls = .type "module" ∧ ob.dict = some builtinsNs ∧ ob.data = .plain)
    (ha : s₁.heap.get? a = some { cls := .type "list", data := .seq vs.toArray }) (hi : IntsAre vs ns) (hl : ns.length ≤ sizeLine) (hr : Room k callerA)
    (F : ∀ base : Heap, K.In base → base.Ns mainGlobals mg → (∀ p ∈ cs, LamX.TabB base mg p.1 p.2) → FnG P w K mg base L2.CX0 k fa fd [x] sp) (hbind : ∀ (s : Shared) (u : Value), BindsTo s fd ⟨[u], []⟩ [(x, u)])
    (hA : ∀ g ∈ gs, g.At s₁.heap)
    (hsp : ∀ H : Hp, (∀ p ∈ cs, H p.2 = some (.tbl #[])) → Same (gF K gs) H → SqL K H a (ns.map V.int) → sp [.ref a] H (fun v _ => v = .bl true) fun _ _ _ => False) :
    codeAny (model P w) callerA (.call (.ref fa) ⟨[.ref a], []⟩) (fun r s' => r = .ok (.ret (.bool true)) ∧ OldK s₁.heap s'.heap ∧ s'.os = s₁.os ∧ AllBare s'.gens) s₁ := by
  classical
  have rv := vals_ints hi
  have lenV := hi.length
  -- the tables; the script's list where the head does not know it
  let tabs := cs.map (·.2)
  let lo : Obj := { cls := .type "list", data := .seq vs.toArray }
  let H : Hp := fun b => if b ∈ tabs then some (.tbl #[]) else if b = a ∧ K.lookup a = none then some (.frz lo (.lst (ns.map V.int))) else gF K gs b
  have tabOf : ∀ b, b ∈ tabs → s₁.heap.get? b = some { cls := .none, data := .fields #[] } ∧ K.lookup b = none := fun b hm => by
    obtain ⟨p, hp, rfl⟩ := List.mem_map.mp hm
    exact ⟨hT p hp, nT p hp⟩
  have aT : a ∉ tabs := fun z => by
    have q := (tabOf a z).1
    rw [ha] at q
    have z' : Data.seq vs.toArray _ = Data.fields #[] := congrArg Obj.data (Option.some.inj q)
    cases z'
  have Htab : ∀ b, b ∈ tabs → H b = some (.tbl #[]) := fun b hm => if_pos hm
  have Hcase : ∀ b u, H b = some u → (b ∈ tabs ∧ u = .tbl #[]) ∨ (b = a ∧ K.lookup a = none ∧ u = .frz lo (.lst (ns.map V.int))) ∨ ∃ g ∈ gs, g.a = b ∧ K.lookup b = none ∧ u = .frz g.o (.tup g.vs) := fun b u e => by
    by_cases h1 : b ∈ tabs
    · rw [Htab b h1] at e; cases e; exact .inl ⟨h1, rfl⟩
    · have e : (if b = a ∧ K.lookup a = none then some (HO.frz lo (.lst (ns.map V.int))) else gF K gs b) = some u := (if_neg h1).symm.trans e
      split at e
      · rename_i z; cases e; exact .inr (.inl ⟨z.1, z.2, rfl⟩)
      · exact .inr (.inr (gF_mem e))
  -- a tuple is no list, no table
  have gT : ∀ g ∈ gs, g.a ∉ tabs := fun g hg z => by
    obtain ⟨h1, h2, _⟩ := hA g hg
    rw [(tabOf _ z).1] at h1
    have h1 := Option.some.inj h1
    rw [← h1] at h2; cases h2
  have gA : ∀ g ∈ gs, g.a ≠ a := fun g hg z => by
    obtain ⟨h1, h2, _⟩ := hA g hg
    rw [z, ha] at h1
    have h1 := Option.some.inj h1
    rw [← h1] at h2
    exact absurd h2 (by simp)
  -- what is tracked is a list or an empty table
  have seen : ∀ {b o}, s₁.heap.get? b = some o → (∀ ws n, o.data ≠ .seq ws n) → o.data ≠ .fields #[] → H b = none := fun {b o} e h1 h2 => by
    cases q : H b with
    | none => rfl
    | some u =>
      rcases Hcase b u q with ⟨z, _⟩ | ⟨z, _⟩ | ⟨g, hg, z, _⟩
      · rw [(tabOf b z).1] at e; cases e; exact absurd rfl h2
      · rw [z, ha] at e; cases e; exact absurd rfl (h1 _ _)
      · obtain ⟨q1, _, its, n, q3, _⟩ := hA g hg
        rw [z, e] at q1; cases q1
        exact absurd q3 (h1 _ _)
  have toB : ∀ {b o}, s₁.heap.get? b = some o → H b = none → (hidT s₁.heap H).get? b = some o := fun e n => hidT_get e n
  have dictB : ∀ {b o es ep}, s₁.heap.get? b = some o → o.data = .dict es ep → (hidT s₁.heap H).get? b = some o := fun {b o es ep} e d =>
    toB e (seen e (fun ws n z => by rw [d] at z; cases z) fun z => by rw [d] at z; cases z)
  have nsB : ∀ {b : Addr} {m : Str → Option Value}, s₁.heap.Ns b m → (hidT s₁.heap H).Ns b m := fun ⟨o, es, ep, e, d, r⟩ => ⟨o, es, ep, dictB e d, d, r⟩
  have kB : K.In (hidT s₁.heap H) := fun b o e => toB (KX b o e) (by
    cases q : H b with
    | none => rfl
    | some u =>
      rcases Hcase b u q with ⟨z, _⟩ | ⟨z, z2, _⟩ | ⟨g, hg, z, z2, _⟩
      · rw [(tabOf b z).2] at e; cases e
      · rw [z, z2] at e; cases e
      · rw [z2] at e; cases e)
  have mB : L2.Mod K mg (hidT s₁.heap H) := ⟨kB, nsB hns, ⟨mb, nsB hb, hbb⟩, let ⟨mc, h1, h2⟩ := hlim; ⟨mc, nsB h1, h2⟩⟩
  have glob : ∀ {b o}, s₁.heap.get? b = some o → (∀ es ep, o.data ≠ .dict es ep) → b ≠ mainGlobals := fun {b o} e h z => by
    obtain ⟨o', es, ep, e', hd, _⟩ := hns
    rw [z, e'] at e; cases e
    exact h _ _ hd
  have TB : ∀ p ∈ cs, LamX.TabB (hidT s₁.heap H) mg p.1 p.2 := fun p hp => by
    refine ⟨?_, ?_, fun z => glob (hT p hp) (fun _ _ z => by cases z) z.symm⟩
    · obtain ⟨o, us, file, tf, flags, tg, inF, text, tt, e1, r1, r2, r3, r⟩ := C p hp
      refine ⟨o, us, file, tf, flags, tg, inF, text, tt, toB e1 (seen e1 (fun ws n z => ?_) fun z => ?_), r1, r2, r3, r⟩
      · rw [r2] at z; cases z
      · rw [r2] at z; cases z; simp at r3
    · obtain ⟨bm, ob, b1, b2, b3, b4, b5, b6⟩ := hbm
      refine ⟨bm, ob, b1, b2, glob b3 (fun _ _ z => by rw [b6] at z; cases z), fun q => ?_, toB b3 (seen b3 (fun ws n z => ?_) fun z => ?_), b4, b5, b6⟩
      · rw [q, hT p hp] at b3; cases b3; cases b6
      · rw [b6] at z; cases z
      · rw [b6] at z; cases z
  have hok : HOk P w H s₁.heap := fun b u e => by
    rcases Hcase b u e with ⟨z, rfl⟩ | ⟨rfl, _, rfl⟩ | ⟨g, hg, rfl, _, rfl⟩
    · exact (tabOf b z).1
    · exact ⟨ha, by rw [List.length_map]; exact hl, vs, _, rv, ha⟩
    · obtain ⟨q1, q2, its, n, q3, q4, q5⟩ := hA g hg
      exact ⟨q1, by rw [q5.length]; simpa using q4, its.toList, q5, g.o, q1, q2, n, by rw [q3]⟩
  have hS : SqL K H a (ns.map V.int) := by
    cases hk : K.lookup a with
    | none => exact .inl (.inr ⟨lo, (if_neg aT).trans (if_pos ⟨rfl, hk⟩)⟩)
    | some o =>
      have e := KX a o hk
      rw [ha] at e; cases e
      exact .inr ⟨_, vs.toArray, _, hk, rfl, rfl, rfl, by rw [List.size_toArray, lenV]; exact hl, by simpa using rv⟩
  have e0 : Env0 P w K mg (hidT s₁.heap H) callerA [] s₁ H := ⟨rfl, mB, fun b o e => of_hidT e, Nat.le_of_eq (hidT_size _ _), trivial, fun b hb => absurd (show b ∈ ([] : List Addr) from hb) (by simp), hok, .of_eq hg⟩
  refine codeAny_mono ((F _ kB (nsB hns) TB).go callerA [] s₁ H ⟨[.ref a], []⟩ [.ref a] [.ref a] _ _ hr rfl e0 (hbind s₁ (.ref a)) (.cons rfl .nil) (hsp H (fun p hp => Htab _ (List.mem_map.mpr ⟨p, hp, rfl⟩)) (fun b u e => by
    obtain ⟨g, hg, z, _⟩ := gF_mem e
    exact ((if_neg (by rw [← z]; exact gT g hg)).trans (if_neg fun y => gA g hg (z.trans y.1))).trans e) hS)) fun r s' h => ?_
  match r, h with
  | .error e, h => exact h.elim
  | .ok .next, h => exact h.elim
  | .ok .brk, h => exact h.elim
  | .ok .cont, h => exact h.elim
  | .ok (.ret u), ⟨v, H', os, bare, un, hok', r', q⟩ =>
    have q' : v = .bl true := q
    subst q'
    obtain rfl : u = Value.bool true := r'
    have keep : ∀ b o, b ∉ tabs → s₁.heap.get? b = some o → s'.heap.get? b = some o := fun b o nb e => by
      cases q : H b with
      | none => exact un.keep b o e q (by intro z; exact absurd (show b ∈ ([] : List Addr) from z) (by simp)) (by simp)
      | some u =>
        rcases Hcase b u q with ⟨z, _⟩ | ⟨_, _, rfl⟩ | ⟨g, hg, z, _, rfl⟩
        · exact absurd z nb
        · obtain ⟨e1, _⟩ := hok b _ q
          obtain ⟨e2, _⟩ := hok' b _ (un.frzs b lo _ q)
          rw [e] at e1; cases e1
          exact e2
        · obtain ⟨e1, _⟩ := hok b _ q
          obtain ⟨e2, _⟩ := hok' b _ (un.frzs b g.o _ q)
          rw [e] at e1; cases e1
          exact e2
    have grown : ∀ p ∈ cs, ∃ more : Array Value, s'.heap.get? p.2 = some { cls := .none, data := .fields more } := fun p hp => by
      obtain ⟨more, z⟩ := un.tbls p.2 #[] (Htab _ (List.mem_map.mpr ⟨p, hp, rfl⟩))
      exact ⟨_, hok' p.2 _ z⟩
    refine ⟨rfl, ⟨fun b o e => ?_, fun b o e => ?_⟩, os, bare⟩
    · by_cases hm : b ∈ tabs
      · obtain ⟨p, hp, rfl⟩ := List.mem_map.mp hm
        obtain ⟨more, hm⟩ := grown p hp
        rw [hT p hp] at e; cases e
        exact .inr (.inl ⟨((C p hp).tab (hT p hp)).isCodeTable, rfl, #[], more, rfl, by rw [Array.empty_append]; exact hm⟩)
      · exact .inl (keep b o hm e)
    · by_cases hm : b ∈ tabs
      · obtain ⟨p, hp, rfl⟩ := List.mem_map.mp hm
        obtain ⟨more, hm⟩ := grown p hp
        exact ⟨_, hm⟩
      · exact ⟨o, keep b o hm e⟩
end Ev
set_option maxHeartbeats 2000000
/-! Ev38: the row of a law by its def's promise; defs that are handed a lambda, as the printed proofs use them. -/
namespace Ev
open PySem PySem.Spec PyProof.Rows L2
/-- a global of the top holds a tuple of plain values -/
def TupAt (mg : Str → Option Value) (h : Heap) (x : Str) (ds : List PyData) : Prop := ∃ g : GTup, g.At h ∧ mg x = some (.ref g.a) ∧ ∀ K : PySem.W.Frag, DqAll K (fun _ => none) g.vs ds
/-- .. as the walk sees it: in the heap F0 -/
def TupIn (K : PySem.W.Frag) (mg : Str → Option Value) (F0 : Hp) (x : Str) (ds : List PyData) : Prop := ∃ a vs, mg x = some (.ref a) ∧ SqT K F0 a vs ∧ DqAll K (fun _ => none) vs ds
/-- the law's promise, at the head's heap -/
def LawG (l : PySem.W.OpenLaw) (w : World) (K : PySem.W.Frag) (k n : Nat) (x : Str) (tb : List Str) (mg : Str → Option Value) (F0 : Hp) (fa : Addr) : Prop :=
  ∃ (fd : FuncData) (cs : List (Addr × Addr)) (sp : Sp), (∀ p ∈ cs, ∃ y ∈ tb, PySem.W.tabIn K y = some p) ∧ (∀ p ∈ cs, K.lookup p.2 = none) ∧ (∀ (s : Shared) (u : Value), BindsTo s fd ⟨[u], []⟩ [(x, u)]) ∧
    (∀ (H : Hp) (a : Addr) (ns : List Int), ns.length ≤ n → (∀ z ∈ ns, Builtin.Int.intBits z ≤ 1048576) → (∀ p ∈ cs, H p.2 = some (.tbl #[])) → Same F0 H → SqL K H a (ns.map V.int) → sp [.ref a] H (fun v _ => v = .bl true) fun _ _ _ => False) ∧
    ∀ base : Heap, K.In base → base.Ns mainGlobals mg → (∀ p ∈ cs, LamX.TabB base mg p.1 p.2) → FnG l.prog w K mg base L2.CX0 k fa fd [x] sp
theorem tups_of {K : PySem.W.Frag} {mg : Str → Option Value} {h : Heap} (KX : K.In h) {gl : List (Str × List PyData)} (hg : ∀ p ∈ gl, TupAt mg h p.1 p.2) : ∃ gs : List GTup, (∀ g ∈ gs, g.At h) ∧ (∀ p ∈ gl, TupIn K mg (gF K gs) p.1 p.2) := by
  -- one tuple an address: what an address holds is one object; of its values the reading is kept that was taken first
  have pick : ∀ gl : List (Str × List PyData), (∀ p ∈ gl, TupAt mg h p.1 p.2) → ∃ gs : List GTup, (∀ g ∈ gs, g.At h) ∧ (∀ g ∈ gs, ∀ g' ∈ gs, g.a = g'.a → g = g') ∧ ∀ p ∈ gl, ∃ g ∈ gs, mg p.1 = some (.ref g.a) ∧ ∀ K : PySem.W.Frag, DqAll K (fun _ => none) g.vs p.2 := by
    intro gl
    induction gl with
    | nil => exact fun _ => ⟨[], by simp, by simp, by simp⟩
    | cons p gl ih =>
      intro hg
      obtain ⟨gs, h1, h2, h3⟩ := ih fun p hp => hg p (List.mem_cons_of_mem _ hp)
      obtain ⟨g, hA, hm, hq⟩ := hg p (List.mem_cons_self ..)
      by_cases he : ∃ g' ∈ gs, g'.a = g.a
      · obtain ⟨g', hg', e⟩ := he
        -- the same object: the same plain values
        have ev : g'.vs = g.vs := by
          obtain ⟨q1, _, its, n, q3, _, q5⟩ := h1 g' hg'
          obtain ⟨r1, _, its', n', r3, _, r5⟩ := hA
          rw [e, r1] at q1
          have q1 := Option.some.inj q1
          rw [← q1, r3] at q3
          cases q3
          exact Vals.inj q5 r5
        refine ⟨gs, h1, h2, fun q hq' => ?_⟩
        rcases List.mem_cons.mp hq' with rfl | hq'
        · exact ⟨g', hg', by rw [e]; exact hm, fun K => by rw [ev]; exact hq K⟩
        · exact h3 q hq'
      · refine ⟨g :: gs, fun x hx => (List.mem_cons.mp hx).elim (fun e => e ▸ hA) (h1 x), fun x hx y hy e => ?_, fun q hq' => ?_⟩
        · rcases List.mem_cons.mp hx with ex | hx2
          · rcases List.mem_cons.mp hy with ey | hy2
            · rw [ex, ey]
            · exact absurd ⟨y, hy2, by rw [← e, ex]⟩ he
          · rcases List.mem_cons.mp hy with ey | hy2
            · exact absurd ⟨x, hx2, by rw [e, ey]⟩ he
            · exact h2 x hx2 y hy2 e
        · rcases List.mem_cons.mp hq' with rfl | hq'
          · exact ⟨g, List.mem_cons_self .., hm, hq⟩
          · obtain ⟨g', hg', z⟩ := h3 q hq'
            exact ⟨g', List.mem_cons_of_mem _ hg', z⟩
  obtain ⟨gs, h1, h2, h3⟩ := pick gl hg
  refine ⟨gs, h1, fun p hp => ?_⟩
  obtain ⟨g, hg', hm, hq⟩ := h3 p hp
  exact ⟨g.a, g.vs, hm, gF_sq KX h1 h2 hg', hq K⟩
theorem walkG {l : PySem.W.OpenLaw} {n k : Nat} {q : Program} {loose : List Str} {XP : (Str → Option Value) → Heap → Prop} {YP : World → Heap → Prop} {d : DefRec} {Kf : Params → PySem.W.Frag} {x : Str} (tb : List Str) (gl : List (Str × List PyData))
    (hn : l.most = some n) (hn2 : n ≤ sizeLine) (hdf : d.params.defaults = []) (hr : Room k callerA) (htb : ∀ y ∈ tb, ((recsOf q).find? (fun e => e.name == y)).isSome = true) (hX : ∀ mg h, XP mg h → ∀ p ∈ gl, TupAt mg h p.1 p.2) (hY : ∀ (w : World) (h : Heap), YP w h → (Kf w.params).In h)
    (F : ∀ (w : World) (mg : Str → Option Value) (fa : Addr) (h : Heap) (F0 : Hp), (Kf w.params).In h → h.Ns mainGlobals mg → mg d.name = some (.ref fa) → (∀ p ∈ gl, TupIn (Kf w.params) mg F0 p.1 p.2) → (∀ a ps, F0 a ≠ some (.tbl ps)) → LawG l w (Kf w.params) k n x tb mg F0 fa) :
    PySem.W.WalkO q loose XP YP l.row.toRowW d [] (fun f vs => PySem.call f vs) := by
  refine Att.attach_callB hn hdf fun w s₀ s₁ mg mb fa o pm cd doc a vs ns G Y ho hd hcd hmg hobj hints hlen hbits hg => ?_
  have KX := hY w _ Y
  obtain ⟨gs, hA, hG⟩ := tups_of KX (hX _ _ G.X)
  obtain ⟨fd, cs, sp, h1, nT, hb, hsp, hF⟩ := F w mg fa _ (gF (Kf w.params) gs) KX G.T.g hmg hG fun a ps e => by
    obtain ⟨g, _, _, _, z⟩ := gF_mem e
    cases z
  have both : ∀ p ∈ cs, PySem.W.CodeHd s₁.heap p.1 p.2 ∧ s₁.heap.get? p.2 = some { cls := .none, data := .fields #[] } := fun p hp => by
    obtain ⟨y, hy, ht⟩ := h1 p hp
    have hf := htb y hy
    cases hr : (recsOf q).find? (fun e => e.name == y) with
    | none => rw [hr] at hf; cases hf
    | some dr => exact PySem.W.tab_of G.T KX hr ht
  exact law_run KX G.T.g G.T.b G.T.builtins G.T.nolimit hg (fun p hp => (both p hp).2) nT (fun p hp => (both p hp).1) G.T.bmain hobj hints (Nat.le_trans hlen hn2) hr hF hb hA (fun H hH hS hL => hsp H a ns hlen hbits hH hS hL)
section
variable {P : Program} {w : World} {K : PySem.W.Frag} {mg : Str → Option Value} {base : Heap} {T0 : Top0} {x qual : Str} {k kl nl np j : Nat} {N ps : List Str} {f : Addr} {fd : FuncData} {st : Stmt}
/-- a def of the program that is handed a function -/
structure DefOkH (P : Program) (w : World) (K : PySem.W.Frag) (mg : Str → Option Value) (base : Heap) (T0 : Top0) (x : Str) (k kl nl np : Nat) (Φ : Fn → Fn) : Prop where
  ex : ∃ (f : Addr) (fd : FuncData) (ps : List Str), ps.length = np + 1 ∧ mg x = some (.ref f) ∧ PySem.W.keepIn K (.ref f) = true ∧ (∀ us : List Value, us.length = ps.length → bindArgs fd ⟨us, []⟩ = pure (ps.zip us)) ∧
    ∀ t : Tabl, TopI T0 t → HDef (Tbi := t) P w K mg base L2.CX0 k kl nl f fd ps np Φ
theorem okH {fb : Fn → M Fl} [Tbi : Tabl] (F : L2.Fun K x qual st f fd) (S : FnScope N ps (defScope st)) (hps : ps.length = np + 1)
    (hbody : ∀ (t : Tabl) (lam : Fn) (cdv : Value) (A : Around) (outer : List PySem.Env) (s : Shared) (H : Hp) (E : XK), t.T = Tbi.T → Same Tbi.f0 t.f0 → t.fx = [np] → Room k (A.deeper (envOfC qual (defScope st) s.heap.objs.size f cdv)) → (A.deeper (envOfC qual (defScope st) s.heap.objs.size f cdv)).guards = some [] →
      Handed (Tbi := t) (cxOf L2.CX0 P w K mg base N qual (defScope st) f cdv A outer s H E).nox L2.CX0 mg kl np nl lam → PSs (cxOf L2.CX0 P w K mg base N qual (defScope st) f cdv A outer s H E).nox (defBody st) (tS (Tbi := t) K mg E [np] (fb lam))) :
    HDef P w K mg base L2.CX0 (k + 1) kl nl f fd ps np (fun lam => runH N.length np (fb lam)) := by
  obtain ⟨oc, od, kV, doc, pm, an, cdv, ct, osl, rfl, lk, hcd⟩ := F.ex
  refine h_of lk hcd S hps fun t lam A outer s H E hT hF hx hr hg hh => (hbody t lam cdv A outer s H E hT hF hx hr hg ?_).nox
  obtain ⟨f, F, body, fr, ws, h1, h2, h3, L, q⟩ := hh
  exact ⟨f, F, body, fr, ws, h1, h2, h3, L, fun pins σ H s I => q pins σ H s I.unwish⟩
end
end Ev
set_option maxHeartbeats 2000000
/-! Ev39: {k: v}; globals as data; words of the printed proofs. -/
namespace Ev
open PySem PySem.Spec PyProof.Rows L2
section
variable [Tbi : Tabl]
variable {K : PySem.W.Frag} {mg : Str → Option Value} {E : XK} {X : Cx} {a b c e kx vx : Expr} {es : List Expr} {p pos : Pos} {x : Str}
def dict1V (fk fv : M Rv) : M Rv := M.bind fk fun a => M.bind fv fun b => match a with
  | .d x => match dKey x with
    | some k => M.bind (asD b) fun d => M.ret (.n (.k [(k, d)]))
    | none => M.no
  | _ => M.no
theorem rel_updO {W : Addr → Prop} {σ : L2.St} {F H : Hp} {env : Ev.Env} (rl : Rel K W F H σ env) {p : Addr} {o o' : HO} {c : C} (hx : H p = some o) (hc : CR K F o c) (hp : W p) (ho : isTup o' = false) : Rel K W F (upd H p o') σ env := by
  have hf := (rl.fw p hp).1
  refine ⟨rl.len, fun a u e => by rw [upd_ne (ne_of_none e hf)]; exact rl.fz a u e, fun a ha => ⟨(rl.fw a ha).1, ?_⟩, fun i x r h1 h2 => ?_, rl.ds, tabs_cr rl.tb hx hc, rl.fn, rl.tf⟩
  · by_cases e : a = p
    · subst e; exact ⟨o', upd_same, ho⟩
    · rw [upd_ne e]; exact (rl.fw a ha).2
  · have q := rl.sl i x r h1 h2
    match x, r, q with
    | _, none, _ => exact True.intro
    | some v, some (.d x), q => exact q
    | some v, some (.s x), q => exact q
    | some v, some (.c d), ⟨q, o, e, hq, hc, hf', hw'⟩ =>
      exact ⟨q, o, e, by rw [upd_ne (fun z => hw' (by rw [z]; exact hp))]; exact hq, hc, hf', hw'⟩
theorem de_dict1 {fk fv : M Rv} (hk : PE X kx (tE K mg E fk)) (hv : PE X vx (tE K mg E fv)) : PE X (.Dict [some kx] [vx] pos) (tE K mg E (dict1V fk fv)) := by
  refine (pe_disp (pps_cons hk hv pps_nil) rfl rfl (by simp) (by simp)).imp fun σ H Q ⟨W, F, env, rl, h⟩ p hp => ?_
  have an : Aft K W σ env F H env F (upd H p (.dK [])) := aft_new rl hp
  have hf : F p = none := rl.free hp
  have hw : ¬ W p := rl.notW hp
  have r1 : Rel K (fun a => W a ∨ a = p) F (upd H p (.dK [])) σ env := an.rel.more hf ⟨_, upd_same, rfl⟩ fun i z => rl.notOwn hp i z
  have h := post.from an h
  refine ⟨fun a => W a ∨ a = p, F, env, r1, ((post_bind h).more (W' := fun a => W a ∨ a = p) fun _ => .inl).imp fun a env1 F1 H1 _ a1 h1 v rv => ?_⟩
  have h1 := h1 a1
  refine ⟨Wp (fun a => W a ∨ a = p) v a, F1, env1, rv.hold a1.rel, ((post_bind h1).more (W' := Wp (fun a => W a ∨ a = p) v a) fun _ z => .inl (.inl z)).imp fun b env2 F2 H2 _ a2 h2 u ru => ?_⟩
  have h2 := h2 a2
  have rv2 := rv.keep a2
  cases a with
  | d x =>
    simp only at h2
    cases hd : dKey x with
    | none => rw [hd] at h2; exact h2.elim
    | some k =>
      rw [hd] at h2
      have hp1 : H1 p = some (.dK []) := (a1.keep p (.inr rfl)).trans upd_same
      have hp2 : H2 p = some (.dK []) := (a2.keep p (.inl (.inr rfl))).trans hp1
      have rl2 : Rel K (fun a => W a ∨ a = p) F2 H2 σ env2 := a2.rel.less fun _ => .inl
      rcases asD_run rl2 (ru.less fun _ => .inl) with e | ⟨d, env3, F3, e, a3, hq⟩
      · exfalso
        have := post_bind h2
        rw [e] at this; exact this
      · have h3 := post_bind h2
        rw [e] at h3
        have h3 := h3 F3 H2 (a3.less fun _ => .inl)
        have hc : CR K F3 (.dK []) (.k []) := .nil
        have r4 : Rel K (fun a => W a ∨ a = p) F3 (upd H2 p (.dK [(k, u)])) σ env3 := rel_updO a3.rel hp2 hc (.inr rfl) rfl
        have a4 : Aft K W σ env3 F3 H2 env3 F3 (upd H2 p (.dK [(k, u)])) := ⟨ELe.refl _, Same.refl _, fun x hx => upd_ne fun z => hw (by rw [← z]; exact hx), r4.less fun _ => .inl⟩
        have hkx : v = kV k := dKey_ok rv2 hd
        subst hkx
        refine ⟨hp2, [(k, u)], rfl, by simp, h3 F3 _ a4 (.ref p) ⟨p, _, rfl, upd_same, ?_, (a3.rel.fw p (.inr rfl)).1, hw, fun i z => ?_⟩⟩
        · exact .cons ⟨rfl, hq⟩ .nil
        · exact rl.notOwn hp i (a1.le.own (a2.le.own (a3.le.own z)))
  | _ => exact h2.elim
end
/-! ### globals -/
section
variable {K : PySem.W.Frag} {mg : Str → Option Value} {E : XK} {X : Cx} {p pos : Pos} {x : Str}
variable (K mg) in
def GDat (F0 : Hp) (x : Str) (d : PyData) : Prop := ∃ v u, mg x = some u ∧ RelV v u ∧ Dq K F0 v d
variable {F0 : Hp}
theorem de_g [Tbi : Tabl] {d : PyData} {T0 : Top0} (hT : TopI T0 Tbi) (hg : Gl X x) (h : GDat X.K X.mg T0.F x d) (hd : (x == ("__debug__" : Str)) = false) : PE X (.Name x pos) (tE X.K X.mg E (vC d)) := by
  obtain ⟨v, u, hm, r, hv⟩ := h
  refine (pe_glob hg hm r hd).imp fun σ H Q h => ?_
  obtain ⟨W, F, env, rl, h⟩ := h
  exact h F H (Aft.refl rl) v (Dq.mono (hT.2.trans rl.tf.2) hv)
theorem gdat_int {i : Int} {t : Tok} (h : mg x = some (.int i t)) : GDat K mg F0 x (.int i) := ⟨.int i, _, h, ⟨t, rfl⟩, .int i⟩
theorem gdat_str {s : Str} {t : Tok} (h : mg x = some (.str s t)) : GDat K mg F0 x (.str s) := ⟨.str s, _, h, ⟨t, rfl⟩, .str s⟩
/-- values of a known tuple -/
def valD1 : Value → Option (V × PyData)
  | .int i _ => some (.int i, .int i)
  | .str s _ => some (.str s, .str s)
  | .none => some (.non, .none)
  | .bool b => some (.bl b, .bool b)
  | _ => none
def valDs : List Value → Option (List V × List PyData)
  | [] => some ([], [])
  | u :: us => match valD1 u, valDs us with
    | some (v, d), some (vs, ds) => some (v :: vs, d :: ds)
    | _, _ => none
theorem valD1_ok {u : Value} {v : V} {d : PyData} (h : valD1 u = some (v, d)) : RelV v u ∧ Dq K (fun _ => none) v d := by
  cases u <;> first | (cases h; done) | skip
  all_goals (cases h; first | exact ⟨⟨_, rfl⟩, .int _⟩ | exact ⟨⟨_, rfl⟩, .str _⟩ | exact ⟨rfl, .non⟩ | exact ⟨rfl, .bl _⟩)
theorem valDs_ok : ∀ {us : List Value} {vs : List V} {ds : List PyData}, valDs us = some (vs, ds) → Vals vs us ∧ DqAll K (fun _ => none) vs ds
  | [], _, _, h => by cases h; exact ⟨.nil, .nil⟩
  | u :: us, vs, ds, h => by
    unfold valDs at h
    split at h
    · rename_i v d vs' ds' e1 e2
      cases h
      obtain ⟨r, q⟩ := valD1_ok (K := K) e1
      obtain ⟨r2, q2⟩ := valDs_ok e2
      exact ⟨.cons r r2, .cons q q2⟩
    · cases h
theorem gdat_tup {a : Addr} {vs : List V} {ds : List PyData} (h : mg x = some (.ref a)) (hs : SqT K F0 a vs) (hv : DqAll K (fun _ => none) vs ds) : GDat K mg F0 x (.tuple ds) :=
  ⟨.ref a, _, h, rfl, .tup hs (DqAll.mono (fun _ _ e => by cases e) hv)⟩
end
/-! ### words -/
/-- two values, then k -/
abbrev bi2 (fa fb : M Rv) (k : Rv → Rv → M Rv) : M Rv := M.bind fa fun x => M.bind fb fun y => k x y
abbrev ca (fs : List (M Rv)) (k : List Rv → M Rv) : M Rv := M.bind (argsV fs) k
end Ev
set_option maxHeartbeats 2000000
/-! Ev40: small words for the printed proofs. -/
namespace Ev
open PySem PySem.Spec PyProof.Rows L2
theorem hu_70 {A : Around} {k : Nat} (hr : Room k A) : A.units + 70 < cLine := by have := hr.un; omega
theorem hu_65 {A : Around} {k : Nat} (hr : Room k A) : A.units + 65 < cLine := by have := hr.un; omega
section
variable {K : PySem.W.Frag} {mg : Str → Option Value} {E : XK} {X : Cx} {k kl np j : Nat} {f : Addr} {fd : FuncData} {ps N : List Str} {x qual : Str} {p pos lpos : Pos} {e : Expr} {es : List Expr} {P : Program} {w : World} {base : Heap} {st : Stmt} {gd : List Nat} {T0 : Top0}
/-- the name that a lambda of the def x bears -/
abbrev lamQ (x : Str) : Str := (x ++ ".<locals>.") ++ "<lambda>"
theorem free_by {sc sc2 : Scope} (h : (sc.names.all fun y => !decide (y.2 = .free) || decide (sc2.names.lookup y.1 = some .cell) || decide (sc2.names.lookup y.1 = some .free)) = true) : ∀ y ∈ sc.names, y.2 = .free → sc2.names.lookup y.1 = some .cell ∨ sc2.names.lookup y.1 = some .free := fun y hy e => by
  have q := List.all_eq_true.mp h y hy
  simp only [Bool.or_eq_true, Bool.not_eq_true', decide_eq_false_iff_not, decide_eq_true_eq] at q
  rcases q with (q | q) | q
  · exact absurd e q
  · exact .inl q
  · exact .inr q
theorem memf_by {sc : Scope} {fr : List Str} (h : (fr.all fun y => decide ((y, NameKind.free) ∈ sc.names)) = true) : ∀ y ∈ fr, (y, NameKind.free) ∈ sc.names := fun y hy => of_decide_eq_true (List.all_eq_true.mp h y hy)
theorem okGL {fb : M Fl} {c : Addr} [Tbi : Tabl] (h0 : Tbi.fx = []) (F : L2.Fun K x qual st f fd) (hc : fd.code = .ref c) (S : FnScope N ps (defScope st)) (hgd : ∀ g ∈ gd, g < ps.length) (nd : gd.Nodup)
    (hbody : ∀ (A : Around) (outer : List PySem.Env) (s : Shared) (H : Hp) (E : XK), Room k (A.deeper (envOfC qual (defScope st) s.heap.objs.size f (.ref c))) → (A.deeper (envOfC qual (defScope st) s.heap.objs.size f (.ref c))).guards = some [] →
      PSs (cxOf L2.CX0 P w K mg base N qual (defScope st) f (.ref c) A outer s H E).nox (defBody st) (tS K mg E gd fb)) :
    FnG P w K mg base L2.CX0 (k + 1) f fd ps (spM K mg ps.length gd (runD N.length gd fb)) := by
  obtain ⟨oc, od, kV, doc, pm, an, cdv, ct, osl, rfl, lk, hcd⟩ := F.ex
  have hc : cdv = .ref c := hc
  subst hc
  exact g_of h0 lk hcd S hgd nd fun A outer s H E hr hg => (hbody A outer s H E hr hg).nox
theorem de_defL [Tbi : Tabl] {fs : M (List Rv)} {ls : List Bool} {Φ : Fn → Fn} {params : Arguments} {body : Expr} {scope : Scope} {c Pt : Addr} {js : List Nat} {NL psL fr : List Str} {fB : M Rv}
    (D : DefOkH X.prog X.w X.K X.mg X.base T0 x j (kl + 1) psL.length np Φ) (hT : TopI T0 Tbi) (hjk : j ≤ k) (hls : ls.length = np) (hr : Room k X.A) (hgd : X.A.guards = some []) (hg : Gl X x)
    (ha : PL X (e :: es) (.Lambda params body scope lpos) (tA X.K X.mg E fs)) (TB : LamX.TabB X.base X.mg c Pt) (hcode : X.env.code = .ref c) (hmT : (Pt, X.env.qual ++ "<lambda>") ∈ T0.T) (hu : ∀ p ∈ T0.T, p.1 = Pt → p.2 = X.env.qual ++ "<lambda>")
    (hdef : defaultsOf params X.env = ([], [])) (hfree : ∀ y ∈ scope.names, y.2 = .free → X.env.scope.names.lookup y.1 = some .cell ∨ X.env.scope.names.lookup y.1 = some .free) (hfr : ∀ y ∈ fr, (y, NameKind.free) ∈ scope.names) (hjs : js.map (fun j => X.N[j]?) = fr.map some)
    (SL : NdefX.NScope NL psL fr scope) (hbL : ∀ (cl : List (Str × Addr)) (pm ctv : Value) (c' : Addr) (us : List Value), us.length = psL.length → bindArgs (PySem.W.kla_fn "<lambda>" (X.env.qual ++ "<lambda>") params body scope cl pm (.ref c') ctv) ⟨us, []⟩ = pure (psL.zip us))
    (hbodyL : ∀ (t : Tabl) (cl : List (Str × Addr)) (c' f : Addr) (A : Around) (outer : List PySem.Env) (s : Shared) (H : Hp) (E : XK), TopI T0 t → t.fx = [] → Room kl (A.deeper (NdefX.envF ⟨"<lambda>", X.env.qual ++ "<lambda>", params, [], scope, cl, c'⟩ f s.heap.objs.size)) →
      (A.deeper (NdefX.envF ⟨"<lambda>", X.env.qual ++ "<lambda>", params, [], scope, cl, c'⟩ f s.heap.objs.size)).guards = some [] → PE (NdefX.ncx L2.CX0 X.prog X.w X.K X.mg X.base NL ⟨"<lambda>", X.env.qual ++ "<lambda>", params, [], scope, cl, c'⟩ f A outer s H E).nox body (tE (Tbi := t) X.K X.mg E fB))
    (hdb : (x == ("__debug__" : Str)) = false) (he : starEach (e :: (es ++ [.Lambda params body scope lpos])) X.env = (false, eval e X.env) :: starEach (es ++ [.Lambda params body scope lpos]) X.env) (hpl : (backTo pos (starEach (es ++ [.Lambda params body scope lpos]) X.env)).any (·.1) = false) :
    PE X (.Call (.Name x p) (e :: (es ++ [.Lambda params body scope lpos])) [] pos) (tE X.K X.mg E (callLM Φ ls fs js fun wE => lamFn NL.length wE fB)) := by
  obtain ⟨g, fd, ps, hn, hm, hk, hb, G⟩ := D.ex
  have G1 := G Tbi hT
  have G2 : HDef X.prog X.w X.K X.mg X.base L2.CX0 k (kl + 1) psL.length g fd ps np Φ := HDef.mk (Tbi := Tbi) fun t f lam A outer s H us vs Q E h1 hF h2 h3 hr => HDef.go (Tbi := Tbi) G1 t f lam A outer s H us vs Q E h1 hF h2 h3 (hr.mono hjk)
  exact de_callL (CX := L2.CX0) (k := k) G2 hls hr hgd hg hm hk hn hb passT ha TB hcode (by rw [hT.1]; exact hmT) (fun p hp => hu p (by rw [← hT.1]; exact hp)) hdef hfree hfr hjs SL hbL
    (fun t cl c' f A outer s H E h1 hF h2 h3 h4 => (hbodyL t cl c' f A outer s H E ⟨h1.trans hT.1, hT.2.trans hF⟩ h2 h3 h4).nox) rfl hdb he hpl
end
end Ev
set_option maxHeartbeats 2000000
/-! Ev41: the law's promise out of what its def computes of the script. -/
namespace Ev
open PySem PySem.Spec PyProof.Rows L2
/-- the instance of the top -/
abbrev top0 (T0 : Top0) : Tabl := ⟨T0.T, [], fun _ => .non, [], T0.F⟩
theorem topI0 (T0 : Top0) : TopI T0 (top0 T0) := ⟨rfl, Same.refl _⟩
/-- all but the tables -/
def noTbl (H : Hp) : Hp := fun b => match H b with
  | some (.tbl _) => none
  | o => o
theorem noTbl_same (H : Hp) : Same (noTbl H) H := fun b o e => by
  unfold noTbl at e
  split at e
  · cases e
  · exact e
theorem noTbl_no (H : Hp) (a : Addr) (ps : Array Value) : noTbl H a ≠ some (.tbl ps) := fun e => by
  have h := noTbl_same H a _ e
  unfold noTbl at e
  rw [h] at e
  cases e
theorem noTbl_of {H : Hp} {b : Addr} {o : HO} (e : H b = some o) (h : ∀ ps, o ≠ .tbl ps) : noTbl H b = some o := by
  unfold noTbl
  split
  · rename_i ps e'
    rw [e] at e'
    exact absurd (Option.some.inj e') (h ps)
  · exact e
theorem law_sp {K : PySem.W.Frag} {mg : Str → Option Value} {T0 : Top0} {φ : Fn} {H : Hp} {a : Addr} {ns : List Int} (hT : ∀ p ∈ T0.T, H p.1 = some (.tbl #[])) (hF : Same T0.F H) (hN : ∀ a ps, T0.F a ≠ some (.tbl ps)) (hS : SqL K H a (ns.map V.int)) (h : φ [.s ns] = .ok (.d (.bool true)) []) :
    spM (Tbi := top0 T0) K mg 1 [] φ [.ref a] H (fun v _ => v = .bl true) fun _ _ _ => False := by
  refine ⟨rfl, fun _ => False, noTbl H, [.s ns], Rel.mk (Tbi := top0 T0) rfl (noTbl_same H) (fun a z => z.elim) (fun i x r h1 h2 => ?_) (fun i j p o1 _ => ?_) ⟨fun p hp => LamX.TabS.nil (hT p hp), fun x hx => nomatch hx⟩ (fun j hj => nomatch hj) ⟨noTbl_no H, fun b o e => noTbl_of (hF b o e) fun ps z => hN b ps (by have e : T0.F b = some o := e; rw [e, z])⟩, fun i c e => ?_, ?_⟩
  · cases i with
    | zero =>
      cases h1
      cases h2
      refine ⟨a, rfl, ?_⟩
      rcases hS with (h | ⟨o, h⟩) | h
      · exact .inl (.inl (noTbl_of h fun ps z => by cases z))
      · exact .inl (.inr ⟨o, noTbl_of h fun ps z => by cases z⟩)
      · exact .inr h
    | succ i => cases h1
  · obtain ⟨_, c, e⟩ := o1
    cases i with
    | zero => cases e
    | succ i => cases e
  · cases i with
    | zero => cases e
    | succ i => cases e
  · rw [h]
    intro F' H' v _ rv
    have rv : Dq K F' v (.bool true) := rv
    cases rv
    rfl
/-- plain data laid by the head -/
def wdD : PySem.W.WData → Option PyData
  | .none => some .none
  | .bool b => some (.bool b)
  | .int i => some (.int i)
  | .str s => some (.str s)
  | _ => none
def wdDs : List PySem.W.WData → Option (List PyData)
  | [] => some []
  | d :: ds => match wdD d, wdDs ds with
    | some x, some xs => some (x :: xs)
    | _, _ => none
theorem reads_one {R : PySem.W.WRecords} {cl : Str → Option Addr} {h : Heap} {u : Value} {d : PySem.W.WData} {as : List Addr} {x : PyData} (r : PySem.W.ReadsW R cl h u d as) (e : wdD d = some x) : ∃ v, RelV v u ∧ ∀ K : PySem.W.Frag, Dq K (fun _ => none) v x := by
  cases r <;> first | (cases e; done) | skip
  all_goals (cases e; first | exact ⟨.non, rfl, fun _ => .non⟩ | exact ⟨.bl _, rfl, fun _ => .bl _⟩ | exact ⟨.int _, ⟨_, rfl⟩, fun _ => .int _⟩ | exact ⟨.str _, ⟨_, rfl⟩, fun _ => .str _⟩)
theorem reads_all {R : PySem.W.WRecords} {cl : Str → Option Addr} {h : Heap} : ∀ {us : List Value} {ds : List PySem.W.WData} {as : List Addr} {xs : List PyData}, PySem.W.ReadsAllW R cl h us ds as → wdDs ds = some xs → ∃ vs, Vals vs us ∧ ∀ K : PySem.W.Frag, DqAll K (fun _ => none) vs xs
  | _, [], _, xs, r, e => by cases r; cases e; exact ⟨[], .nil, fun _ => .nil⟩
  | _, d :: ds, _, xs, r, e => by
    cases r with
    | cons r1 r2 =>
      unfold wdDs at e
      split at e
      · rename_i x xs' e1 e2
        cases e
        obtain ⟨v, h1, h2⟩ := reads_one r1 e1
        obtain ⟨vs, h3, h4⟩ := reads_all r2 e2
        exact ⟨v :: vs, .cons h1 h3, fun K => .cons (h2 K) (h4 K)⟩
      · cases e
theorem tupAt_of {lv : List (Str × PySem.W.WData)} {mg : Str → Option Value} {h : Heap} (L : PySem.W.LooseAre lv mg h) {x : Str} {ds : List PyData} {wds : List PySem.W.WData} (hm : (x, PySem.W.WData.tuple wds) ∈ lv) (hd : wdDs wds = some ds) (hz : wds.length ≤ sizeLine) : TupAt mg h x ds := by
  obtain ⟨v, hv, r⟩ := L.val _ hm
  cases r with
  | tuple h1 h2 h3 h4 =>
    obtain ⟨vs, h5, h6⟩ := reads_all h4 hd
    refine ⟨⟨_, _, vs⟩, ⟨h1, h2, _, _, h3, ?_, h5⟩, hv, h6⟩
    have len : ∀ {us : List Value} {ds : List PySem.W.WData} {as : List Addr}, PySem.W.ReadsAllW [] (fun _ => none) h us ds as → us.length = ds.length := by
      intro us ds
      induction ds generalizing us with
      | nil => intro as r; cases r; rfl
      | cons d ds ih => intro as r; cases r with
        | cons r1 r2 => exact congrArg (· + 1) (ih r2)
    have := len h4
    rw [Array.length_toList] at this
    omega
end Ev
set_option maxHeartbeats 1000000
/-! Ev42: M terms computed by simp: one equation a construct. -/
namespace Ev
open PySem PySem.Spec PyProof.Rows L2
section
variable {α β : Type} {env env' env'' : Env} {a : α} {r : Rv} {x : Exn}
@[simp] theorem bind_eq (m : M α) (k : α → M β) (env : Env) : M.bind m k env = (match m env with | .ok a env' => k a env' | .exc x env' => .exc x env' | .no => .no) := rfl
@[simp] theorem ret_eq (a : α) (env : Env) : M.ret a env = .ok a env := rfl
@[simp] theorem vC_eq (d : PyData) (env : Env) : vC d env = .ok (.d d) env := rfl
@[simp] theorem seqS_eq (f g : M Fl) (env : Env) : seqS f g env = (match f env with | .ok .nx env' => g env' | o => o) := rfl
@[simp] theorem skipS_eq (env : Env) : skipS env = .ok .nx env := rfl
@[simp] theorem noS_eq (env : Env) : noS env = .no := rfl
@[simp] theorem retS_eq (f : M Rv) (env : Env) : retS f env = (match f env with | .ok r env' => .ok (.rt r) env' | .exc x env' => .exc x env' | .no => .no) := by
  unfold retS M.bind; cases f env <;> rfl
@[simp] theorem exprS_eq (f : M Rv) (env : Env) : exprS f env = (match f env with | .ok _ env' => .ok .nx env' | .exc x env' => .exc x env' | .no => .no) := by
  unfold exprS M.bind; cases f env <;> rfl
@[simp] theorem ifS_eq (c : M Bool) (f g : M Fl) (env : Env) : ifS c f g env = (match c env with | .ok true env' => f env' | .ok false env' => g env' | .exc x env' => .exc x env' | .no => .no) := by
  unfold ifS M.bind
  cases c env with
  | ok b env' => cases b <;> rfl
  | exc x env' => rfl
  | no => rfl
@[simp] theorem lk_d (x : PyData) (env : Env) : lk (.d x) env = some (.d x) := rfl
@[simp] theorem lk_t (x : List PyData) (env : Env) : lk (.t x) env = some (.d (.tuple x)) := rfl
@[simp] theorem lk_s (x : List Int) (env : Env) : lk (.s x) env = some (.s x) := rfl
@[simp] theorem lk_n (x : C) (env : Env) : lk (.n x) env = some (.c x) := rfl
@[simp] theorem lk_b (i : Nat) (env : Env) : lk (.b i) env = (env[i]?).join := rfl
@[simp] theorem vVar_eq (i : Nat) (env : Env) : vVar i env = (match env[i]? with | some (some (.d x)) => .ok (.d x) env | some (some (.s ns)) => .ok (.s ns) env | some (some (.c _)) => .ok (.b i) env | _ => .no) := by
  unfold vVar
  cases env[i]? with
  | none => rfl
  | some o => cases o with
    | none => rfl
    | some r => cases r <;> rfl
@[simp] theorem lift1_d (f : R → Option Rv) (x : Rv) (env : Env) : lift1 f x env = (match lk x env with | some a => (match f a with | some r => .ok r env | none => .no) | none => .no) := by
  unfold lift1; cases lk x env <;> simp <;> split <;> simp_all
@[simp] theorem lift2_d (f : R → R → Option Rv) (x y : Rv) (env : Env) : lift2 f x y env = (match lk x env, lk y env with | some a, some b => (match f a b with | some r => .ok r env | none => .no) | _, _ => .no) := by
  unfold lift2; cases lk x env <;> cases lk y env <;> simp <;> split <;> simp_all
@[simp] theorem look2_d (f : R → R → Option PyData) (x y : Rv) (env : Env) : look2 f x y env = (match lk x env, lk y env with | some a, some b => (match f a b with | some r => .ok (.d r) env | none => .no) | _, _ => .no) := by
  unfold look2; rw [lift2_d]; cases lk x env <;> cases lk y env <;> simp
  rename_i a b
  cases f a b <;> simp
@[simp] theorem un1_one (f : R → Option Rv) (x : Rv) : un1 f [x] = lift1 f x := rfl
@[simp] theorem un2_two (f : R → R → Option Rv) (x y : Rv) : un2 f [x, y] = lift2 f x y := rfl
@[simp] theorem argsV_nil : argsV [] = M.ret [] := rfl
@[simp] theorem argsV_cons (f : M Rv) (fs : List (M Rv)) (env : Env) : argsV (f :: fs) env = (match f env with | .ok x e1 => (match argsV fs e1 with | .ok xs e2 => .ok (x :: xs) e2 | .exc x e2 => .exc x e2 | .no => .no) | .exc x e1 => .exc x e1 | .no => .no) := by
  show M.bind f (fun x => M.bind (argsV fs) fun xs => M.ret (x :: xs)) env = _
  unfold M.bind
  cases f env with
  | ok x e1 => simp only; cases argsV fs e1 <;> rfl
  | exc x e1 => rfl
  | no => rfl
/-! ### values -/
@[simp] theorem ordR_int (g : PyData → PyData → Bool) (a b : Int) : ordR g (.d (.int a)) (.d (.int b)) = some (.bool (g (.int a) (.int b))) := rfl
@[simp] theorem lt_int (i j : Int) : PySem.W.dataLt (.int i) (.int j) = decide (i < j) := by
  unfold PySem.W.dataLt
  simp [PySem.W.keyToks]
  rw [PySem.W.lex_one]
  simp [PyProof.Rows.itemLt]
@[simp] theorem eqR_int (a b : Int) : eqR (.d (.int a)) (.d (.int b)) = some (.bool (PyData.eqv (.int a) (.int b))) := rfl
@[simp] theorem eqv_int (a b : Int) : PyData.eqv (.int a) (.int b) = decide (a = b) := by
  rw [PyData.eqv]
  exact Bool.eq_iff_iff.mpr (by simp)
@[simp] theorem bM_bool (b : Bool) (env : Env) : bM (.d (.bool b)) env = .ok b env := rfl
@[simp] theorem truM_bool (b : Bool) (env : Env) : truM (.d (.bool b)) env = .ok b env := rfl
theorem atI_nat {α : Type} {xs : List α} {k : Nat} (h : k < xs.length) : L2.atI xs (k : Int) = xs[k]? := by
  unfold L2.atI L2.ixN
  rw [if_pos (by omega), if_pos (by omega)]
  simp
@[simp] theorem atI_0 {α : Type} (x : α) (xs : List α) : L2.atI (x :: xs) 0 = some x := atI_nat (k := 0) (by simp)
@[simp] theorem atI_1 {α : Type} (x y : α) (xs : List α) : L2.atI (x :: y :: xs) 1 = some y := atI_nat (k := 1) (by simp)
@[simp] theorem atI_2 {α : Type} (x y z : α) (xs : List α) : L2.atI (x :: y :: z :: xs) 2 = some z := atI_nat (k := 2) (by simp)
theorem atI_last {α : Type} (xs : List α) : L2.atI xs (-1) = xs.getLast? := by
  cases xs with
  | nil => simp [L2.atI, L2.ixN]
  | cons x xs =>
    rw [List.getLast?_eq_getElem?]
    have : (1 : Int) ≤ ((x :: xs).length : Int) := by simp only [List.length_cons]; omega
    simp [L2.atI, L2.ixN]
    have e : (-1 + ((xs.length : Int) + 1)).toNat = xs.length := by omega
    rw [if_pos (by omega)]
    simp [e]
theorem cutD_to {α : Type} {xs : List α} {k : Nat} (h : k ≤ xs.length) : cutD xs none (some (k : Int)) = xs.take k := by
  unfold cutD
  rw [HT.sIx_none, HT.sIx_nat, List.drop_zero]
  congr 1
  omega
theorem cutD_from {α : Type} {xs : List α} {k : Nat} (h : k ≤ xs.length) : cutD xs (some (k : Int)) none = xs.drop k := by
  unfold cutD
  rw [HT.sIx_none, HT.sIx_nat, Nat.min_eq_left h, List.take_of_length_le (by rw [List.length_drop]; omega)]
@[simp] theorem cutD_1 {α : Type} (x : α) (xs : List α) : cutD (x :: xs) (some 1) none = xs := cutD_from (k := 1) (by simp)
/-! ### loops, turn by turn -/
theorem forL_nx {gd : List Nat} {t : Tg} {f : M Fl} {d : PyData} {ds : List PyData} {env env1 env2 : Env} (h1 : asgT gd t d env = some env1) (h2 : f env1 = .ok .nx env2) : forL gd t f (d :: ds) env = forL gd t f ds env2 := by
  rw [forL]; simp only [h1, h2]
theorem forL_rt {gd : List Nat} {t : Tg} {f : M Fl} {d : PyData} {ds : List PyData} {env env1 env2 : Env} {r : Rv} (h1 : asgT gd t d env = some env1) (h2 : f env1 = .ok (.rt r) env2) : forL gd t f (d :: ds) env = .ok (.rt r) env2 := by
  rw [forL]; simp only [h1, h2]
theorem lcL_add {n : Nat} {vs : List Nat} {t : Tg} {c : M Bool} {f : M Rv} {d y : PyData} {ds acc : List PyData} {env env1 env2 env3 : Env} (h1 : asgT (outer n vs) t d (wipeE env vs) = some env1) (h2 : c env1 = .ok true env2) (h3 : M.bind f asD env2 = .ok y env3) (hz : acc.length < sizeLine) :
    lcL n vs t c f (d :: ds) acc env = lcL n vs t c f ds (acc ++ [y]) env3 := by
  rw [lcL]; simp only [h1, h2, h3, hz, if_true]
theorem lcL_not {n : Nat} {vs : List Nat} {t : Tg} {c : M Bool} {f : M Rv} {d : PyData} {ds acc : List PyData} {env env1 env2 : Env} (h1 : asgT (outer n vs) t d (wipeE env vs) = some env1) (h2 : c env1 = .ok false env2) :
    lcL n vs t c f (d :: ds) acc env = lcL n vs t c f ds acc env2 := by
  rw [lcL]; simp only [h1, h2]
theorem seqS_nx {f g : M Fl} {env env1 : Env} (h : f env = .ok .nx env1) : seqS f g env = g env1 := by simp only [seqS_eq, h]
theorem seqS_rt {f g : M Fl} {env env1 : Env} {r : Rv} (h : f env = .ok (.rt r) env1) : seqS f g env = .ok (.rt r) env1 := by simp only [seqS_eq, h]
theorem forS_ok {gd : List Nat} {m : M (List PyData)} {t : Tg} {f : M Fl} {ds : List PyData} {env env1 : Env} (h : m env = .ok ds env1) : forS gd m t f env = forL gd t f ds env1 := by
  unfold forS M.bind; rw [h]
theorem lcM_ok {m : M (List PyData)} {vs : List Nat} {t : Tg} {c : M Bool} {f : M Rv} {ds ys : List PyData} {env env0 env1 : Env} (h : m env = .ok ds env0) (hc : clean vs env0 = true) (hl : lcL env0.length vs t c f ds [] env0 = .ok ys env1) :
    lcM m vs t c f env = .ok (.n (.l ys)) (restE env0 env1 vs) := by
  unfold lcM M.bind; rw [h]; simp only [hc, if_true, hl]
theorem runD_rt {n : Nat} {gd : List Nat} {f : M Fl} {as : List R} {env : Env} {r r' : Rv} {outs : List R} (h : f (startE n as) = .ok (.rt r) env) (ho : outsOf env gd = some outs) (hr : retR gd env r = some r') : runD n gd f as = .ok r' outs := by
  unfold runD; rw [h]; simp only [ho, hr]
theorem runD_nx {n : Nat} {gd : List Nat} {f : M Fl} {as : List R} {env : Env} {outs : List R} (h : f (startE n as) = .ok .nx env) (ho : outsOf env gd = some outs) : runD n gd f as = .ok (.d .none) outs := by
  unfold runD; rw [h]; simp only [ho]
/-! ### words, applied -/
@[simp] theorem callM_eq (φ : Fn) (gd : List Nat) (ls : List Bool) (fs : M (List Rv)) (env : Env) : callM φ gd ls fs env = M.bind fs (fun rs => M.bind (prep ls rs) (callY φ gd)) env := rfl
@[simp] theorem callKM_eq (φ : Fn) (gd : List Nat) (ls : List Bool) (pm : List Nat) (fs ks : M (List Rv)) (env : Env) : callKM φ gd ls pm fs ks env = M.bind fs (fun rs => M.bind ks fun zs => M.bind (prep ls (rs ++ zs)) fun ys => callY φ gd (permL pm ys)) env := rfl
@[simp] theorem callLM_eq (Φ : Fn → Fn) (ls : List Bool) (fs : M (List Rv)) (js : List Nat) (mk : List (Option R) → Fn) (env : Env) : callLM Φ ls fs js mk env = M.bind fs (fun rs => M.bind (prep ls rs) fun ys env => match capt env js with | some wE => callY (Φ (mk wE)) [] ys env | none => .no) env := rfl
@[simp] theorem andV_eq (f g : M Rv) (env : Env) : andV f g env = M.bind f (fun x => M.bind (truM x) fun t => cond t g (M.ret x)) env := rfl
@[simp] theorem orV_eq (f g : M Rv) (env : Env) : orV f g env = M.bind f (fun x => M.bind (truM x) fun t => cond t (M.ret x) g) env := rfl
@[simp] theorem notV_eq (f : M Rv) (env : Env) : notV f env = M.bind (vT f) (fun t => vC (.bool (!t))) env := rfl
@[simp] theorem ifV_eq (t : M Bool) (f g : M Rv) (env : Env) : ifV t f g env = M.bind t (fun t => cond t f g) env := rfl
@[simp] theorem andT_eq (f g : M Bool) (env : Env) : andT f g env = M.bind f (fun t => cond t g (M.ret false)) env := rfl
@[simp] theorem orT_eq (f g : M Bool) (env : Env) : orT f g env = M.bind f (fun t => cond t (M.ret true) g) env := rfl
@[simp] theorem notT_eq (f : M Bool) (env : Env) : notT f env = M.bind f (fun t => M.ret (!t)) env := rfl
@[simp] theorem vT_eq (f : M Rv) (env : Env) : vT f env = M.bind f truM env := rfl
@[simp] theorem vB_eq (f : M Rv) (env : Env) : vB f env = M.bind f bM env := rfl
@[simp] theorem asgS_eq (gd : List Nat) (i : Nat) (f : M Rv) (env : Env) : asgS gd i f env = M.bind f (fun r => M.bind (settle r) (storeM gd i)) env := rfl
@[simp] theorem parS_eq (gd is : List Nat) (fs : M (List Rv)) (env : Env) : parS gd is fs env = M.bind fs (fun rs => M.bind (settles rs) (storeAll gd is)) env := rfl
@[simp] theorem bmM_eq (T : String) (f : M Rv) (fs : M (List Rv)) (k : Rv → List Rv → M Rv) (env : Env) : bmM T f fs k env = M.bind f (fun r => M.bind (tyM T r) fun _ => M.bind fs fun rs => k r rs) env := rfl
@[simp] theorem sliceV_eq (f : M Rv) (l h : M (Option Int)) (env : Env) : sliceV f l h env = M.bind f (fun x => M.bind l fun lo => M.bind h fun hi => cutF x lo hi) env := rfl
@[simp] theorem tupV_eq (fs : M (List Rv)) (env : Env) : tupV fs env = M.bind fs (fun xs => M.bind (asDs xs) fun ds => if ds.length ≤ sizeLine then M.ret (.t ds) else M.no) env := rfl
@[simp] theorem lstV_eq (fs : M (List Rv)) (env : Env) : lstV fs env = M.bind fs (fun xs => M.bind (asDs xs) fun ds => if ds.length ≤ sizeLine then M.ret (.n (.l ds)) else M.no) env := rfl
end
end Ev
set_option maxHeartbeats 1000000
/-! Ev43: comprehensions and loops by what one turn does. -/
namespace Ev
open PySem PySem.Spec PyProof.Rows L2
@[reducible] def tbE : Tabl := ⟨[], [], fun _ => .non, [], fun _ => none⟩
local instance : Tabl := tbE
section
variable {α : Type} {env env0 env1 : Env} {vs : List Nat} {t : Tg} {c : M Bool} {f : M Rv} {m : M (List PyData)} {p : α → Bool} {g enc : α → PyData}
theorem wipe_at {env env' : Env} {vs : List Nat} (h : wipeE env' vs = wipeE env vs) {i : Nat} (hi : i ∉ vs) : env'[i]? = env[i]? := by
  rw [← wipeE_out (env := env') hi, h, wipeE_out hi]
theorem rest_wipe {env0 env1 : Env} {vs : List Nat} (h : wipeE env1 vs = wipeE env0 vs) : restE env0 env1 vs = env0 := by
  have hl : env1.length = env0.length := by
    have := congrArg List.length h
    rwa [wipeE_len, wipeE_len] at this
  refine List.ext_getElem? fun i => ?_
  by_cases hi : i ∈ vs
  · exact restE_in hl hi
  · rw [restE_out hi, wipe_at h hi]
theorem lcL_pure {n : Nat} {w0 : Env} : ∀ (xs : List α) (acc : List PyData) (env : Env), wipeE env vs = w0 →
    (∀ x ∈ xs, ∃ env1, asgT (outer n vs) t (enc x) w0 = some env1 ∧ c env1 = .ok (p x) env1 ∧ (p x = true → M.bind f asD env1 = .ok (g x) env1) ∧ wipeE env1 vs = w0) →
    acc.length + xs.length ≤ sizeLine →
    ∃ env', lcL n vs t c f (xs.map enc) acc env = .ok (acc ++ (xs.filter p).map g) env' ∧ wipeE env' vs = w0
  | [], acc, env, hw, _, _ => ⟨env, by simp [lcL], hw⟩
  | x :: xs, acc, env, hw, h, hz => by
    obtain ⟨env1, h1, h2, h3, h4⟩ := h x List.mem_cons_self
    rw [List.length_cons] at hz
    rw [← hw] at h1
    cases hp : p x with
    | true =>
      rw [hp] at h2
      obtain ⟨env', e, e2⟩ := lcL_pure xs (acc ++ [g x]) env1 h4 (fun y hy => h y (List.mem_cons_of_mem _ hy)) (by simp; omega)
      refine ⟨env', ?_, e2⟩
      rw [List.map_cons, lcL_add h1 h2 (h3 hp) (by omega), e]
      simp [hp]
    | false =>
      rw [hp] at h2
      obtain ⟨env', e, e2⟩ := lcL_pure xs acc env1 h4 (fun y hy => h y (List.mem_cons_of_mem _ hy)) (by omega)
      refine ⟨env', ?_, e2⟩
      rw [List.map_cons, lcL_not h1 h2, e]
      simp [hp]
/-- a comprehension over things told by enc -/
theorem lcM_pure {xs : List α} (h : m env = .ok (xs.map enc) env0) (hc : clean vs env0 = true)
    (H : ∀ x ∈ xs, ∃ env1, asgT (outer env0.length vs) t (enc x) (wipeE env0 vs) = some env1 ∧ c env1 = .ok (p x) env1 ∧ (p x = true → M.bind f asD env1 = .ok (g x) env1) ∧ wipeE env1 vs = wipeE env0 vs)
    (hz : xs.length ≤ sizeLine) : lcM m vs t c f env = .ok (.n (.l ((xs.filter p).map g))) env0 := by
  obtain ⟨env', e, e2⟩ := lcL_pure (n := env0.length) xs [] env0 rfl H (by simpa using hz)
  rw [lcM_ok h hc (by simpa using e), rest_wipe e2]
/-- .. without a test -/
theorem lcM_all {xs : List α} (h : m env = .ok (xs.map enc) env0) (hc : clean vs env0 = true)
    (H : ∀ x ∈ xs, ∃ env1, asgT (outer env0.length vs) t (enc x) (wipeE env0 vs) = some env1 ∧ c env1 = .ok true env1 ∧ M.bind f asD env1 = .ok (g x) env1 ∧ wipeE env1 vs = wipeE env0 vs)
    (hz : xs.length ≤ sizeLine) : lcM m vs t c f env = .ok (.n (.l (xs.map g))) env0 := by
  have := lcM_pure (p := fun _ => true) h hc (fun x hx => by
    obtain ⟨e1, h1, h2, h3, h4⟩ := H x hx
    exact ⟨e1, h1, h2, fun _ => h3, h4⟩) hz
  rw [this, List.filter_eq_self.mpr fun _ _ => rfl]
end
section
variable {α σ : Type} {gd : List Nat} {t : Tg} {f : M Fl} {c : M Bool} {enc : α → PyData}
/-- a for by what stays so: Inv s env says that the frame holds s -/
theorem forL_inv (Inv : σ → Env → Prop) (step : σ → α → σ) : ∀ (xs : List α), (∀ x ∈ xs, ∀ s env, Inv s env → ∃ env1 env2, asgT gd t (enc x) env = some env1 ∧ f env1 = .ok .nx env2 ∧ Inv (step s x) env2) →
    ∀ s env, Inv s env → ∃ env', forL gd t f (xs.map enc) env = .ok .nx env' ∧ Inv (xs.foldl step s) env'
  | [], _, s, env, hI => ⟨env, rfl, hI⟩
  | x :: xs, h, s, env, hI => by
    obtain ⟨env1, env2, h1, h2, h3⟩ := h x List.mem_cons_self s env hI
    obtain ⟨env', e1, e2⟩ := forL_inv Inv step xs (fun y hy => h y (List.mem_cons_of_mem _ hy)) _ _ h3
    exact ⟨env', by rw [List.map_cons, forL_nx h1 h2]; exact e1, e2⟩
/-- a for over a list by places: Inv i env holds ahead of the item i -/
theorem forL_ix (Inv : Nat → Env → Prop) (ds : List PyData) (h : ∀ i d, ds[i]? = some d → ∀ env, Inv i env → ∃ env1 env2, asgT gd t d env = some env1 ∧ f env1 = .ok .nx env2 ∧ Inv (i + 1) env2) :
    ∀ (rest : List PyData) (i : Nat), ds.drop i = rest → ∀ env, Inv i env → ∃ env', forL gd t f rest env = .ok .nx env' ∧ Inv (i + rest.length) env'
  | [], i, _, env, hI => ⟨env, rfl, hI⟩
  | d :: rest, i, hd, env, hI => by
    have hi : i < ds.length := by
      by_cases z : i < ds.length
      · exact z
      · rw [List.drop_eq_nil_of_le (by omega)] at hd; cases hd
    rw [List.drop_eq_getElem_cons hi] at hd
    have hg : ds[i]? = some d := by
      rw [List.getElem?_eq_getElem hi]
      exact congrArg some (List.cons.inj hd).1
    obtain ⟨env1, env2, h1, h2, h3⟩ := h i d hg env hI
    obtain ⟨env', e1, e2⟩ := forL_ix Inv ds h rest (i + 1) (List.cons.inj hd).2 env2 h3
    refine ⟨env', by rw [forL_nx h1 h2]; exact e1, ?_⟩
    rw [List.length_cons]
    have e : i + (rest.length + 1) = i + 1 + rest.length := by omega
    rw [e]; exact e2
theorem whileQ (env : Env) : whileW c f env = whileB c f (whileW c f) env := whileW_eq env
/-- a while by a measure -/
theorem whileW_ind {Inv : Nat → Env → Prop} {Q : Env → Prop} (h : ∀ k env, Inv k env → (∃ env', c env = .ok false env' ∧ Q env') ∨ ∃ env1 env2 k', c env = .ok true env1 ∧ f env1 = .ok .nx env2 ∧ k' < k ∧ Inv k' env2) :
    ∀ k env, Inv k env → ∃ env', whileW c f env = .ok .nx env' ∧ Q env' := by
  intro k
  induction k using Nat.strongRecOn with
  | _ k ih =>
    intro env hI
    rw [whileW_eq]
    unfold whileB M.bind
    rcases h k env hI with ⟨env', h1, h2⟩ | ⟨env1, env2, k', h1, h2, h3, h4⟩
    · exact ⟨env', by rw [h1]; rfl, h2⟩
    · obtain ⟨env', e1, e2⟩ := ih k' h3 env2 h4
      refine ⟨env', ?_, e2⟩
      rw [h1]
      simp only [cond, h2]
      exact e1
end
end Ev
set_option maxHeartbeats 1000000
/-! Ev44: sorted lists. -/
namespace Ev
open PySem PySem.Spec PyProof.Rows L2
section
/-- two lists in strict order with the same members are one -/
theorem pw_unique {α : Type} {lt : α → α → Prop} (irr : ∀ a, ¬ lt a a) (tr : ∀ a b c, lt a b → lt b c → lt a c) : ∀ {l m : List α}, l.Pairwise lt → m.Pairwise lt → (∀ k, k ∈ l ↔ k ∈ m) → l = m
  | [], [], _, _, _ => rfl
  | [], b :: m, _, _, h => absurd ((h b).mpr List.mem_cons_self) (by simp)
  | a :: l, [], _, _, h => absurd ((h a).mp List.mem_cons_self) (by simp)
  | a :: l, b :: m, h1, h2, h => by
    obtain ⟨a1, a2⟩ := List.pairwise_cons.mp h1
    obtain ⟨b1, b2⟩ := List.pairwise_cons.mp h2
    have e : a = b := by
      rcases List.mem_cons.mp ((h a).mp List.mem_cons_self) with e | e
      · exact e
      · rcases List.mem_cons.mp ((h b).mpr List.mem_cons_self) with e' | e'
        · exact e'.symm
        · exact absurd (tr _ _ _ (a1 b e') (b1 a e)) (irr a)
    subst e
    refine congrArg (a :: ·) (pw_unique irr tr a2 b2 fun k => ?_)
    constructor
    · intro hk
      rcases List.mem_cons.mp ((h k).mp (List.mem_cons_of_mem _ hk)) with e | e
      · subst e; exact absurd (a1 k hk) (irr k)
      · exact e
    · intro hk
      rcases List.mem_cons.mp ((h k).mpr (List.mem_cons_of_mem _ hk)) with e | e
      · subst e; exact absurd (b1 k hk) (irr k)
      · exact e
theorem pw_nodup {α : Type} {lt : α → α → Prop} (irr : ∀ a, ¬ lt a a) {l : List α} (h : l.Pairwise lt) : l.Nodup := h.imp fun {a b} h e => by subst e; exact irr a h
theorem nodup_len {α : Type} [DecidableEq α] : ∀ {l m : List α}, l.Nodup → (∀ k, k ∈ l → k ∈ m) → l.length ≤ m.length
  | [], m, _, _ => Nat.zero_le _
  | a :: l, m, nd, h => by
    rw [List.nodup_cons] at nd
    have ha : a ∈ m := h a (by simp)
    have := nodup_len (l := l) (m := m.erase a) nd.2 fun k hk => (List.mem_erase_of_ne (fun e => nd.1 (by rw [← e]; exact hk))).mpr (h k (List.mem_cons_of_mem _ hk))
    rw [List.length_erase_of_mem ha] at this
    have := List.length_pos_of_mem ha
    rw [List.length_cons]
    omega
/-- sorting told things -/
theorem sortD_map {α : Type} {enc : α → PyData} {lt : α → α → Bool} {l : List α} (h : ∀ a ∈ l, ∀ b ∈ l, PySem.W.dataLt (enc a) (enc b) = lt a b) : sortD (l.map enc) = (l.mergeSort fun a b => !lt b a).map enc := by
  unfold sortD
  rw [List.map_mergeSort]
  intro a ha b hb
  show _ = (!PySem.W.dataLt (enc b) (enc a))
  rw [h b hb a ha]
/-- a sorted list of unlike things is in strict order -/
theorem ms_pw {α : Type} {lt : α → α → Bool} (as : ∀ a b, lt a b = true → lt b a = false) (tr : ∀ a b c, lt a b = true → lt b c = true → lt a c = true) (tot : ∀ a b, lt a b = true ∨ a = b ∨ lt b a = true) {l : List α} (hn : l.Nodup) :
    (l.mergeSort fun a b => !lt b a).Pairwise fun a b => lt a b = true := by
  have h1 := List.pairwise_mergeSort (le := fun a b => !lt b a) (fun a b c h1 h2 => by
    simp only [Bool.not_eq_true', Bool.not_eq_eq_eq_not, Bool.not_true] at h1 h2 ⊢
    rcases tot a b with h | h | h
    · cases hz : lt c a with
      | false => rfl
      | true => rw [tr c a b hz h] at h2; cases h2
    · rw [h]; exact h2
    · rw [h] at h1; cases h1) (fun a b => by
    cases h : lt b a with
    | false => rfl
    | true => rw [as b a h]; rfl) l
  have h2 : (l.mergeSort fun a b => !lt b a).Nodup := (List.mergeSort_perm l _).nodup_iff.mpr hn
  refine (List.pairwise_and_iff.mpr ⟨h1, h2⟩).imp fun {a b} ⟨q1, q2⟩ => ?_
  rcases tot a b with h | h | h
  · exact h
  · exact absurd h q2
  · rw [h] at q1; cases q1
theorem mem_ms {α : Type} {le : α → α → Bool} {l : List α} {a : α} : a ∈ l.mergeSort le ↔ a ∈ l := (List.mergeSort_perm l le).mem_iff
theorem ints_lt (a b : Int) : PySem.W.dataLt (.int a) (.int b) = decide (a < b) := lt_int a b
/-- sorted unlike ints -/
theorem sortD_ints {ns : List Int} (hn : ns.Nodup) : sortD (ns.map .int) = (ascSet ns).map .int := by
  rw [sortD_map (lt := fun a b => decide (a < b)) fun a _ b _ => lt_int a b]
  congr 1
  refine pw_unique (lt := fun a b : Int => a < b) (fun a h => by omega) (fun a b c h1 h2 => by omega) ?_ ?_ fun k => ?_
  · refine (ms_pw (lt := fun a b : Int => decide (a < b)) (fun a b h => ?_) (fun a b c h1 h2 => ?_) (fun a b => ?_) hn).imp fun {a b} h => of_decide_eq_true h
    · simp at h ⊢; omega
    · simp at h1 h2 ⊢; omega
    · simp; omega
  · exact @asc_ascSet tbE ns
  · rw [mem_ms, @mem_ascSet tbE]
theorem sortOk_ints (ns : List Int) : sortOk (ns.map .int) = true := by
  unfold sortOk alikeOk
  simp [plainItem, PyData.depth, PySem.W.alike]
end
end Ev
set_option maxHeartbeats 1000000
/-! Ev45: repr of data of numbers, truths, None. -/
namespace Ev
open PySem PySem.Spec PyProof.Rows L2
mutual
def numD : PyData → Bool
  | .none => true
  | .bool _ => true
  | .int i => decide (i.natAbs < 10 ^ 12)
  | .str _ => false
  | .list xs => numDs xs
  | .tuple xs => numDs xs
  | .dict _ => false
def numDs : List PyData → Bool
  | [] => true
  | x :: xs => numD x && numDs xs
end
theorem strOk_app {x y : Str} (h1 : PyData.strOk x = true) (h2 : PyData.strOk y = true) : PyData.strOk (x ++ y) = true := by
  unfold PyData.strOk at *
  show (x.cps ++ y.cps).all _ = true
  rw [Array.all_append, h1, h2]; rfl
theorem strOk_of (s : String) : PyData.strOk (Str.ofString s) = true := by
  rw [Str.ofString_eq_toList]
  unfold PyData.strOk
  simp only [List.all_toArray, List.all_eq_true, List.mem_map, decide_eq_true_eq]
  rintro c ⟨ch, _, rfl⟩
  have := ch.valid
  have h : ch.toNat = ch.val.toNat := rfl
  rw [h]
  rcases this with h | ⟨_, h⟩
  · have : ch.val.toNat < 0xD800 := h
    omega
  · exact h
theorem strOk_from : ∀ (ts : List Str) (k : Nat) (acc : Str), PyData.strOk acc = true → (∀ t ∈ ts, PyData.strOk t = true) → PyData.strOk (textFrom k acc ts) = true
  | [], k, acc, h, _ => h
  | t :: ts, k, acc, h, ht => by
    unfold textFrom
    refine strOk_from ts _ _ (strOk_app (strOk_app h ?_) (ht t (by simp))) fun t' h' => ht t' (List.mem_cons_of_mem _ h')
    exact strOk_of _
theorem strOk_join {sep : Str} (hs : PyData.strOk sep = true) : ∀ ts : List Str, (∀ t ∈ ts, PyData.strOk t = true) → PyData.strOk (Str.join sep ts) = true
  | [], _ => show PyData.strOk Str.empty = true by decide +kernel
  | [x], h => h x (by simp)
  | x :: y :: r, h => by
    show PyData.strOk (x ++ sep ++ Str.join sep (y :: r)) = true
    exact strOk_app (strOk_app (h x (by simp)) hs) (strOk_join hs (y :: r) fun t ht => h t (List.mem_cons_of_mem _ ht))
mutual
theorem num_show : ∀ d : PyData, numD d = true → PyData.strOk d.shown = true
  | .none, _ => by decide +kernel
  | .bool b, _ => by cases b <;> decide +kernel
  | .int i, _ => strOk_of _
  | .str _, h => by cases h
  | .list xs, h => by
    rw [PyData.shown]
    unfold listText
    exact strOk_app (strOk_from _ _ _ (by decide +kernel) (num_shows xs h)) (by decide +kernel)
  | .tuple xs, h => by
    rw [PyData.shown]
    unfold tupleText
    exact strOk_app (strOk_app (by decide +kernel) (strOk_join (by decide +kernel) _ (num_shows xs h))) (strOk_of _)
  | .dict _, h => by cases h
theorem num_shows : ∀ xs : List PyData, numDs xs = true → ∀ t ∈ PyData.shownAll xs, PyData.strOk t = true
  | [], _, t, h => by cases h
  | x :: xs, h, t, ht => by
    simp only [numDs, Bool.and_eq_true] at h
    rw [PyData.shownAll] at ht
    rcases List.mem_cons.mp ht with rfl | ht
    · exact num_show x h.1
    · exact num_shows xs h.2 t ht
end
mutual
theorem num_lay : ∀ d : PyData, numD d = true → PyData.canLay0 d = true ∧ d.intsShort 13 = true ∧ d.showable = true
  | .none, _ => by decide +kernel
  | .bool b, _ => by cases b <;> decide +kernel
  | .int i, h => by
    have h : i.natAbs < 10 ^ 12 := by simpa [numD] using h
    refine ⟨rfl, ?_, ?_⟩
    · simp only [PyData.intsShort, decide_eq_true_eq]
      exact PyData.shown_int_le h
    · simp only [PyData.showable, decide_eq_true_eq]
      by_cases h0 : i.natAbs = 0
      · rw [h0]; decide
      · have : i.natAbs.log2 < 40 := by
          rw [Nat.log2_lt h0]
          have : (10 ^ 12 : Nat) < 2 ^ 40 := by decide
          omega
        omega
  | .str _, h => by cases h
  | .list xs, h => by
    have := num_lays xs h
    simpa [PyData.canLay0, PyData.intsShort, PyData.showable] using this
  | .tuple xs, h => by
    have := num_lays xs h
    simpa [PyData.canLay0, PyData.intsShort, PyData.showable] using this
  | .dict _, h => by cases h
theorem num_lays : ∀ xs : List PyData, numDs xs = true → PyData.canLayAll0 xs = true ∧ PyData.intsShortAll 13 xs = true ∧ PyData.showableAll xs = true
  | [], _ => by decide +kernel
  | x :: xs, h => by
    simp only [numDs, Bool.and_eq_true] at h
    have h1 := num_lay x h.1
    have h2 := num_lays xs h.2
    simp only [PyData.canLayAll0, PyData.intsShortAll, PyData.showableAll, Bool.and_eq_true]
    exact ⟨⟨h1.1, h2.1⟩, ⟨h1.2.1, h2.2.1⟩, h1.2.2, h2.2.2⟩
end
/-- repr of a list or a tuple of numbers -/
theorem repr_num {d : PyData} (h : numD d = true) (hw : d.weight ≤ 2 ^ 20) (hd : d.depth ≤ 60) (ht : (∃ xs, d = .list xs) ∨ ∃ xs, d = .tuple xs) : reprOk d = true ∧ PyData.strOk d.shown = true := by
  obtain ⟨h1, h2, h3⟩ := num_lay d h
  have h4 := PyData.shown_fits (by decide) (by decide) (PyData.leavesShort_of_canLay0 13 d h1 h2) hw
  refine ⟨?_, num_show d h⟩
  unfold reprOk
  rw [h3, decide_eq_true hd, decide_eq_true h4]
  rcases ht with ⟨xs, rfl⟩ | ⟨xs, rfl⟩ <;> rfl
theorem sh_str {x : Str} (h : PyData.strOk x = true) : SeqAt.shaped (.str x) = true := by
  simp [SeqAt.shaped, PyData.canLay0, PyData.depth, h]
/-- two reprs that are one -/
theorem ne_str {x : Str} (h : PyData.strOk x = true) : neR (.d (.str x)) (.d (.str x)) = some (.bool false) := by
  have := sh_str h
  unfold neR
  simp only [dat, this, and_self, if_true]
  simp [PyData.eqv]
end Ev
set_option maxHeartbeats 200000
/-! W1: ways in time, in plain mathematics: what can be reached, and simple ways that reach it. -/
namespace Way
/-- a meeting: its time, its two places -/
abbrev Mt := Int × Int × Int
/-- after time l, is time t late enough -/
def late (loose : Bool) (l t : Int) : Prop := l < t ∨ (t = l ∧ loose = true)
theorem late.le {loose : Bool} {l t : Int} (h : late loose l t) : l ≤ t := by
  rcases h with h | ⟨h, _⟩ <;> omega
theorem late.lower {loose : Bool} {l l' t : Int} (h : late loose l t) (hl : l' ≤ l) : late loose l' t := by
  rcases h with h | ⟨h, hb⟩
  · exact .inl (by omega)
  · by_cases e : l' = l
    · exact .inr ⟨by omega, hb⟩
    · exact .inl (by omega)
/-- place p is reached at time l -/
inductive Rch (ms : List Mt) (loose : Bool) (s : Int) : Int → Int → Prop
  | base : Rch ms loose s s 0
  | step {p l t a b : Int} : Rch ms loose s p l → (t, a, b) ∈ ms → late loose l t → (p = a ∨ p = b) → Rch ms loose s (a + b - p) t
/-- a simple way: the meetings' indexes, the places, the last time -/
inductive SW (ms : List Mt) (loose : Bool) (s : Int) : List Nat → List Int → Int → Prop
  | base : SW ms loose s [] [s] 0
  | step {w : List Nat} {pls : List Int} {l p t a b : Int} {k : Nat} : SW ms loose s w pls l → ms[k]? = some (t, a, b) → late loose l t → pls.getLast? = some p → (p = a ∨ p = b) → a + b - p ∉ pls →
      SW ms loose s (w ++ [k]) (pls ++ [a + b - p]) t
section
variable {ms : List Mt} {loose : Bool} {s : Int}
theorem SW.ne {w : List Nat} {pls : List Int} {l : Int} (h : SW ms loose s w pls l) : pls ≠ [] := by
  cases h <;> simp
theorem SW.sound {w : List Nat} {pls : List Int} {l p : Int} (h : SW ms loose s w pls l) (hp : pls.getLast? = some p) : Rch ms loose s p l := by
  induction h generalizing p with
  | base => simp at hp; subst hp; exact .base
  | step h hk hl hq hab hf ih =>
    rw [List.getLast?_append] at hp
    simp at hp
    subst hp
    exact .step (ih hq) (List.mem_of_getElem? hk) hl hab
/-- to each place of a simple way leads a simple way -/
theorem SW.prefix {w : List Nat} {pls : List Int} {l q : Int} (h : SW ms loose s w pls l) (hq : q ∈ pls) : ∃ w' pls' l', SW ms loose s w' pls' l' ∧ pls'.getLast? = some q ∧ l' ≤ l := by
  induction h with
  | base =>
    simp at hq; subst hq
    exact ⟨_, _, _, .base, by simp, Int.le_refl _⟩
  | @step w pls l p t a b k h hk hl hp hab hf ih =>
    rcases List.mem_append.mp hq with hq | hq
    · obtain ⟨w', pls', l', h1, h2, h3⟩ := ih hq
      exact ⟨w', pls', l', h1, h2, Int.le_trans h3 hl.le⟩
    · simp at hq; subst hq
      exact ⟨_, _, _, .step h hk hl hp hab hf, by simp, Int.le_refl _⟩
theorem Rch.simple {p l : Int} (h : Rch ms loose s p l) : ∃ w pls l', SW ms loose s w pls l' ∧ pls.getLast? = some p ∧ l' ≤ l := by
  induction h with
  | base => exact ⟨_, _, _, .base, by simp, Int.le_refl _⟩
  | @step p l t a b h hm hl hab ih =>
    obtain ⟨w, pls, l', h1, h2, h3⟩ := ih
    by_cases hf : a + b - p ∈ pls
    · obtain ⟨w2, pls2, l2, q1, q2, q3⟩ := h1.prefix hf
      exact ⟨w2, pls2, l2, q1, q2, by have := hl.le; omega⟩
    · obtain ⟨k, hk⟩ := List.getElem?_of_mem hm
      exact ⟨_, _, _, .step h1 hk (hl.lower h3) h2 hab hf, by simp, Int.le_refl _⟩
/-- both ends of a used meeting are among the places -/
theorem SW.ends {w : List Nat} {pls : List Int} {l : Int} (h : SW ms loose s w pls l) : ∀ k ∈ w, ∀ t a b, ms[k]? = some (t, a, b) → a ∈ pls ∧ b ∈ pls := by
  induction h with
  | base => intro k hk; simp at hk
  | @step w pls l p t a b k h hk hl hp hab hf ih =>
    intro j hj t' a' b' hm
    rcases List.mem_append.mp hj with hj | hj
    · obtain ⟨h1, h2⟩ := ih j hj _ _ _ hm
      exact ⟨List.mem_append_left _ h1, List.mem_append_left _ h2⟩
    · simp at hj; subst hj
      rw [hk] at hm
      cases hm
      have hpm : p ∈ pls := List.mem_of_getLast? hp
      rcases hab with e | e
      · subst e
        exact ⟨List.mem_append_left _ hpm, List.mem_append_right _ (by simp; omega)⟩
      · subst e
        exact ⟨List.mem_append_right _ (by simp), List.mem_append_left _ hpm⟩
theorem SW.nodup {w : List Nat} {pls : List Int} {l : Int} (h : SW ms loose s w pls l) : w.Nodup ∧ pls.Nodup ∧ (∀ k ∈ w, k < ms.length) ∧ pls.length = w.length + 1 := by
  induction h with
  | base => simp
  | @step w pls l p t a b k h hk hl hp hab hf ih =>
    obtain ⟨h1, h2, h3, h4⟩ := ih
    refine ⟨?_, ?_, ?_, by simp [h4]⟩
    · rw [List.nodup_append]
      refine ⟨h1, by simp, fun x hx y hy e => ?_⟩
      simp at hy; subst hy; subst e
      have q := h.ends x hx _ _ _ hk
      rcases hab with e | e
      · exact hf (by rw [e]; have : a + b - a = b := by omega
                     rw [this]; exact q.2)
      · exact hf (by rw [e]; have : a + b - b = a := by omega
                     rw [this]; exact q.1)
    · rw [List.nodup_append]
      refine ⟨h2, by simp, fun x hx y hy e => ?_⟩
      simp at hy; subst hy; subst e
      exact hf hx
    · intro j hj
      rcases List.mem_append.mp hj with hj | hj
      · exact h3 j hj
      · simp at hj; subst hj
        exact (List.getElem?_eq_some_iff.mp hk).1
/-- all places lie in a set that the meetings do not leave -/
theorem SW.inside {w : List Nat} {pls : List Int} {l : Int} {B : Int → Prop} (hs : B s) (hm : ∀ t a b, (t, a, b) ∈ ms → B a ∧ B b) (h : SW ms loose s w pls l) : ∀ p ∈ pls, B p := by
  induction h with
  | base => intro p hp; simp at hp; subst hp; exact hs
  | @step w pls l p t a b k h hk hl hp hab hf ih =>
    intro q hq
    rcases List.mem_append.mp hq with hq | hq
    · exact ih q hq
    · simp at hq
      obtain ⟨h1, h2⟩ := hm _ _ _ (List.mem_of_getElem? hk)
      rcases hab with e | e
      · have : q = b := by omega
        rw [this]; exact h2
      · have : q = a := by omega
        rw [this]; exact h1
end
end Way
set_option maxHeartbeats 200000
/-! W2: simple ways with a patience; the search that finds them all. -/
namespace Way
inductive SWp (ms : List Mt) (loose : Bool) (pt s : Int) : List Nat → List Int → Int → Prop
  | base : SWp ms loose pt s [] [s] 0
  | step {w : List Nat} {pls : List Int} {l p t a b : Int} {k : Nat} : SWp ms loose pt s w pls l → ms[k]? = some (t, a, b) → late loose l t → (w = [] ∨ t - l ≤ pt) → pls.getLast? = some p → (p = a ∨ p = b) → a + b - p ∉ pls →
      SWp ms loose pt s (w ++ [k]) (pls ++ [a + b - p]) t
section
variable {ms : List Mt} {loose : Bool} {s pt : Int}
theorem SWp.sw {w : List Nat} {pls : List Int} {l : Int} (h : SWp ms loose pt s w pls l) : SW ms loose s w pls l := by
  induction h with
  | base => exact .base
  | step _ h1 h2 _ h3 h4 h5 ih => exact .step ih h1 h2 h3 h4 h5
theorem SW.swp (ht : ∀ m ∈ ms, 1 ≤ m.1 ∧ m.1 ≤ 20) (hpt : 19 ≤ pt) {w : List Nat} {pls : List Int} {l : Int} (h : SW ms loose s w pls l) : SWp ms loose pt s w pls l ∧ (w = [] ∨ 1 ≤ l) := by
  induction h with
  | base => exact ⟨.base, .inl rfl⟩
  | step _ h1 h2 h3 h4 h5 ih =>
    have := ht _ (List.mem_of_getElem? h1)
    simp only at this
    refine ⟨.step ih.1 h1 h2 ?_ h3 h4 h5, .inr this.1⟩
    rcases ih.2 with e | e
    · exact .inl e
    · exact .inr (by omega)
theorem SWp.inv {w : List Nat} {k : Nat} {pls : List Int} {l : Int} (h : SWp ms loose pt s (w ++ [k]) pls l) :
    ∃ pls0 l0 q t a b, SWp ms loose pt s w pls0 l0 ∧ ms[k]? = some (t, a, b) ∧ late loose l0 t ∧ (w = [] ∨ t - l0 ≤ pt) ∧ pls0.getLast? = some q ∧ (q = a ∨ q = b) ∧ a + b - q ∉ pls0 ∧ pls = pls0 ++ [a + b - q] ∧ l = t := by
  generalize hw : w ++ [k] = w' at h
  cases h with
  | base => simp at hw
  | step h h1 h2 h3 h4 h5 h6 =>
    obtain ⟨rfl, e⟩ := List.append_inj' hw rfl
    cases e
    exact ⟨_, _, _, _, _, _, h, h1, h2, h3, h4, h5, h6, rfl, rfl⟩
theorem SWp.nil {pls : List Int} {l : Int} (h : SWp ms loose pt s [] pls l) : pls = [s] ∧ l = 0 := by
  generalize hw : ([] : List Nat) = w' at h
  cases h with
  | base => exact ⟨rfl, rfl⟩
  | step => simp at hw
theorem SWp.det {w : List Nat} {pls : List Int} {l : Int} (h : SWp ms loose pt s w pls l) : ∀ {pls' : List Int} {l' : Int}, SWp ms loose pt s w pls' l' → pls = pls' ∧ l = l' := by
  induction h with
  | base => intro pls' l' h'; obtain ⟨rfl, rfl⟩ := h'.nil; exact ⟨rfl, rfl⟩
  | step h h1 h2 h3 h4 h5 h6 ih =>
    intro pls' l' h'
    obtain ⟨p0, l0, q, t, a, b, g, g1, g2, g3, g4, g5, g6, rfl, rfl⟩ := h'.inv
    obtain ⟨rfl, rfl⟩ := ih g
    rw [h1] at g1
    rw [h4] at g4
    cases g1; cases g4
    exact ⟨rfl, rfl⟩
theorem SWp.pre {w1 : List Nat} : ∀ {w : List Nat} {pls : List Int} {l : Int}, SWp ms loose pt s w pls l → ∀ {w2 : List Nat}, w = w1 ++ w2 → ∃ pls1 l1, SWp ms loose pt s w1 pls1 l1 := by
  intro w pls l h
  induction h with
  | base =>
    intro w2 e
    have : w1 = [] := by
      cases w1 with
      | nil => rfl
      | cons a b => simp at e
    subst this
    exact ⟨_, _, .base⟩
  | @step w pls l p t a b k h h1 h2 h3 h4 h5 h6 ih =>
    intro w2 e
    rcases List.eq_nil_or_concat w2 with rfl | ⟨v, x, rfl⟩
    · rw [List.append_nil] at e
      subst e
      exact ⟨_, _, .step h h1 h2 h3 h4 h5 h6⟩
    · have e : w ++ [k] = (w1 ++ v) ++ [x] := by rw [e]; simp [List.concat_eq_append]
      obtain ⟨rfl, _⟩ := List.append_inj' e rfl
      exact ih rfl
/-! ### the search -/
abbrev Ent := List Nat × List Int
def lateB (loose : Bool) (l t : Int) : Bool := decide (l < t) || (decide (t = l) && loose)
theorem lateB_iff {l t : Int} : lateB loose l t = true ↔ late loose l t := by
  unfold lateB late
  simp
def okB (loose : Bool) (pt : Int) (w : List Nat) (pls : List Int) (q l : Int) (m : Mt) : Bool :=
  (decide (q = m.2.1) || decide (q = m.2.2)) && lateB loose l m.1 && (w.isEmpty || decide (m.1 - l ≤ pt)) && !decide (m.2.1 + m.2.2 - q ∈ pls)
theorem okB_iff {w : List Nat} {pls : List Int} {q l : Int} {m : Mt} : okB loose pt w pls q l m = true ↔ (q = m.2.1 ∨ q = m.2.2) ∧ late loose l m.1 ∧ (w = [] ∨ m.1 - l ≤ pt) ∧ m.2.1 + m.2.2 - q ∉ pls := by
  unfold okB
  rw [Bool.and_eq_true, Bool.and_eq_true, Bool.and_eq_true, lateB_iff]
  simp only [Bool.or_eq_true, decide_eq_true_eq, List.isEmpty_iff, Bool.not_eq_true', decide_eq_false_iff_not]
  constructor
  · rintro ⟨⟨⟨h1, h2⟩, h3⟩, h4⟩; exact ⟨h1, h2, h3, h4⟩
  · rintro ⟨h1, h2, h3, h4⟩; exact ⟨⟨⟨h1, h2⟩, h3⟩, h4⟩
/-- the child by meeting k -/
def chK (ms : List Mt) (loose : Bool) (pt : Int) (w : List Nat) (pls : List Int) (q l : Int) (k : Nat) : Option Ent := match ms[k]? with
  | some m => if okB loose pt w pls q l m = true then some (w ++ [k], pls ++ [m.2.1 + m.2.2 - q]) else none
  | none => none
def chd (ms : List Mt) (loose : Bool) (pt : Int) (w : List Nat) (pls : List Int) (q l : Int) : List Ent := (List.range ms.length).filterMap (chK ms loose pt w pls q l)
theorem chK_ok {w : List Nat} {pls : List Int} {q l : Int} {k : Nat} {e : Ent} (h : SWp ms loose pt s w pls l) (hq : pls.getLast? = some q) (he : chK ms loose pt w pls q l k = some e) : e.1 = w ++ [k] ∧ ∃ l', SWp ms loose pt s e.1 e.2 l' := by
  unfold chK at he
  split at he
  · rename_i m hm
    split at he
    · rename_i ho
      cases he
      obtain ⟨o1, o2, o3, o4⟩ := okB_iff.mp ho
      obtain ⟨t, a, b⟩ := m
      exact ⟨rfl, t, .step h hm o2 o3 hq o1 o4⟩
    · cases he
  · cases he
theorem mem_chd {w : List Nat} {pls : List Int} {q l : Int} {e : Ent} (h : SWp ms loose pt s w pls l) (hq : pls.getLast? = some q) (he : e ∈ chd ms loose pt w pls q l) : ∃ k, k < ms.length ∧ e.1 = w ++ [k] ∧ ∃ l', SWp ms loose pt s e.1 e.2 l' := by
  obtain ⟨k, h1, h2⟩ := List.mem_filterMap.mp he
  obtain ⟨h3, h4⟩ := chK_ok h hq h2
  exact ⟨k, List.mem_range.mp h1, h3, h4⟩
theorem chd_has {w : List Nat} {pls pls' : List Int} {q l l' : Int} {k : Nat} (h : SWp ms loose pt s w pls l) (hq : pls.getLast? = some q) (h' : SWp ms loose pt s (w ++ [k]) pls' l') : (w ++ [k], pls') ∈ chd ms loose pt w pls q l := by
  obtain ⟨p0, l0, q', t, a, b, g, g1, g2, g3, g4, g5, g6, rfl, rfl⟩ := h'.inv
  obtain ⟨rfl, rfl⟩ := h.det g
  rw [hq] at g4
  cases g4
  refine List.mem_filterMap.mpr ⟨k, List.mem_range.mpr (List.getElem?_eq_some_iff.mp g1).1, ?_⟩
  unfold chK
  rw [g1]
  simp only
  rw [if_pos (okB_iff.mpr ⟨g5, g2, g3, g6⟩)]
/-- children are few -/
theorem chd_le {w : List Nat} {pls : List Int} {q l : Int} {P : Int} (hm : ∀ m ∈ ms, (0 ≤ m.2.1 ∧ m.2.1 < P) ∧ 0 ≤ m.2.2 ∧ m.2.2 < P) (hs : 0 ≤ s ∧ s < P) (h : SWp ms loose pt s w pls l) (hq : pls.getLast? = some q) : (chd ms loose pt w pls q l).length + w.length ≤ ms.length := by
  -- the indexes of the children and of the way are unlike
  have hk : ∀ ks : List Nat, (ks.filterMap (chK ms loose pt w pls q l)).length = (ks.filter fun k => (chK ms loose pt w pls q l k).isSome).length := fun ks => by
    induction ks with
    | nil => rfl
    | cons k ks ih =>
      cases hc : chK ms loose pt w pls q l k with
      | none => rw [List.filterMap_cons_none hc, List.filter_cons_of_neg (by simp [hc])]; exact ih
      | some e => rw [List.filterMap_cons_some hc, List.filter_cons_of_pos (by simp [hc]), List.length_cons, List.length_cons, ih]
  unfold chd
  rw [hk]
  have hw := h.sw.nodup
  have nd : (((List.range ms.length).filter fun k => (chK ms loose pt w pls q l k).isSome) ++ w).Nodup := by
    rw [List.nodup_append]
    refine ⟨List.nodup_range.sublist List.filter_sublist, hw.1, fun a ha b hb e => ?_⟩
    subst e
    obtain ⟨_, h2⟩ := List.mem_filter.mp ha
    cases hc : chK ms loose pt w pls q l a with
    | none => rw [hc] at h2; cases h2
    | some e =>
      obtain ⟨h3, l', h4⟩ := chK_ok h hq hc
      have := h4.sw.nodup.1
      rw [h3, List.nodup_append] at this
      exact this.2.2 a hb a (by simp) rfl
  have sub : ∀ k, k ∈ ((List.range ms.length).filter fun k => (chK ms loose pt w pls q l k).isSome) ++ w → k ∈ List.range ms.length := fun k hk => by
    rcases List.mem_append.mp hk with hk | hk
    · exact (List.mem_filter.mp hk).1
    · exact List.mem_range.mpr (hw.2.2.1 k hk)
  have := nd.length_le_of_subset (l₂ := List.range ms.length) sub
  rw [List.length_append, List.length_range] at this
  exact this
/-- ways are short -/
theorem SWp.short {w : List Nat} {pls : List Int} {l : Int} {P : Int} (hm : ∀ m ∈ ms, (0 ≤ m.2.1 ∧ m.2.1 < P) ∧ 0 ≤ m.2.2 ∧ m.2.2 < P) (hs : 0 ≤ s ∧ s < P) (h : SWp ms loose pt s w pls l) : w.length + 1 ≤ P.toNat ∧ ∀ p ∈ pls, 0 ≤ p ∧ p < P := by
  have hi := h.sw.inside (B := fun p => 0 ≤ p ∧ p < P) hs fun t a b hh => hm _ hh
  have hn := h.sw.nodup
  refine ⟨?_, hi⟩
  have := hn.2.1.length_le_of_subset (l₂ := (List.range P.toNat).map Int.ofNat) fun p hp => by
    obtain ⟨h1, h2⟩ := hi p hp
    exact List.mem_map.mpr ⟨p.toNat, List.mem_range.mpr (by omega), by simp; omega⟩
  rw [List.length_map, List.length_range] at this
  omega
/-- how many ways there can be from one of so many meetings on -/
def Mz : Nat → Nat
  | 0 => 3610
  | 1 => 401
  | 2 => 50
  | 3 => 7
  | _ => 1
theorem Mz_pos (j : Nat) : 1 ≤ Mz j := by
  unfold Mz; split <;> omega
def lastP (e : Ent) : Int := e.2.getLastD 0
theorem lastP_of {e : Ent} {q : Int} (h : e.2.getLast? = some q) : lastP e = q := by
  unfold lastP
  rw [List.getLastD_eq_getLast?, h]; rfl
/-- the state of the search -/
structure Srch (ms : List Mt) (loose : Bool) (pt s : Int) (lot : List Int) (es : List Ent) : Prop where
  ways : ∀ e ∈ es, ∃ l, SWp ms loose pt s e.1 e.2 l
  had : ∀ e ∈ es, lastP e ∈ lot
  from_ : ∀ p ∈ lot, ∃ w pls l, SWp ms loose pt s w pls l ∧ pls.getLast? = some p
  all : ∀ w pls l, SWp ms loose pt s w pls l → (∃ p, pls.getLast? = some p ∧ p ∈ lot) ∨ ∃ e ∈ es, ∃ w2, w = e.1 ++ w2
  few : lot.length + (es.map fun e => Mz e.1.length - 1).sum ≤ 3610
theorem Srch.start : Srch ms loose pt s [s] [([], [s])] where
  ways := fun e he => by simp at he; subst he; exact ⟨0, .base⟩
  had := fun e he => by simp at he; subst he; simp [lastP]
  from_ := fun p hp => by simp at hp; subst hp; exact ⟨_, _, _, .base, by simp⟩
  all := fun w pls l h => .inr ⟨([], [s]), by simp, w, rfl⟩
  few := by simp [Mz]
theorem sum_map_add {α : Type} (f : α → Nat) (l m : List α) : ((l ++ m).map f).sum = (l.map f).sum + (m.map f).sum := by simp
theorem sum_const_le {α : Type} {f : α → Nat} {c : Nat} : ∀ {l : List α}, (∀ a ∈ l, f a = c) → (l.map f).sum = l.length * c
  | [], _ => by simp
  | a :: l, h => by
    rw [List.map_cons, List.sum_cons, h a (by simp), sum_const_le fun b hb => h b (List.mem_cons_of_mem _ hb), List.length_cons, Nat.add_mul, Nat.one_mul, Nat.add_comm]
theorem Srch.next {lot : List Int} {es : List Ent} {e : Ent} {q l : Int} {P : Int} (hm : ∀ m ∈ ms, (0 ≤ m.2.1 ∧ m.2.1 < P) ∧ 0 ≤ m.2.2 ∧ m.2.2 < P) (hs : 0 ≤ s ∧ s < P) (hP : P ≤ 5) (hn : ms.length ≤ 9)
    (S : Srch ms loose pt s lot (es ++ [e])) (he : SWp ms loose pt s e.1 e.2 l) (hq : e.2.getLast? = some q) :
    Srch ms loose pt s (lot ++ (chd ms loose pt e.1 e.2 q l).map lastP) (es ++ chd ms loose pt e.1 e.2 q l) ∧
      ((es ++ chd ms loose pt e.1 e.2 q l).map fun e => Mz e.1.length).sum < ((es ++ [e]).map fun e => Mz e.1.length).sum := by
  have hlen : ∀ c ∈ chd ms loose pt e.1 e.2 q l, c.1.length = e.1.length + 1 := fun c hc => by
    obtain ⟨k, _, h1, _⟩ := mem_chd he hq hc
    rw [h1]; simp
  have hle := chd_le hm hs he hq
  have hsh := (he.short hm hs).1
  have key : (chd ms loose pt e.1 e.2 q l).length * Mz (e.1.length + 1) ≤ Mz e.1.length - 1 := by
    by_cases h4 : e.1.length = 4
    · have : chd ms loose pt e.1 e.2 q l = [] := by
        cases hc : chd ms loose pt e.1 e.2 q l with
        | nil => rfl
        | cons c cs =>
          obtain ⟨k, _, h1, l', h2⟩ := mem_chd he hq (e := c) (by rw [hc]; simp)
          have := (h2.short hm hs).1
          have h3 := hlen c (by rw [hc]; simp)
          omega
      rw [this]; simp
    · have hj : e.1.length < 4 := by omega
      have hc : (chd ms loose pt e.1 e.2 q l).length ≤ 9 - e.1.length := by omega
      refine Nat.le_trans (Nat.mul_le_mul_right _ hc) ?_
      match e.1.length, hj with
      | 0, _ => decide
      | 1, _ => decide
      | 2, _ => decide
      | 3, _ => decide
  have s1 : ((chd ms loose pt e.1 e.2 q l).map fun e => Mz e.1.length).sum = (chd ms loose pt e.1 e.2 q l).length * Mz (e.1.length + 1) := sum_const_le fun c hc => by rw [hlen c hc]
  have s2 : ((chd ms loose pt e.1 e.2 q l).map fun e => Mz e.1.length - 1).sum = (chd ms loose pt e.1 e.2 q l).length * (Mz (e.1.length + 1) - 1) := sum_const_le fun c hc => by rw [hlen c hc]
  have hpos := Mz_pos e.1.length
  have hpos1 := Mz_pos (e.1.length + 1)
  have s3 : (chd ms loose pt e.1 e.2 q l).length * (Mz (e.1.length + 1) - 1) + (chd ms loose pt e.1 e.2 q l).length = (chd ms loose pt e.1 e.2 q l).length * Mz (e.1.length + 1) := by
    rw [← Nat.mul_succ]
    congr 1
    omega
  have hqlot : q ∈ lot := by
    have := S.had e (by simp)
    rwa [lastP_of hq] at this
  refine ⟨⟨fun c hc => ?_, fun c hc => ?_, fun p hp => ?_, fun w pls l' h => ?_, ?_⟩, ?_⟩
  · rcases List.mem_append.mp hc with hc | hc
    · exact S.ways c (List.mem_append_left _ hc)
    · obtain ⟨_, _, _, h⟩ := mem_chd he hq hc; exact h
  · rcases List.mem_append.mp hc with hc | hc
    · exact List.mem_append_left _ (S.had c (List.mem_append_left _ hc))
    · exact List.mem_append_right _ (List.mem_map_of_mem hc)
  · rcases List.mem_append.mp hp with hp | hp
    · exact S.from_ p hp
    · obtain ⟨c, h1, rfl⟩ := List.mem_map.mp hp
      obtain ⟨_, _, _, l', h⟩ := mem_chd he hq h1
      have hne := h.sw.ne
      obtain ⟨x, hx⟩ : ∃ x, c.2.getLast? = some x := by
        cases hx : c.2.getLast? with
        | none => exact absurd (List.getLast?_eq_none_iff.mp hx) hne
        | some x => exact ⟨x, rfl⟩
      exact ⟨_, _, _, h, by rw [lastP_of hx]; exact hx⟩
  · rcases S.all w pls l' h with ⟨p, h1, h2⟩ | ⟨c, hc, w2, hw⟩
    · exact .inl ⟨p, h1, List.mem_append_left _ h2⟩
    · rcases List.mem_append.mp hc with hc | hc
      · exact .inr ⟨c, List.mem_append_left _ hc, w2, hw⟩
      · simp at hc
        subst hc
        cases w2 with
        | nil =>
          rw [List.append_nil] at hw
          subst hw
          obtain ⟨rfl, rfl⟩ := he.det h
          exact .inl ⟨q, hq, List.mem_append_left _ hqlot⟩
        | cons k w2 =>
          obtain ⟨pls1, l1, h1⟩ := h.pre (w1 := c.1 ++ [k]) (w2 := w2) (by rw [hw]; simp)
          exact .inr ⟨_, List.mem_append_right _ (chd_has he hq h1), w2, by rw [hw]; simp⟩
  · have := S.few
    rw [sum_map_add] at this ⊢
    simp only [List.map_cons, List.map_nil, List.sum_cons, List.sum_nil, List.length_append, List.length_map] at this ⊢
    rw [s2]
    omega
  · rw [sum_map_add, sum_map_add, s1]
    simp only [List.map_cons, List.map_nil, List.sum_cons, List.sum_nil]
    omega
end
end Way
set_option maxHeartbeats 2000000
namespace K44
open PySem PySem.Spec PyProof.Rows L2 Ev
/-! the text by places -/
def top (i : Nat) : Stmt := PySem.Challenge.pw_timedways_k44_rooms.main.body.getD i (.Pass ⟨0, 0, 0, 0⟩)
abbrev s__law_pool : Stmt := top 44
abbrev N__law_pool : List Str := ["script", "k", "cell", "mixed", "wide", "each"]
theorem sc__law_pool : FnScope N__law_pool ["script", "k"] (defScope s__law_pool) := ⟨rfl, rfl, rfl, by decide +kernel, rfl, by decide +kernel, by decide +kernel⟩
abbrev s__law_take : Stmt := top 45
abbrev N__law_take : List Str := ["pool", "many", "digit", "stirred"]
theorem sc__law_take : FnScope N__law_take ["pool", "many"] (defScope s__law_take) := ⟨rfl, rfl, rfl, by decide +kernel, rfl, by decide +kernel, by decide +kernel⟩
abbrev s__law_of : Stmt := top 46
abbrev N__law_of : List Str := ["pool", "some"]
theorem sc__law_of : FnScope N__law_of ["pool", "some"] (defScope s__law_of) := ⟨rfl, rfl, rfl, by decide +kernel, rfl, by decide +kernel, by decide +kernel⟩
abbrev s__law_web : Stmt := top 47
abbrev N__law_web : List Str := ["pool", "most", "many", "places", "found", "wide", "turn", "one", "other"]
theorem sc__law_web : FnScope N__law_web ["pool", "most", "many"] (defScope s__law_web) := ⟨rfl, rfl, rfl, by decide +kernel, rfl, by decide +kernel, by decide +kernel⟩
abbrev s__law_table : Stmt := top 48
abbrev N__law_table : List Str := ["web", "kind", "patience", "found", "start", "lot", "edge", "way", "places", "last", "k", "time", "one", "other", "late", "far"]
theorem sc__law_table : FnScope N__law_table ["web", "kind", "patience"] (defScope s__law_table) := ⟨rfl, rfl, rfl, by decide +kernel, rfl, by decide +kernel, by decide +kernel⟩
abbrev s_first_wrong : Stmt := top 11
abbrev N_first_wrong : List Str := ["value", "is_right", "index", "each"]
theorem sc_first_wrong : FnScope N_first_wrong ["value", "is_right"] (defScope s_first_wrong) := ⟨rfl, rfl, rfl, by decide +kernel, rfl, by decide +kernel, by decide +kernel⟩
abbrev s_is_tuple_of : Stmt := top 9
abbrev N_is_tuple_of : List Str := ["value", "many"]
theorem sc_is_tuple_of : FnScope N_is_tuple_of ["value", "many"] (defScope s_is_tuple_of) := ⟨rfl, rfl, rfl, by decide +kernel, rfl, by decide +kernel, by decide +kernel⟩
abbrev s_is_whole : Stmt := top 6
abbrev N_is_whole : List Str := ["value"]
theorem sc_is_whole : FnScope N_is_whole ["value"] (defScope s_is_whole) := ⟨rfl, rfl, rfl, by decide +kernel, rfl, by decide +kernel, by decide +kernel⟩
abbrev s_is_between : Stmt := top 7
abbrev N_is_between : List Str := ["value", "least", "most"]
theorem sc_is_between : FnScope N_is_between ["value", "least", "most"] (defScope s_is_between) := ⟨rfl, rfl, rfl, by decide +kernel, rfl, by decide +kernel, by decide +kernel⟩
abbrev s_is_triple : Stmt := top 21
abbrev N_is_triple : List Str := ["places", "value", "place"]
theorem sc_is_triple : FnScope N_is_triple ["places", "value"] (defScope s_is_triple) := ⟨rfl, rfl, rfl, by decide +kernel, rfl, by decide +kernel, by decide +kernel⟩
abbrev s_is_next : Stmt := top 22
abbrev N_is_next : List Str := ["places", "value", "ahead"]
theorem sc_is_next : FnScope N_is_next ["places", "value", "ahead"] (defScope s_is_next) := ⟨rfl, rfl, rfl, by decide +kernel, rfl, by decide +kernel, by decide +kernel⟩
abbrev s_wrong_meeting : Stmt := top 23
abbrev N_wrong_meeting : List Str := ["places", "value"]
theorem sc_wrong_meeting : FnScope N_wrong_meeting ["places", "value"] (defScope s_wrong_meeting) := ⟨rfl, rfl, rfl, by decide +kernel, rfl, by decide +kernel, by decide +kernel⟩
abbrev s_is_places : Stmt := top 20
abbrev N_is_places : List Str := ["value"]
theorem sc_is_places : FnScope N_is_places ["value"] (defScope s_is_places) := ⟨rfl, rfl, rfl, by decide +kernel, rfl, by decide +kernel, by decide +kernel⟩
abbrev s_is_row : Stmt := top 10
abbrev N_is_row : List Str := ["value", "least", "most"]
theorem sc_is_row : FnScope N_is_row ["value", "least", "most"] (defScope s_is_row) := ⟨rfl, rfl, rfl, by decide +kernel, rfl, by decide +kernel, by decide +kernel⟩
abbrev s_is_frame : Stmt := top 24
abbrev N_is_frame : List Str := ["value"]
theorem sc_is_frame : FnScope N_is_frame ["value"] (defScope s_is_frame) := ⟨rfl, rfl, rfl, by decide +kernel, rfl, by decide +kernel, by decide +kernel⟩
abbrev s_check_web : Stmt := top 25
abbrev N_check_web : List Str := ["value", "wrong"]
theorem sc_check_web : FnScope N_check_web ["value"] (defScope s_check_web) := ⟨rfl, rfl, rfl, by decide +kernel, rfl, by decide +kernel, by decide +kernel⟩
abbrev s_is_string : Stmt := top 8
abbrev N_is_string : List Str := ["value"]
theorem sc_is_string : FnScope N_is_string ["value"] (defScope s_is_string) := ⟨rfl, rfl, rfl, by decide +kernel, rfl, by decide +kernel, by decide +kernel⟩
abbrev s_is_kind : Stmt := top 26
abbrev N_is_kind : List Str := ["value"]
theorem sc_is_kind : FnScope N_is_kind ["value"] (defScope s_is_kind) := ⟨rfl, rfl, rfl, by decide +kernel, rfl, by decide +kernel, by decide +kernel⟩
abbrev s_check_kind : Stmt := top 27
abbrev N_check_kind : List Str := ["value"]
theorem sc_check_kind : FnScope N_check_kind ["value"] (defScope s_check_kind) := ⟨rfl, rfl, rfl, by decide +kernel, rfl, by decide +kernel, by decide +kernel⟩
abbrev s_check_kinded : Stmt := top 28
abbrev N_check_kinded : List Str := ["web", "kind"]
theorem sc_check_kinded : FnScope N_check_kinded ["web", "kind"] (defScope s_check_kinded) := ⟨rfl, rfl, rfl, by decide +kernel, rfl, by decide +kernel, by decide +kernel⟩
abbrev s_is_meeting : Stmt := top 29
abbrev N_is_meeting : List Str := ["web", "value"]
theorem sc_is_meeting : FnScope N_is_meeting ["web", "value"] (defScope s_is_meeting) := ⟨rfl, rfl, rfl, by decide +kernel, rfl, by decide +kernel, by decide +kernel⟩
abbrev s_check_meeting : Stmt := top 30
abbrev N_check_meeting : List Str := ["web", "value"]
theorem sc_check_meeting : FnScope N_check_meeting ["web", "value"] (defScope s_check_meeting) := ⟨rfl, rfl, rfl, by decide +kernel, rfl, by decide +kernel, by decide +kernel⟩
abbrev s_check_roomed : Stmt := top 41
abbrev N_check_roomed : List Str := ["web", "kind", "meeting"]
theorem sc_check_roomed : FnScope N_check_roomed ["web", "kind", "meeting"] (defScope s_check_roomed) := ⟨rfl, rfl, rfl, by decide +kernel, rfl, by decide +kernel, by decide +kernel⟩
abbrev s_made_web : Stmt := top 32
abbrev N_made_web : List Str := ["places", "meetings"]
theorem sc_made_web : FnScope N_made_web ["places", "meetings"] (defScope s_made_web) := ⟨rfl, rfl, rfl, by decide +kernel, rfl, by decide +kernel, by decide +kernel⟩
abbrev s_without_by : Stmt := top 33
abbrev N_without_by : List Str := ["web", "lot", "index", "meeting"]
theorem sc_without_by : FnScope N_without_by ["web", "lot"] (defScope s_without_by) := ⟨rfl, rfl, rfl, by decide +kernel, rfl, by decide +kernel, by decide +kernel⟩
abbrev s_later_by : Stmt := top 39
abbrev N_later_by : List Str := ["web", "meeting", "many", "time", "one", "other", "moved", "others"]
theorem sc_later_by : FnScope N_later_by ["web", "meeting", "many"] (defScope s_later_by) := ⟨rfl, rfl, rfl, by decide +kernel, rfl, by decide +kernel, by decide +kernel⟩
abbrev s_led_at : Stmt := top 34
abbrev N_led_at : List Str := ["pairs", "had", "kind", "found", "more", "base", "fresh", "one", "other", "place"]
theorem sc_led_at : FnScope N_led_at ["pairs", "had", "kind"] (defScope s_led_at) := ⟨rfl, rfl, rfl, by decide +kernel, rfl, by decide +kernel, by decide +kernel⟩
abbrev s_ends_of : Stmt := top 31
abbrev N_ends_of : List Str := ["meeting"]
theorem sc_ends_of : FnScope N_ends_of ["meeting"] (defScope s_ends_of) := ⟨rfl, rfl, rfl, by decide +kernel, rfl, by decide +kernel, by decide +kernel⟩
abbrev s_arrivals_by : Stmt := top 35
abbrev N_arrivals_by : List Str := ["web", "kind", "start", "time", "found", "now", "pairs", "meeting", "place"]
theorem sc_arrivals_by : FnScope N_arrivals_by ["web", "kind", "start", "time"] (defScope s_arrivals_by) := ⟨rfl, rfl, rfl, by decide +kernel, rfl, by decide +kernel, by decide +kernel⟩
abbrev s_come_by : Stmt := top 36
abbrev N_come_by : List Str := ["web", "kind", "start", "time"]
theorem sc_come_by : FnScope N_come_by ["web", "kind", "start", "time"] (defScope s_come_by) := ⟨rfl, rfl, rfl, by decide +kernel, rfl, by decide +kernel, by decide +kernel⟩
abbrev s_table_by : Stmt := top 37
abbrev N_table_by : List Str := ["web", "kind", "place"]
theorem sc_table_by : FnScope N_table_by ["web", "kind"] (defScope s_table_by) := ⟨rfl, rfl, rfl, by decide +kernel, rfl, by decide +kernel, by decide +kernel⟩
abbrev s_room_by : Stmt := top 40
abbrev N_room_by : List Str := ["web", "kind", "meeting", "found", "told", "later"]
theorem sc_room_by : FnScope N_room_by ["web", "kind", "meeting"] (defScope s_room_by) := ⟨rfl, rfl, rfl, by decide +kernel, rfl, by decide +kernel, by decide +kernel⟩
abbrev s_room : Stmt := top 42
abbrev N_room : List Str := ["web", "kind", "meeting"]
theorem sc_room : FnScope N_room ["web", "kind", "meeting"] (defScope s_room) := ⟨rfl, rfl, rfl, by decide +kernel, rfl, by decide +kernel, by decide +kernel⟩
abbrev s__law_right : Stmt := top 49
abbrev N__law_right : List Str := ["pool", "most", "web", "kind", "plain", "turn", "k", "due", "free", "time", "one", "other", "later", "rest"]
theorem sc__law_right : FnScope N__law_right ["pool", "most"] (defScope s__law_right) := ⟨rfl, rfl, rfl, by decide +kernel, rfl, by decide +kernel, by decide +kernel⟩
abbrev s_law : Stmt := top 50
abbrev N_law : List Str := ["script", "k", "pool", "most"]
theorem sc_law : FnScope N_law ["script"] (defScope s_law) := ⟨rfl, rfl, rfl, by decide +kernel, rfl, by decide +kernel, by decide +kernel⟩
/-! what each def computes -/
noncomputable def b__law_pool_1 : M Fl := (seqS (asgS [] 3 (bi2 (bi2 (bi2 (bi2 (vVar 3) (vC (.int 48271)) (lift2 mulR)) (bi2 (bi2 (vVar 5) (vC (.int 2147483399)) modF) (vC (.int 19)) (lift2 mulR)) (lift2 addR)) (vC (.int 7)) (lift2 addR)) (vC (.int 2147483399)) modF))
  skipS)
noncomputable def f__law_pool : M Fl := (seqS (parS [] [2, 3] (argsV [(M.bind (argsV [(sliceV (vVar 0) (M.bind (vVar 1) partM) (M.bind (bi2 (vVar 1) (vC (.int 1)) (lift2 addR)) partM))]) (un1 sumR)), (bi2 (vC (.int 50021)) (bi2 (vC (.int 977)) (vVar 1) (lift2 mulR)) (lift2 addR))]))
  (seqS (asgS [] 4 (bi2 (bi2 (bi2 (bi2 (bi2 (bi2 (vC (.int 10)) (vC (.int 64)) powF) (bi2 (vC (.int 10)) (vC (.int 64)) powF) (lift2 mulR)) (bi2 (vC (.int 10)) (vC (.int 64)) powF) (lift2 mulR)) (bi2 (vC (.int 10)) (vC (.int 64)) powF) (lift2 mulR)) (bi2 (vC (.int 10)) (vC (.int 64)) powF) (lift2 mulR)) (bi2 (vC (.int 10)) (vC (.int 64)) powF) (lift2 mulR)))
  (seqS (forS [] (seqI (sliceV (vVar 0) (M.ret none) (M.bind (vC (.int 12)) partM))) (.n 5) b__law_pool_1)
  (seqS (retS (lstV (argsV [(ifV (orT (vB (bi2 (vVar 2) (vC (.int 0)) (look2 (ordR PySem.W.dataLt)))) (vB (bi2 (vVar 2) (bi2 (vC (.int 10)) (vC (.int 18)) powF) (look2 (ordR fun d e => !PySem.W.dataLt d e))))) (bi2 (M.bind (argsV [(vVar 2)]) (un1 absR)) (vVar 4) modF) (vC (.int 0))), (vVar 3), (vC (.int 0))])))
  skipS))))
noncomputable def p__law_pool : Fn := runD N__law_pool.length [] f__law_pool
noncomputable def f__law_take : M Fl := (seqS (ifS (vB (bi2 (bi2 (vVar 0) (vC (.int 0)) ixF) (vC (.int 0)) (look2 (ordR fun d e => PySem.W.dataLt e d)))) (seqS (unpS [0] (.t [(.s (vVar 0) (vC (.int 0))), (.n 2)]) (M.bind (argsV [(bi2 (vVar 0) (vC (.int 0)) ixF), (vVar 1)]) (un2 divmodR)))
  (seqS (retS (vVar 2))
  skipS)) skipS)
  (seqS (setS (bi2 (bi2 (vVar 0) (vC (.int 2)) ixF) (vC (.int 1)) (lift2 addR)) (vVar 0) (vC (.int 2)))
  (seqS (asgS [0] 3 (bi2 (bi2 (bi2 (vVar 0) (vC (.int 1)) ixF) (bi2 (vC (.int 28657)) (bi2 (vVar 0) (vC (.int 2)) ixF) (lift2 mulR)) (lift2 addR)) (vC (.int 2147483399)) modF))
  (seqS (setS (bi2 (bi2 (bi2 (vVar 3) (bi2 (bi2 (vVar 3) (vC (.int 5003)) modF) (vC (.int 48271)) (lift2 addR)) (lift2 mulR)) (bi2 (vC (.int 17)) (bi2 (vVar 0) (vC (.int 2)) ixF) (lift2 mulR)) (lift2 addR)) (vC (.int 2147483399)) modF) (vVar 0) (vC (.int 1)))
  (seqS (retS (bi2 (bi2 (bi2 (vVar 0) (vC (.int 1)) ixF) (vC (.int 613)) divF) (vVar 1) modF))
  skipS)))))
noncomputable def p__law_take : Fn := runD N__law_take.length [0] f__law_take
noncomputable def f__law_of : M Fl := (seqS (retS (bi2 (vVar 1) (callM p__law_take [0] [true, false] (argsV [(vVar 0), (M.bind (argsV [(vVar 1)]) (un1 lenR))])) ixF))
  skipS)
noncomputable def p__law_of : Fn := runD N__law_of.length [0] f__law_of
noncomputable def b__law_web_1 : M Fl := (seqS (asgS [0] 7 (callM p__law_take [0] [true, false] (argsV [(vVar 0), (vVar 3)])))
  (seqS (asgS [0] 8 (bi2 (bi2 (bi2 (vVar 7) (vC (.int 1)) (lift2 addR)) (callM p__law_take [0] [true, false] (argsV [(vVar 0), (bi2 (vVar 3) (vC (.int 1)) subF)])) (lift2 addR)) (vVar 3) modF))
  (seqS (setS (vC (.bool true)) (vVar 4) (tupV (argsV [(bi2 (vC (.int 1)) (callM p__law_take [0] [true, false] (argsV [(vVar 0), (vVar 5)])) (lift2 addR)), (M.bind (argsV [(vVar 7), (vVar 8)]) (un2 min2R)), (M.bind (argsV [(vVar 7), (vVar 8)]) (un2 max2R))])))
  skipS)))
noncomputable def f__law_web : M Fl := (seqS (parS [0] [3, 4, 5] (argsV [(bi2 (vC (.int 2)) (callM p__law_take [0] [true, false] (argsV [(vVar 0), (bi2 (vVar 1) (vC (.int 1)) subF)])) (lift2 addR)), (M.ret (.n (.t []))), (callM p__law_of [0] [true, false] (argsV [(vVar 0), (lstV (argsV [(vC (.int 2)), (vC (.int 4)), (vC (.int 7)), (vC (.int 20))]))]))]))
  (seqS (forS [0] (argI (argsV [(callM p__law_take [0] [true, false] (argsV [(vVar 0), (bi2 (vVar 2) (vC (.int 1)) (lift2 addR))]))]) rngK1) (.n 6) b__law_web_1)
  (seqS (retS (tupV (argsV [(tupV (argsV [(vVar 3), (M.bind (argsV [(M.bind (argsV [(vVar 4)]) (un1 sortRR))]) (un1 tupleR))])), (callM p__law_of [0] [true, false] (argsV [(vVar 0), (lstV (argsV [(vC (.str "strict")), (vC (.str "loose"))]))]))])))
  skipS)))
noncomputable def p__law_web : Fn := runD N__law_web.length [0] f__law_web
noncomputable def b__law_table_1 : M Fl := (seqS (unpS [] (.t [(.n 11), (.n 12), (.n 13)]) (bi2 (bi2 (vVar 0) (vC (.int 1)) ixF) (vVar 10) ixF))
  (seqS (asgS [] 14 (orV (bi2 (vVar 11) (vVar 9) (look2 (ordR fun d e => PySem.W.dataLt e d))) (andV (bi2 (vVar 11) (vVar 9) (look2 eqR)) (bi2 (vVar 1) (vC (.str "loose")) (look2 eqR)))))
  (seqS (ifS (andT (vB (bi2 (bi2 (vVar 8) (M.bind (vC (.int 1)) (lift1 negR)) ixF) (lstV (argsV [(vVar 12), (vVar 13)])) (inF false))) (andT (vT (vVar 14)) (orT (vB (bi2 (vVar 7) (tupV (M.ret [])) (look2 eqR))) (vB (bi2 (bi2 (vVar 11) (vVar 9) subF) (vVar 2) (look2 (ordR fun d e => !PySem.W.dataLt e d))))))) (seqS (asgS [] 15 (bi2 (bi2 (vVar 12) (vVar 13) (lift2 addR)) (bi2 (vVar 8) (M.bind (vC (.int 1)) (lift1 negR)) ixF) subF))
  (seqS (ifS (vB (bi2 (vVar 15) (vVar 8) (inF true))) (seqS (exprS (bmM "list" (vVar 5) (argsV [(vVar 15)]) appM))
  (seqS (exprS (bmM "list" (vVar 6) (argsV [(tupV (argsV [(bi2 (vVar 7) (tupV (argsV [(vVar 10)])) (lift2 addR)), (bi2 (vVar 8) (tupV (argsV [(vVar 15)])) (lift2 addR))]))]) appM))
  skipS)) skipS)
  skipS)) skipS)
  skipS)))
noncomputable def w__law_table_2 : M Bool := (vB (bi2 (vVar 6) (lstV (M.ret [])) (look2 neR)))
noncomputable def b__law_table_3 : M Fl := (seqS (unpS [] (.t [(.n 7), (.n 8)]) (bmM "list" (vVar 6) (M.ret []) popM))
  (seqS (asgS [] 9 (ifV (vB (bi2 (vVar 7) (tupV (M.ret [])) (look2 neR))) (bi2 (bi2 (bi2 (vVar 0) (vC (.int 1)) ixF) (bi2 (vVar 7) (M.bind (vC (.int 1)) (lift1 negR)) ixF) ixF) (vC (.int 0)) ixF) (vC (.int 0))))
  (seqS (forS [] (argI (argsV [(M.bind (argsV [(bi2 (vVar 0) (vC (.int 1)) ixF)]) (un1 lenR))]) rngK1) (.n 10) b__law_table_1)
  skipS)))
noncomputable def b__law_table_4 : M Fl := (seqS (parS [] [5, 6] (argsV [(lstV (argsV [(vVar 4)])), (lstV (argsV [(tupV (argsV [(tupV (M.ret [])), (tupV (argsV [(vVar 4)]))]))]))]))
  (seqS (whileW w__law_table_2 b__law_table_3)
  (seqS (exprS (bmM "list" (vVar 3) (argsV [(M.bind (argsV [(M.bind (vVar 5) (lift1 sortSetR))]) (un1 tupleR))]) appM))
  skipS)))
noncomputable def f__law_table : M Fl := (seqS (asgS [] 3 (lstV (M.ret [])))
  (seqS (forS [] (argI (argsV [(bi2 (vVar 0) (vC (.int 0)) ixF)]) rngK1) (.n 4) b__law_table_4)
  (seqS (retS (M.bind (argsV [(vVar 3)]) (un1 tupleR)))
  skipS)))
noncomputable def p__law_table : Fn := runD N__law_table.length [] f__law_table
noncomputable def b_first_wrong_1 (lam : Fn) : M Fl := (seqS (ifS (notT (vT (callM lam [] [false, false] (argsV [(vVar 3), (sliceV (vVar 0) (M.ret none) (M.bind (vVar 2) partM))])))) (seqS (retS (vVar 2))
  skipS) skipS)
  skipS)
noncomputable def f_first_wrong (lam : Fn) : M Fl := (seqS (forS [1] (argI (argsV [(vVar 0)]) enumK) (.t [(.n 2), (.n 3)]) (b_first_wrong_1 lam))
  (seqS (retS (vC .none))
  skipS))
noncomputable def p_first_wrong : Fn → Fn := fun lam => runH N_first_wrong.length 1 (f_first_wrong lam)
noncomputable def f_is_tuple_of : M Fl := (seqS (retS (andV (M.bind (vVar 0) (isaF "tuple")) (bi2 (M.bind (argsV [(vVar 0)]) (un1 lenR)) (vVar 1) (look2 eqR))))
  skipS)
noncomputable def p_is_tuple_of : Fn := runD N_is_tuple_of.length [] f_is_tuple_of
noncomputable def f_is_whole : M Fl := (seqS (retS (andV (M.bind (vVar 0) (isaF "int")) (notV (M.bind (vVar 0) (isaF "bool")))))
  skipS)
noncomputable def p_is_whole : Fn := runD N_is_whole.length [] f_is_whole
noncomputable def f_is_between : M Fl := (seqS (retS (andV (callM p_is_whole [] [false] (argsV [(vVar 0)])) (chainF (vVar 1) (vVar 0) (vVar 2) (look2 (ordR fun d e => !PySem.W.dataLt e d)) (look2 (ordR fun d e => !PySem.W.dataLt e d)))))
  skipS)
noncomputable def p_is_between : Fn := runD N_is_between.length [] f_is_between
noncomputable def t_is_triple_1 : M Bool := (M.ret true)
noncomputable def e_is_triple_2 : M Rv := (callM p_is_between [] [false, false, false] (argsV [(vVar 2), (vC (.int 0)), (bi2 (vVar 0) (vC (.int 1)) subF)]))
noncomputable def c_is_triple_3 : M Rv := (lcM (seqI (sliceV (vVar 1) (M.bind (vC (.int 1)) partM) (M.ret none))) [2] (.n 2) t_is_triple_1 e_is_triple_2)
noncomputable def f_is_triple : M Fl := (seqS (ifS (orT (notT (vT (callM p_is_tuple_of [] [false, false] (argsV [(vVar 1), (vC (.int 3))])))) (notT (vT (callM p_is_between [] [false, false, false] (argsV [(bi2 (vVar 1) (vC (.int 0)) ixF), (vC (.int 1)), (vC (.int 20))]))))) (seqS (retS (vC (.bool false)))
  skipS) skipS)
  (seqS (retS (andV (M.bind (argsV [c_is_triple_3]) (un1 allR)) (bi2 (bi2 (vVar 1) (vC (.int 1)) ixF) (bi2 (vVar 1) (vC (.int 2)) ixF) (look2 (ordR PySem.W.dataLt)))))
  skipS))
noncomputable def p_is_triple : Fn := runD N_is_triple.length [] f_is_triple
noncomputable def f_is_next : M Fl := (seqS (retS (andV (callM p_is_triple [] [false, false] (argsV [(vVar 0), (vVar 1)])) (orV (bi2 (vVar 2) (tupV (M.ret [])) (look2 eqR)) (bi2 (bi2 (vVar 2) (M.bind (vC (.int 1)) (lift1 negR)) ixF) (vVar 1) (look2 (ordR PySem.W.dataLt))))))
  skipS)
noncomputable def p_is_next : Fn := runD N_is_next.length [] f_is_next
noncomputable def f_wrong_meeting : M Fl := (seqS (retS (callLM p_first_wrong [false] (argsV [(vVar 1)]) [0] fun wE => lamFn (["meeting", "ahead", "places"] : List Str).length wE (callM p_is_next [] [false, false, false] (argsV [(vVar 2), (vVar 0), (vVar 1)]))))
  skipS)
noncomputable def p_wrong_meeting : Fn := runD N_wrong_meeting.length [] f_wrong_meeting
noncomputable def f_is_places : M Fl := (seqS (retS (callM p_is_between [] [false, false, false] (argsV [(vVar 0), (vC (.int 2)), (vC (.int 6))])))
  skipS)
noncomputable def p_is_places : Fn := runD N_is_places.length [] f_is_places
noncomputable def f_is_row : M Fl := (seqS (retS (andV (M.bind (vVar 0) (isaF "tuple")) (chainF (vVar 1) (M.bind (argsV [(vVar 0)]) (un1 lenR)) (vVar 2) (look2 (ordR fun d e => !PySem.W.dataLt e d)) (look2 (ordR fun d e => !PySem.W.dataLt e d)))))
  skipS)
noncomputable def p_is_row : Fn := runD N_is_row.length [] f_is_row
noncomputable def f_is_frame : M Fl := (seqS (retS (andV (callM p_is_tuple_of [] [false, false] (argsV [(vVar 0), (vC (.int 2))])) (andV (callM p_is_places [] [false] (argsV [(bi2 (vVar 0) (vC (.int 0)) ixF)])) (callM p_is_row [] [false, false, false] (argsV [(bi2 (vVar 0) (vC (.int 1)) ixF), (vC (.int 0)), (vC (.int 12))])))))
  skipS)
noncomputable def p_is_frame : Fn := runD N_is_frame.length [] f_is_frame
noncomputable def f_check_web : M Fl := (seqS (ifS (notT (vT (callM p_is_frame [] [false] (argsV [(vVar 0)])))) (seqS noS
  skipS) skipS)
  (seqS (asgS [] 1 (callM p_wrong_meeting [] [false, false] (argsV [(bi2 (vVar 0) (vC (.int 0)) ixF), (bi2 (vVar 0) (vC (.int 1)) ixF)])))
  (seqS (ifS (vB (notN (vVar 1))) (seqS noS
  skipS) skipS)
  skipS)))
noncomputable def p_check_web : Fn := runD N_check_web.length [] f_check_web
noncomputable def f_is_string : M Fl := (seqS (retS (M.bind (vVar 0) (isaF "str")))
  skipS)
noncomputable def p_is_string : Fn := runD N_is_string.length [] f_is_string
noncomputable def f_is_kind : M Fl := (seqS (retS (andV (callM p_is_string [] [false] (argsV [(vVar 0)])) (bi2 (vVar 0) (vC (.tuple [(.str "strict"), (.str "loose")])) (inF false))))
  skipS)
noncomputable def p_is_kind : Fn := runD N_is_kind.length [] f_is_kind
noncomputable def f_check_kind : M Fl := (seqS (ifS (notT (vT (callM p_is_kind [] [false] (argsV [(vVar 0)])))) (seqS noS
  skipS) skipS)
  skipS)
noncomputable def p_check_kind : Fn := runD N_check_kind.length [] f_check_kind
noncomputable def f_check_kinded : M Fl := (seqS (exprS (callM p_check_web [] [false] (argsV [(vVar 0)])))
  (seqS (exprS (callM p_check_kind [] [false] (argsV [(vVar 1)])))
  skipS))
noncomputable def p_check_kinded : Fn := runD N_check_kinded.length [] f_check_kinded
noncomputable def f_is_meeting : M Fl := (seqS (retS (callM p_is_between [] [false, false, false] (argsV [(vVar 1), (vC (.int 0)), (bi2 (M.bind (argsV [(bi2 (vVar 0) (vC (.int 1)) ixF)]) (un1 lenR)) (vC (.int 1)) subF)])))
  skipS)
noncomputable def p_is_meeting : Fn := runD N_is_meeting.length [] f_is_meeting
noncomputable def f_check_meeting : M Fl := (seqS (ifS (notT (vT (callM p_is_meeting [] [false, false] (argsV [(vVar 0), (vVar 1)])))) (seqS noS
  skipS) skipS)
  skipS)
noncomputable def p_check_meeting : Fn := runD N_check_meeting.length [] f_check_meeting
noncomputable def f_check_roomed : M Fl := (seqS (exprS (callM p_check_kinded [] [false, false] (argsV [(vVar 0), (vVar 1)])))
  (seqS (exprS (callM p_check_meeting [] [false, false] (argsV [(vVar 0), (vVar 2)])))
  skipS))
noncomputable def p_check_roomed : Fn := runD N_check_roomed.length [] f_check_roomed
noncomputable def f_made_web : M Fl := (seqS (retS (tupV (argsV [(vVar 0), (M.bind (argsV [(M.bind (argsV [(vVar 1)]) (un1 sortRR))]) (un1 tupleR))])))
  skipS)
noncomputable def p_made_web : Fn := runD N_made_web.length [] f_made_web
noncomputable def t_without_by_1 : M Bool := (vB (bi2 (vVar 2) (vVar 1) (inF true)))
noncomputable def e_without_by_2 : M Rv := (vVar 3)
noncomputable def c_without_by_3 : M Rv := (lcM (argI (argsV [(bi2 (vVar 0) (vC (.int 1)) ixF)]) enumK) [2, 3] (.t [(.n 2), (.n 3)]) t_without_by_1 e_without_by_2)
noncomputable def f_without_by : M Fl := (seqS (retS (tupV (argsV [(bi2 (vVar 0) (vC (.int 0)) ixF), (M.bind (argsV [c_without_by_3]) (un1 tupleR))])))
  skipS)
noncomputable def p_without_by : Fn := runD N_without_by.length [] f_without_by
noncomputable def f_later_by : M Fl := (seqS (unpS [] (.t [(.n 3), (.n 4), (.n 5)]) (bi2 (bi2 (vVar 0) (vC (.int 1)) ixF) (vVar 1) ixF))
  (seqS (parS [] [6, 7] (argsV [(tupV (argsV [(bi2 (vVar 3) (vVar 2) (lift2 addR)), (vVar 4), (vVar 5)])), (bi2 (callM p_without_by [] [false, false] (argsV [(vVar 0), (tupV (argsV [(vVar 1)]))])) (vC (.int 1)) ixF)]))
  (seqS (retS (ifV (andT (vB (bi2 (bi2 (vVar 3) (vVar 2) (lift2 addR)) (vC (.int 20)) (look2 (ordR fun d e => !PySem.W.dataLt e d)))) (vB (bi2 (vVar 6) (vVar 7) (inF true)))) (callM p_made_web [] [false, false] (argsV [(bi2 (vVar 0) (vC (.int 0)) ixF), (tupV (M.bind (M.bind (vVar 7) starM) fun xs => M.bind (argsV [(vVar 6)]) fun ys => M.ret (xs ++ ys)))])) (vC .none)))
  skipS)))
noncomputable def p_later_by : Fn := runD N_later_by.length [] f_later_by
noncomputable def t_led_at_1 : M Bool := (vB (bi2 (vVar 7) (vVar 5) (inF false)))
noncomputable def e_led_at_2 : M Rv := (vVar 8)
noncomputable def c_led_at_3 : M Rv := (lcM (seqI (vVar 0)) [7, 8] (.t [(.n 7), (.n 8)]) t_led_at_1 e_led_at_2)
noncomputable def t_led_at_4 : M Bool := (vB (bi2 (vVar 8) (vVar 5) (inF false)))
noncomputable def e_led_at_5 : M Rv := (vVar 7)
noncomputable def c_led_at_6 : M Rv := (lcM (seqI (vVar 0)) [7, 8] (.t [(.n 7), (.n 8)]) t_led_at_4 e_led_at_5)
noncomputable def t_led_at_7 : M Bool := (vB (bi2 (vVar 9) (vVar 3) (inF true)))
noncomputable def e_led_at_8 : M Rv := (vVar 9)
noncomputable def c_led_at_9 : M Rv := (lcM (seqI (M.bind (vVar 6) (lift1 sortSetR))) [9] (.n 9) t_led_at_7 e_led_at_8)
noncomputable def w_led_at_10 : M Bool := (vT (vVar 4))
noncomputable def b_led_at_11 : M Fl := (seqS (asgS [] 5 (ifV (vB (bi2 (vVar 2) (vC (.str "strict")) (look2 eqR))) (vVar 1) (M.bind (argsV [(vVar 3)]) (un1 listR))))
  (seqS (asgS [] 6 (bi2 c_led_at_3 c_led_at_6 (lift2 addR)))
  (seqS (asgS [] 6 c_led_at_9)
  (seqS (unpS [] (.t [(.n 3), (.n 4)]) (tupV (argsV [(bi2 (vVar 3) (vVar 6) (lift2 addR)), (andV (bi2 (vVar 6) (lstV (M.ret [])) (look2 neR)) (bi2 (vVar 2) (vC (.str "strict")) (look2 neR)))])))
  skipS))))
noncomputable def f_led_at : M Fl := (seqS (asgS [] 3 (M.bind (argsV [(vVar 1)]) (un1 listR)))
  (seqS (asgS [] 4 (vC (.bool true)))
  (seqS (whileW w_led_at_10 b_led_at_11)
  (seqS (retS (vVar 3))
  skipS))))
noncomputable def p_led_at : Fn := runD N_led_at.length [] f_led_at
noncomputable def f_ends_of : M Fl := (seqS (retS (sliceV (vVar 0) (M.bind (vC (.int 1)) partM) (M.ret none)))
  skipS)
noncomputable def p_ends_of : Fn := runD N_ends_of.length [] f_ends_of
noncomputable def t_arrivals_by_1 : M Bool := (vB (bi2 (bi2 (vVar 7) (vC (.int 0)) ixF) (vVar 5) (look2 eqR)))
noncomputable def e_arrivals_by_2 : M Rv := (callM p_ends_of [] [false] (argsV [(vVar 7)]))
noncomputable def c_arrivals_by_3 : M Rv := (lcM (seqI (bi2 (vVar 0) (vC (.int 1)) ixF)) [7] (.n 7) t_arrivals_by_1 e_arrivals_by_2)
noncomputable def b_arrivals_by_4 : M Fl := (seqS (ifS (vB (bi2 (vVar 8) (vVar 4) (inF true))) (seqS (setS (vVar 5) (vVar 4) (vVar 8))
  skipS) skipS)
  skipS)
noncomputable def b_arrivals_by_5 : M Fl := (seqS (asgS [] 6 c_arrivals_by_3)
  (seqS (forS [] (seqI (callM p_led_at [] [false, false, false] (argsV [(vVar 6), (M.bind (argsV [(vVar 4)]) (un1 listR)), (vVar 1)]))) (.n 8) b_arrivals_by_4)
  skipS))
noncomputable def f_arrivals_by : M Fl := (seqS (asgS [] 4 (dict1V (vVar 2) (vVar 3)))
  (seqS (forS [] (argI (argsV [(vVar 3), (bi2 (vC (.int 20)) (vC (.int 1)) (lift2 addR))]) rngK2) (.n 5) b_arrivals_by_5)
  (seqS (retS (vVar 4))
  skipS)))
noncomputable def p_arrivals_by : Fn := runD N_arrivals_by.length [] f_arrivals_by
noncomputable def f_come_by : M Fl := (seqS (retS (M.bind (argsV [(M.bind (argsV [(callM p_arrivals_by [] [false, false, false, false] (argsV [(vVar 0), (vVar 1), (vVar 2), (vVar 3)]))]) (un1 sortRR))]) (un1 tupleR)))
  skipS)
noncomputable def p_come_by : Fn := runD N_come_by.length [] f_come_by
noncomputable def t_table_by_1 : M Bool := (M.ret true)
noncomputable def e_table_by_2 : M Rv := (callM p_come_by [] [false, false, false, false] (argsV [(vVar 0), (vVar 1), (vVar 2), (vC (.int 1))]))
noncomputable def c_table_by_3 : M Rv := (lcM (argI (argsV [(bi2 (vVar 0) (vC (.int 0)) ixF)]) rngK1) [2] (.n 2) t_table_by_1 e_table_by_2)
noncomputable def f_table_by : M Fl := (seqS (retS (M.bind (argsV [c_table_by_3]) (un1 tupleR)))
  skipS)
noncomputable def p_table_by : Fn := runD N_table_by.length [] f_table_by
noncomputable def w_room_by_1 : M Bool := (andT (vB (notN (vVar 5))) (vB (bi2 (callM p_table_by [] [false, false] (argsV [(vVar 5), (vVar 1)])) (vVar 4) (look2 eqR))))
noncomputable def b_room_by_2 : M Fl := (seqS (asgS [] 3 (bi2 (vVar 3) (vC (.int 1)) (lift2 addR)))
  (seqS (asgS [] 5 (callM p_later_by [] [false, false, false] (argsV [(vVar 0), (vVar 2), (bi2 (vVar 3) (vC (.int 1)) (lift2 addR))])))
  skipS))
noncomputable def f_room_by : M Fl := (seqS (parS [] [3, 4] (argsV [(vC (.int 0)), (callM p_table_by [] [false, false] (argsV [(vVar 0), (vVar 1)]))]))
  (seqS (asgS [] 5 (callM p_later_by [] [false, false, false] (argsV [(vVar 0), (vVar 2), (vC (.int 1))])))
  (seqS (whileW w_room_by_1 b_room_by_2)
  (seqS (retS (vVar 3))
  skipS))))
noncomputable def p_room_by : Fn := runD N_room_by.length [] f_room_by
noncomputable def f_room : M Fl := (seqS (exprS (callM p_check_roomed [] [false, false, false] (argsV [(vVar 0), (vVar 1), (vVar 2)])))
  (seqS (retS (callM p_room_by [] [false, false, false] (argsV [(vVar 0), (vVar 1), (vVar 2)])))
  skipS))
noncomputable def p_room : Fn := runD N_room.length [] f_room
noncomputable def w__law_right_1 : M Bool := (andT (vT (vVar 8)) (vB (bi2 (bi2 (vVar 9) (vVar 7) (lift2 addR)) (vC (.int 20)) (look2 (ordR PySem.W.dataLt)))))
noncomputable def b__law_right_2 : M Fl := (seqS (asgS [0] 12 (tupV (argsV [(bi2 (bi2 (vVar 9) (vVar 7) (lift2 addR)) (vC (.int 1)) (lift2 addR)), (vVar 10), (vVar 11)])))
  (seqS (asgS [0] 13 (bi2 (sliceV (bi2 (vVar 2) (vC (.int 1)) ixF) (M.ret none) (M.bind (vVar 6) partM)) (sliceV (bi2 (vVar 2) (vC (.int 1)) ixF) (M.bind (bi2 (vVar 6) (vC (.int 1)) (lift2 addR)) partM) (M.ret none)) (lift2 addR)))
  (seqS (asgS [0] 8 (andV (bi2 (vVar 12) (vVar 13) (inF true)) (bi2 (callM p__law_table [] [false, false, false] (argsV [(tupV (argsV [(bi2 (vVar 2) (vC (.int 0)) ixF), (M.bind (argsV [(M.bind (argsV [(bi2 (vVar 13) (tupV (argsV [(vVar 12)])) (lift2 addR))]) (un1 sortRR))]) (un1 tupleR))])), (vVar 3), (vC (.int 19))])) (vVar 4) (look2 eqR))))
  (seqS (asgS [0] 7 (bi2 (vVar 7) (M.bind (argsV [(vVar 8)]) (un1 intR)) (lift2 addR)))
  skipS))))
noncomputable def b__law_right_3 : M Fl := (seqS (parS [0] [6, 7, 8] (argsV [(callM p__law_take [0] [true, false] (argsV [(vVar 0), (M.bind (argsV [(bi2 (vVar 2) (vC (.int 1)) ixF)]) (un1 lenR))])), (vC (.int 0)), (vC (.bool true))]))
  (seqS (unpS [0] (.t [(.n 9), (.n 10), (.n 11)]) (bi2 (bi2 (vVar 2) (vC (.int 1)) ixF) (vVar 6) ixF))
  (seqS (whileW w__law_right_1 b__law_right_2)
  (seqS (ifS (vB (bi2 (M.bind (argsV [(lstV (argsV [(callM p_room [] [false, false, false] (argsV [(vVar 2), (vVar 3), (vVar 6)])), (callKM p_room [] [false, false, false] [2, 1, 0] (M.ret []) (argsV [(vVar 6), (vVar 3), (vVar 2)]))]))]) (un1 reprR)) (M.bind (argsV [(lstV (argsV [(vVar 7), (vVar 7)]))]) (un1 reprR)) (look2 neR))) (seqS (retS (vC (.bool false)))
  skipS) skipS)
  skipS))))
noncomputable def f__law_right : M Fl := (seqS (unpS [0] (.t [(.n 2), (.n 3)]) (callM p__law_web [0] [true, false, false] (argsV [(vVar 0), (bi2 (vVar 1) (vC (.int 0)) ixF), (bi2 (vVar 1) (vC (.int 1)) ixF)])))
  (seqS (asgS [0] 4 (callM p__law_table [] [false, false, false] (argsV [(vVar 2), (vVar 3), (vC (.int 19))])))
  (seqS (forS [0] (argI (argsV [(M.bind (argsV [(vC (.int 3)), (M.bind (argsV [(bi2 (vVar 2) (vC (.int 1)) ixF)]) (un1 lenR))]) (un2 min2R))]) rngK1) (.n 5) b__law_right_3)
  (seqS (retS (bi2 (callM p_room [] [false, false, false] (argsV [(tupV (argsV [(vC (.int 3)), (tupV (argsV [(tupV (argsV [(vC (.int 1)), (vC (.int 0)), (vC (.int 1))])), (tupV (argsV [(vC (.int 2)), (vC (.int 1)), (vC (.int 2))]))]))])), (vC (.str "strict")), (vC (.int 1))])) (vC (.int 18)) (look2 eqR)))
  skipS))))
noncomputable def p__law_right : Fn := runD N__law_right.length [0] f__law_right
noncomputable def b_law_1 : M Fl := (seqS (ifS (notT (vT (callM p__law_right [0] [true, false] (argsV [(vVar 2), (vVar 3)])))) (seqS (retS (vC (.bool false)))
  skipS) skipS)
  skipS)
noncomputable def b_law_2 : M Fl := (seqS (asgS [] 2 (callM p__law_pool [] [false, false] (argsV [(vVar 0), (vVar 1)])))
  (seqS (forS [] (seqI (lstV (argsV [(tupV (argsV [(vC (.int 4)), (vC (.int 6))])), (tupV (argsV [(vC (.int 4)), (vC (.int 5))])), (tupV (argsV [(vC (.int 3)), (vC (.int 6))])), (tupV (argsV [(vC (.int 5)), (vC (.int 5))])), (tupV (argsV [(vC (.int 3)), (vC (.int 4))]))]))) (.n 3) b_law_1)
  skipS))
noncomputable def f_law : M Fl := (seqS (forS [] (argI (argsV [(M.bind (argsV [(vC (.int 2)), (M.bind (argsV [(M.bind (argsV [(vVar 0)]) (un1 lenR)), (vC (.int 3))]) (un2 min2R))]) (un2 max2R))]) rngK1) (.n 1) b_law_2)
  (seqS (retS (vC (.bool true)))
  skipS))
noncomputable def p_law : Fn := runD N_law.length [] f_law
/-! the globals -/
structure Txt (K : PySem.W.Frag) (mg : Str → Option Value) (F0 : Hp) : Prop where
  n_abs : mg "abs" = none
  n_all : mg "all" = none
  n_bool : mg "bool" = none
  n_divmod : mg "divmod" = none
  n_enumerate : mg "enumerate" = none
  n_int : mg "int" = none
  n_isinstance : mg "isinstance" = none
  n_len : mg "len" = none
  n_list : mg "list" = none
  n_max : mg "max" = none
  n_min : mg "min" = none
  n_range : mg "range" = none
  n_repr : mg "repr" = none
  n_set : mg "set" = none
  n_sorted : mg "sorted" = none
  n_str : mg "str" = none
  n_sum : mg "sum" = none
  n_tuple : mg "tuple" = none
  g_FEWEST_PLACES : GDat K mg F0 "FEWEST_PLACES" (.int 2)
  g_KINDS : GDat K mg F0 "KINDS" (.tuple [(.str "strict"), (.str "loose")])
  g_MOST_MEETINGS : GDat K mg F0 "MOST_MEETINGS" (.int 12)
  g_MOST_PLACES : GDat K mg F0 "MOST_PLACES" (.int 6)
  g_MOST_TIME : GDat K mg F0 "MOST_TIME" (.int 20)
  g_STRICT : GDat K mg F0 "STRICT" (.str "strict")
section
variable {P : Program} {w : World} {K : PySem.W.Frag} {mg : Str → Option Value} {base : Heap} {T0 : Top0}
theorem ok__law_pool [Tbi : Tabl] (h0 : Tbi.fx = []) (hT : TopI T0 Tbi) (T : Txt K mg T0.F) {f : Addr} {fd : FuncData} (F : L2.Fun K "_law_pool" "_law_pool" s__law_pool f fd) :
    FnG P w K mg base L2.CX0 1 f fd ["script", "k"] (spM K mg 2 [] p__law_pool) := by
  haveI : FxG [] := fxg0 h0
  have fxn : ∀ vs : List Nat, ∀ j ∈ Tbi.fx, j ∉ vs := fun vs => fxn0 h0
  refine okG (k := 0) h0 F sc__law_pool (by decide) (by decide) fun cdv A outer s H E hr hgd => ?_
  have hu1 := L2.hu_of hr; have hu64 := hr.units; have hu70 := hu_70 hr; have hu65 := hu_65 hr
  exact (ds_cons (ds_par2 (i := 2) (j := 3) rfl sc__law_pool.nd rfl rfl (by decide) rfl rfl (da_cons (de_callB (L2.cr_sum rfl) vr_sum (by rfl) T.n_sum boot_sum (da_cons (de_slice (de_var (i := 0) rfl (vis_by rfl) (by decide) (by decide)) (do_some (de_var (i := 1) rfl (vis_by rfl) (by decide) (by decide))) (do_some (de_op or_add op2_add (de_var (i := 1) rfl (vis_by rfl) (by decide) (by decide)) de_int))) da_nil rfl) (by decide) (by decide) rfl rfl) (da_cons (de_op or_add op2_add de_int (de_op or_mul op2_mul de_int (de_var (i := 1) rfl (vis_by rfl) (by decide) (by decide)))) da_nil rfl) rfl) rfl rfl)
    (ds_cons (ds_set (i := 4) sc__law_pool.nd rfl (loc_by rfl) (de_op or_mul op2_mul (de_op or_mul op2_mul (de_op or_mul op2_mul (de_op or_mul op2_mul (de_op or_mul op2_mul (de_op L2.op_pow op2_pow de_int de_int) (de_op L2.op_pow op2_pow de_int de_int)) (de_op L2.op_pow op2_pow de_int de_int)) (de_op L2.op_pow op2_pow de_int de_int)) (de_op L2.op_pow op2_pow de_int de_int)) (de_op L2.op_pow op2_pow de_int de_int)) rfl (.inl rfl))
    (ds_cons (ds_for PassesOwn.never rfl (di_seq (de_slice (de_var (i := 0) rfl (vis_by rfl) (by decide) (by decide)) do_none (do_some de_int))) (dg_name (i := 5) sc__law_pool.nd rfl (loc_by rfl) (.inl rfl)) (ds_cons (ds_set (i := 3) sc__law_pool.nd rfl (loc_by rfl) (de_op L2.op_modN op2_mod (de_op or_add op2_add (de_op or_add op2_add (de_op or_mul op2_mul (de_var (i := 3) rfl (vis_by rfl) (by decide) (by decide)) de_int) (de_op or_mul op2_mul (de_op L2.op_modN op2_mod (de_var (i := 5) rfl (vis_by rfl) (by decide) (by decide)) de_int) de_int)) de_int) de_int) rfl (.inl rfl))
    ds_nil) (fun _ => rfl))
    (ds_cons (ds_ret (de_lst (da_cons (de_if (dw_or (dt_cmp (or_lt hu64) op2_ord (de_var (i := 2) rfl (vis_by rfl) (by decide) (by decide)) de_int rfl) (dw_or1 (dt_cmp (or_ge hu64) op2_ord (de_var (i := 2) rfl (vis_by rfl) (by decide) (by decide)) (de_op L2.op_pow op2_pow de_int de_int) rfl))).pt (de_op L2.op_modN op2_mod (de_callB L2.call_abs vr_abs (by rfl) T.n_abs boot_abs (da_cons (de_var (i := 2) rfl (vis_by rfl) (by decide) (by decide)) da_nil rfl) (by decide) (by decide) rfl rfl) (de_var (i := 4) rfl (vis_by rfl) (by decide) (by decide))) de_int) (da_cons (de_var (i := 3) rfl (vis_by rfl) (by decide) (by decide)) (da_cons de_int da_nil rfl) rfl) rfl)))
    ds_nil))))
theorem ok__law_take [Tbi : Tabl] (h0 : Tbi.fx = []) (hT : TopI T0 Tbi) (T : Txt K mg T0.F) {f : Addr} {fd : FuncData} (F : L2.Fun K "_law_take" "_law_take" s__law_take f fd) :
    FnG P w K mg base L2.CX0 1 f fd ["pool", "many"] (spM K mg 2 [0] p__law_take) := by
  haveI : FxG [0] := fxg0 h0
  have fxn : ∀ vs : List Nat, ∀ j ∈ Tbi.fx, j ∉ vs := fun vs => fxn0 h0
  refine okG (k := 0) h0 F sc__law_take (by decide) (by decide) fun cdv A outer s H E hr hgd => ?_
  have hu1 := L2.hu_of hr; have hu64 := hr.units; have hu70 := hu_70 hr; have hu65 := hu_65 hr
  exact (ds_cons (ds_if (dt_cmp (or_gt hu64) op2_ord (de_ix hu1 (de_var (i := 0) rfl (vis_by rfl) (by decide) (by decide)) de_int (fun _ _ => rfl)) de_int rfl) (ds_cons (ds_unp (de_callB L2.call_divmod vr_divmod (by rfl) T.n_divmod boot_divmod (da_cons (de_ix hu1 (de_var (i := 0) rfl (vis_by rfl) (by decide) (by decide)) de_int (fun _ _ => rfl)) (da_cons (de_var (i := 1) rfl (vis_by rfl) (by decide) (by decide)) da_nil rfl) rfl) (by decide) (by decide) rfl rfl) (dg_tup (n := 2) rfl (dgs_cons (dg_sub (mg := mg) (E := E) hu1 (de_var (i := 0) rfl (vis_by rfl) (by decide) (by decide)) de_int (fun _ => rfl)) (dgs_cons (dg_name (i := 2) sc__law_take.nd rfl (loc_by rfl) (.inl rfl)) dgs_nil rfl) rfl) rfl rfl rfl) rfl rfl rfl)
    (ds_cons (ds_ret (de_var (i := 2) rfl (vis_by rfl) (by decide) (by decide)))
    ds_nil)) ds_nil)
    (ds_cons (ds_setSub hu1 (de_op or_add op2_add (de_ix hu1 (de_var (i := 0) rfl (vis_by rfl) (by decide) (by decide)) de_int (fun _ _ => rfl)) de_int) (de_var (i := 0) rfl (vis_by rfl) (by decide) (by decide)) de_int (fun _ => rfl) rfl rfl rfl)
    (ds_cons (ds_set (i := 3) sc__law_take.nd rfl (loc_by rfl) (de_op L2.op_modN op2_mod (de_op or_add op2_add (de_ix hu1 (de_var (i := 0) rfl (vis_by rfl) (by decide) (by decide)) de_int (fun _ _ => rfl)) (de_op or_mul op2_mul de_int (de_ix hu1 (de_var (i := 0) rfl (vis_by rfl) (by decide) (by decide)) de_int (fun _ _ => rfl)))) de_int) rfl (.inl rfl))
    (ds_cons (ds_setSub hu1 (de_op L2.op_modN op2_mod (de_op or_add op2_add (de_op or_mul op2_mul (de_var (i := 3) rfl (vis_by rfl) (by decide) (by decide)) (de_op or_add op2_add (de_op L2.op_modN op2_mod (de_var (i := 3) rfl (vis_by rfl) (by decide) (by decide)) de_int) de_int)) (de_op or_mul op2_mul de_int (de_ix hu1 (de_var (i := 0) rfl (vis_by rfl) (by decide) (by decide)) de_int (fun _ _ => rfl)))) de_int) (de_var (i := 0) rfl (vis_by rfl) (by decide) (by decide)) de_int (fun _ => rfl) rfl rfl rfl)
    (ds_cons (ds_ret (de_op L2.op_modN op2_mod (de_op L2.op_fdivW op2_div (de_ix hu1 (de_var (i := 0) rfl (vis_by rfl) (by decide) (by decide)) de_int (fun _ _ => rfl)) de_int) (de_var (i := 1) rfl (vis_by rfl) (by decide) (by decide))))
    ds_nil)))))
theorem ok__law_of [Tbi : Tabl] (h0 : Tbi.fx = []) (hT : TopI T0 Tbi) (T : Txt K mg T0.F) (d__law_take : DefOk P w K mg base T0 "_law_take" 1 2 [0] p__law_take) {f : Addr} {fd : FuncData} (F : L2.Fun K "_law_of" "_law_of" s__law_of f fd) :
    FnG P w K mg base L2.CX0 2 f fd ["pool", "some"] (spM K mg 2 [0] p__law_of) := by
  haveI : FxG [0] := fxg0 h0
  have fxn : ∀ vs : List Nat, ∀ j ∈ Tbi.fx, j ∉ vs := fun vs => fxn0 h0
  refine okG (k := 1) h0 F sc__law_of (by decide) (by decide) fun cdv A outer s H E hr hgd => ?_
  have hu1 := L2.hu_of hr; have hu64 := hr.units; have hu70 := hu_70 hr; have hu65 := hu_65 hr
  exact (ds_cons (ds_ret (de_ix hu1 (de_var (i := 1) rfl (vis_by rfl) (by decide) (by decide)) (de_def d__law_take hT (by decide) rfl hr hgd (by rfl) (da_cons (de_var (i := 0) rfl (vis_by rfl) (by decide) (by decide)) (da_cons (de_callB cr_len vr_len (by rfl) T.n_len boot_len (da_cons (de_var (i := 1) rfl (vis_by rfl) (by decide) (by decide)) da_nil rfl) (by decide) (by decide) rfl rfl) da_nil rfl) rfl) (by decide) rfl rfl) (fun _ _ => rfl)))
    ds_nil)
theorem ok__law_web [Tbi : Tabl] (h0 : Tbi.fx = []) (hT : TopI T0 Tbi) (T : Txt K mg T0.F) (d__law_of : DefOk P w K mg base T0 "_law_of" 2 2 [0] p__law_of) (d__law_take : DefOk P w K mg base T0 "_law_take" 1 2 [0] p__law_take) {f : Addr} {fd : FuncData} (F : L2.Fun K "_law_web" "_law_web" s__law_web f fd) :
    FnG P w K mg base L2.CX0 3 f fd ["pool", "most", "many"] (spM K mg 3 [0] p__law_web) := by
  haveI : FxG [0] := fxg0 h0
  have fxn : ∀ vs : List Nat, ∀ j ∈ Tbi.fx, j ∉ vs := fun vs => fxn0 h0
  refine okG (k := 2) h0 F sc__law_web (by decide) (by decide) fun cdv A outer s H E hr hgd => ?_
  have hu1 := L2.hu_of hr; have hu64 := hr.units; have hu70 := hu_70 hr; have hu65 := hu_65 hr
  exact (ds_cons (ds_par3 (i := 3) (j := 4) (l := 5) rfl sc__law_web.nd rfl rfl rfl (by decide) (by decide) (by decide) rfl rfl rfl (da_cons (de_op or_add op2_add de_int (de_def d__law_take hT (by decide) rfl hr hgd (by rfl) (da_cons (de_var (i := 0) rfl (vis_by rfl) (by decide) (by decide)) (da_cons (de_op L2.op_sub op2_sub (de_var (i := 1) rfl (vis_by rfl) (by decide) (by decide)) de_int) da_nil rfl) rfl) (by decide) rfl rfl)) (da_cons de_dnewT (da_cons (de_def d__law_of hT (by decide) rfl hr hgd (by rfl) (da_cons (de_var (i := 0) rfl (vis_by rfl) (by decide) (by decide)) (da_cons (de_lst (da_cons de_int (da_cons de_int (da_cons de_int (da_cons de_int da_nil rfl) rfl) rfl) rfl)) da_nil rfl) rfl) (by decide) rfl rfl) da_nil rfl) rfl) rfl) rfl rfl)
    (ds_cons (ds_for PassesOwn.never rfl (di_range1 (by rfl) T.n_range (da_cons (de_def d__law_take hT (by decide) rfl hr hgd (by rfl) (da_cons (de_var (i := 0) rfl (vis_by rfl) (by decide) (by decide)) (da_cons (de_op or_add op2_add (de_var (i := 2) rfl (vis_by rfl) (by decide) (by decide)) de_int) da_nil rfl) rfl) (by decide) rfl rfl) da_nil rfl) rfl) (dg_name (i := 6) sc__law_web.nd rfl (loc_by rfl) (.inl rfl)) (ds_cons (ds_set (i := 7) sc__law_web.nd rfl (loc_by rfl) (de_def d__law_take hT (by decide) rfl hr hgd (by rfl) (da_cons (de_var (i := 0) rfl (vis_by rfl) (by decide) (by decide)) (da_cons (de_var (i := 3) rfl (vis_by rfl) (by decide) (by decide)) da_nil rfl) rfl) (by decide) rfl rfl) rfl (.inl rfl))
    (ds_cons (ds_set (i := 8) sc__law_web.nd rfl (loc_by rfl) (de_op L2.op_modN op2_mod (de_op or_add op2_add (de_op or_add op2_add (de_var (i := 7) rfl (vis_by rfl) (by decide) (by decide)) de_int) (de_def d__law_take hT (by decide) rfl hr hgd (by rfl) (da_cons (de_var (i := 0) rfl (vis_by rfl) (by decide) (by decide)) (da_cons (de_op L2.op_sub op2_sub (de_var (i := 3) rfl (vis_by rfl) (by decide) (by decide)) de_int) da_nil rfl) rfl) (by decide) rfl rfl)) (de_var (i := 3) rfl (vis_by rfl) (by decide) (by decide))) rfl (.inl rfl))
    (ds_cons (ds_setSub hu1 de_bl (de_var (i := 4) rfl (vis_by rfl) (by decide) (by decide)) (de_tup (da_cons (de_op or_add op2_add de_int (de_def d__law_take hT (by decide) rfl hr hgd (by rfl) (da_cons (de_var (i := 0) rfl (vis_by rfl) (by decide) (by decide)) (da_cons (de_var (i := 5) rfl (vis_by rfl) (by decide) (by decide)) da_nil rfl) rfl) (by decide) rfl rfl)) (da_cons (de_callB (L2.call_min2 rfl) vr_min2 (by rfl) T.n_min boot_min (da_cons (de_var (i := 7) rfl (vis_by rfl) (by decide) (by decide)) (da_cons (de_var (i := 8) rfl (vis_by rfl) (by decide) (by decide)) da_nil rfl) rfl) (by decide) (by decide) rfl rfl) (da_cons (de_callB (L2.call_max2 rfl) vr_max2 (by rfl) T.n_max boot_max (da_cons (de_var (i := 7) rfl (vis_by rfl) (by decide) (by decide)) (da_cons (de_var (i := 8) rfl (vis_by rfl) (by decide) (by decide)) da_nil rfl) rfl) (by decide) (by decide) rfl rfl) da_nil rfl) rfl) rfl)) (fun _ => rfl) rfl rfl rfl)
    ds_nil))) (fun _ => rfl))
    (ds_cons (ds_ret (de_tup (da_cons (de_tup (da_cons (de_var (i := 3) rfl (vis_by rfl) (by decide) (by decide)) (da_cons (de_callTy L2.call_tuple_of vr_tuple (by rfl) T.n_tuple boot_tuple (da_cons (de_callB (cr_sortAll rfl hu70) vr_sorted (by rfl) T.n_sorted boot_sorted (da_cons (de_var (i := 4) rfl (vis_by rfl) (by decide) (by decide)) da_nil rfl) (by decide) (by decide) rfl rfl) da_nil rfl) (by decide) (by decide) rfl rfl) da_nil rfl) rfl)) (da_cons (de_def d__law_of hT (by decide) rfl hr hgd (by rfl) (da_cons (de_var (i := 0) rfl (vis_by rfl) (by decide) (by decide)) (da_cons (de_lst (da_cons de_str (da_cons de_str da_nil rfl) rfl)) da_nil rfl) rfl) (by decide) rfl rfl) da_nil rfl) rfl)))
    ds_nil)))
theorem ok__law_table [Tbi : Tabl] (h0 : Tbi.fx = []) (hT : TopI T0 Tbi) (T : Txt K mg T0.F) {f : Addr} {fd : FuncData} (F : L2.Fun K "_law_table" "_law_table" s__law_table f fd) :
    FnG P w K mg base L2.CX0 1 f fd ["web", "kind", "patience"] (spM K mg 3 [] p__law_table) := by
  haveI : FxG [] := fxg0 h0
  have fxn : ∀ vs : List Nat, ∀ j ∈ Tbi.fx, j ∉ vs := fun vs => fxn0 h0
  refine okG (k := 0) h0 F sc__law_table (by decide) (by decide) fun cdv A outer s H E hr hgd => ?_
  have hu1 := L2.hu_of hr; have hu64 := hr.units; have hu70 := hu_70 hr; have hu65 := hu_65 hr
  exact (ds_cons (ds_set (i := 3) sc__law_table.nd rfl (loc_by rfl) (de_lst da_nil) rfl (.inl rfl))
    (ds_cons (ds_for PassesOwn.never rfl (di_range1 (by rfl) T.n_range (da_cons (de_ix hu1 (de_var (i := 0) rfl (vis_by rfl) (by decide) (by decide)) de_int (fun _ _ => rfl)) da_nil rfl) rfl) (dg_name (i := 4) sc__law_table.nd rfl (loc_by rfl) (.inl rfl)) (ds_cons (ds_par2 (i := 5) (j := 6) rfl sc__law_table.nd rfl rfl (by decide) rfl rfl (da_cons (de_lst (da_cons (de_var (i := 4) rfl (vis_by rfl) (by decide) (by decide)) da_nil rfl)) (da_cons (de_lst (da_cons (de_tup (da_cons (de_tup da_nil) (da_cons (de_tup (da_cons (de_var (i := 4) rfl (vis_by rfl) (by decide) (by decide)) da_nil rfl)) da_nil rfl) rfl)) da_nil rfl)) da_nil rfl) rfl) rfl rfl)
    (ds_cons (ds_whileW PassesOwn.never (dt_cmp (L2.op_neD hu64) op2_ne (de_var (i := 6) rfl (vis_by rfl) (by decide) (by decide)) (de_lst da_nil) rfl) (ds_cons (ds_unp (de_bm0 PySem.F.plainAttrs_list PySem.F.slot_list_pop PySem.F.type_list_pop mt_popAll mv_pop (de_var (i := 6) rfl (vis_by rfl) (by decide) (by decide)) rfl rfl) (dg_tup (n := 2) rfl (dgs_cons (dg_name (i := 7) sc__law_table.nd rfl (loc_by rfl) (.inl rfl)) (dgs_cons (dg_name (i := 8) sc__law_table.nd rfl (loc_by rfl) (.inl rfl)) dgs_nil rfl) rfl) rfl rfl rfl) rfl rfl rfl)
    (ds_cons (ds_set (i := 9) sc__law_table.nd rfl (loc_by rfl) (de_if (dt_cmp (L2.op_neD hu64) op2_ne (de_var (i := 7) rfl (vis_by rfl) (by decide) (by decide)) (de_tup da_nil) rfl) (de_ix hu1 (de_ix hu1 (de_ix hu1 (de_var (i := 0) rfl (vis_by rfl) (by decide) (by decide)) de_int (fun _ _ => rfl)) (de_ix hu1 (de_var (i := 7) rfl (vis_by rfl) (by decide) (by decide)) (de_neg de_int) (fun _ _ => rfl)) (fun _ _ => rfl)) de_int (fun _ _ => rfl)) de_int) rfl (.inl rfl))
    (ds_cons (ds_for PassesOwn.never rfl (di_range1 (by rfl) T.n_range (da_cons (de_callB cr_len vr_len (by rfl) T.n_len boot_len (da_cons (de_ix hu1 (de_var (i := 0) rfl (vis_by rfl) (by decide) (by decide)) de_int (fun _ _ => rfl)) da_nil rfl) (by decide) (by decide) rfl rfl) da_nil rfl) rfl) (dg_name (i := 10) sc__law_table.nd rfl (loc_by rfl) (.inl rfl)) (ds_cons (ds_unp (de_ix hu1 (de_ix hu1 (de_var (i := 0) rfl (vis_by rfl) (by decide) (by decide)) de_int (fun _ _ => rfl)) (de_var (i := 10) rfl (vis_by rfl) (by decide) (by decide)) (fun _ _ => rfl)) (dg_tup (n := 3) rfl (dgs_cons (dg_name (i := 11) sc__law_table.nd rfl (loc_by rfl) (.inl rfl)) (dgs_cons (dg_name (i := 12) sc__law_table.nd rfl (loc_by rfl) (.inl rfl)) (dgs_cons (dg_name (i := 13) sc__law_table.nd rfl (loc_by rfl) (.inl rfl)) dgs_nil rfl) rfl) rfl) rfl rfl rfl) rfl rfl rfl)
    (ds_cons (ds_set (i := 14) sc__law_table.nd rfl (loc_by rfl) (de_or (de_cmp (or_gt hu64) op2_ord (de_var (i := 11) rfl (vis_by rfl) (by decide) (by decide)) (de_var (i := 9) rfl (vis_by rfl) (by decide) (by decide)) rfl) (de_one (de_and (de_cmp (L2.op_eqD hu64) op2_eq (de_var (i := 11) rfl (vis_by rfl) (by decide) (by decide)) (de_var (i := 9) rfl (vis_by rfl) (by decide) (by decide)) rfl) (de_one (de_cmp (L2.op_eqD hu64) op2_eq (de_var (i := 1) rfl (vis_by rfl) (by decide) (by decide)) de_str rfl))))) rfl (.inl rfl))
    (ds_cons (ds_if (dw_and (dt_cmp (or_in hu65) op2_in (de_ix hu1 (de_var (i := 8) rfl (vis_by rfl) (by decide) (by decide)) (de_neg de_int) (fun _ _ => rfl)) (de_lst (da_cons (de_var (i := 12) rfl (vis_by rfl) (by decide) (by decide)) (da_cons (de_var (i := 13) rfl (vis_by rfl) (by decide) (by decide)) da_nil rfl) rfl)) rfl) (dw_and (dt_val (de_var (i := 14) rfl (vis_by rfl) (by decide) (by decide)) (fun _ => rfl)) (dw_and1 (dw_or (dt_cmp (L2.op_eqD hu64) op2_eq (de_var (i := 7) rfl (vis_by rfl) (by decide) (by decide)) (de_tup da_nil) rfl) (dw_or1 (dt_cmp (or_le hu64) op2_ord (de_op L2.op_sub op2_sub (de_var (i := 11) rfl (vis_by rfl) (by decide) (by decide)) (de_var (i := 9) rfl (vis_by rfl) (by decide) (by decide))) (de_var (i := 2) rfl (vis_by rfl) (by decide) (by decide)) rfl))).pt))).pt (ds_cons (ds_set (i := 15) sc__law_table.nd rfl (loc_by rfl) (de_op L2.op_sub op2_sub (de_op or_add op2_add (de_var (i := 12) rfl (vis_by rfl) (by decide) (by decide)) (de_var (i := 13) rfl (vis_by rfl) (by decide) (by decide))) (de_ix hu1 (de_var (i := 8) rfl (vis_by rfl) (by decide) (by decide)) (de_neg de_int) (fun _ _ => rfl))) rfl (.inl rfl))
    (ds_cons (ds_if (dt_cmp (or_notIn hu65) op2_in (de_var (i := 15) rfl (vis_by rfl) (by decide) (by decide)) (de_var (i := 8) rfl (vis_by rfl) (by decide) (by decide)) rfl) (ds_cons (ds_expr (de_bm PySem.F.plainAttrs_list PySem.F.slot_list_append PySem.F.type_list_append L2.mt_append mv_append (de_var (i := 5) rfl (vis_by rfl) (by decide) (by decide)) (da_cons (de_var (i := 15) rfl (vis_by rfl) (by decide) (by decide)) da_nil rfl) rfl rfl rfl rfl rfl) rfl)
    (ds_cons (ds_expr (de_bm PySem.F.plainAttrs_list PySem.F.slot_list_append PySem.F.type_list_append L2.mt_append mv_append (de_var (i := 6) rfl (vis_by rfl) (by decide) (by decide)) (da_cons (de_tup (da_cons (de_op or_add op2_add (de_var (i := 7) rfl (vis_by rfl) (by decide) (by decide)) (de_tup (da_cons (de_var (i := 10) rfl (vis_by rfl) (by decide) (by decide)) da_nil rfl))) (da_cons (de_op or_add op2_add (de_var (i := 8) rfl (vis_by rfl) (by decide) (by decide)) (de_tup (da_cons (de_var (i := 15) rfl (vis_by rfl) (by decide) (by decide)) da_nil rfl))) da_nil rfl) rfl)) da_nil rfl) rfl rfl rfl rfl rfl) rfl)
    ds_nil)) ds_nil)
    ds_nil)) ds_nil)
    ds_nil))) (fun _ => rfl))
    ds_nil))))
    (ds_cons (ds_expr (de_bm PySem.F.plainAttrs_list PySem.F.slot_list_append PySem.F.type_list_append L2.mt_append mv_append (de_var (i := 3) rfl (vis_by rfl) (by decide) (by decide)) (da_cons (de_callTy L2.call_tuple_of vr_tuple (by rfl) T.n_tuple boot_tuple (da_cons (de_sortSet rfl (de_var (i := 5) rfl (vis_by rfl) (by decide) (by decide)) (by rfl) T.n_sorted (by rfl) T.n_set rfl) da_nil rfl) (by decide) (by decide) rfl rfl) da_nil rfl) rfl rfl rfl rfl rfl) rfl)
    ds_nil))) (fun _ => rfl))
    (ds_cons (ds_ret (de_callTy L2.call_tuple_of vr_tuple (by rfl) T.n_tuple boot_tuple (da_cons (de_var (i := 3) rfl (vis_by rfl) (by decide) (by decide)) da_nil rfl) (by decide) (by decide) rfl rfl))
    ds_nil)))
theorem ok_first_wrong [Tbi : Tabl] (hT : TopI T0 Tbi) (T : Txt K mg T0.F) {f : Addr} {fd : FuncData} (F : L2.Fun K "first_wrong" "first_wrong" s_first_wrong f fd) :
    HDef P w K mg base L2.CX0 7 5 2 f fd ["value", "is_right"] 1 p_first_wrong := by
  refine okH (k := 6) F sc_first_wrong rfl fun t lam cdv A outer s H E hT1 hF hx hr hgd hh => ?_
  have hT : TopI T0 t := ⟨hT1.trans hT.1, hT.2.trans hF⟩
  haveI : FxG [1] := ⟨fun j hj => by rw [hx] at hj; exact hj⟩
  have hrl : Room 5 _ := hr.mono (by decide)
  have hu1 := L2.hu_of hr; have hu64 := hr.units; have hu70 := hu_70 hr; have hu65 := hu_65 hr
  exact (ds_cons (ds_for PassesOwn.never rfl (di_enum (by rfl) T.n_enumerate (da_cons (de_var (i := 0) rfl (vis_by rfl) (by decide) (by decide)) da_nil rfl) rfl) (dg_tup (n := 2) rfl (dgs_cons (dg_name (i := 2) sc_first_wrong.nd rfl (loc_by rfl) (.inl rfl)) (dgs_cons (dg_name (i := 3) sc_first_wrong.nd rfl (loc_by rfl) (.inl rfl)) dgs_nil rfl) rfl) rfl rfl rfl) (ds_cons (ds_if (dt_not (dt_val (de_fncall hh rfl hrl hgd passT rfl (vis_by rfl) (by decide) (by decide) (da_cons (de_var (i := 3) rfl (vis_by rfl) (by decide) (by decide)) (da_cons (de_slice (de_var (i := 0) rfl (vis_by rfl) (by decide) (by decide)) do_none (do_some (de_var (i := 2) rfl (vis_by rfl) (by decide) (by decide)))) da_nil rfl) rfl) rfl rfl) (fun _ => rfl))) (ds_cons (ds_ret (de_var (i := 2) rfl (vis_by rfl) (by decide) (by decide)))
    ds_nil) ds_nil)
    ds_nil) (fun _ => rfl))
    (ds_cons (ds_ret de_non)
    ds_nil))
theorem ok_is_tuple_of [Tbi : Tabl] (h0 : Tbi.fx = []) (hT : TopI T0 Tbi) (T : Txt K mg T0.F) {f : Addr} {fd : FuncData} (F : L2.Fun K "is_tuple_of" "is_tuple_of" s_is_tuple_of f fd) :
    FnG P w K mg base L2.CX0 1 f fd ["value", "many"] (spM K mg 2 [] p_is_tuple_of) := by
  haveI : FxG [] := fxg0 h0
  have fxn : ∀ vs : List Nat, ∀ j ∈ Tbi.fx, j ∉ vs := fun vs => fxn0 h0
  refine okG (k := 0) h0 F sc_is_tuple_of (by decide) (by decide) fun cdv A outer s H E hr hgd => ?_
  have hu1 := L2.hu_of hr; have hu64 := hr.units; have hu70 := hu_70 hr; have hu65 := hu_65 hr
  exact (ds_cons (ds_ret (de_and (de_isa (T := "tuple") (de_var (i := 0) rfl (vis_by rfl) (by decide) (by decide)) (by rfl) T.n_isinstance (by rfl) T.n_tuple boot_tuple (by decide) (by decide) rfl) (de_one (de_cmp (L2.op_eqD hu64) op2_eq (de_callB cr_len vr_len (by rfl) T.n_len boot_len (da_cons (de_var (i := 0) rfl (vis_by rfl) (by decide) (by decide)) da_nil rfl) (by decide) (by decide) rfl rfl) (de_var (i := 1) rfl (vis_by rfl) (by decide) (by decide)) rfl))))
    ds_nil)
theorem ok_is_whole [Tbi : Tabl] (h0 : Tbi.fx = []) (hT : TopI T0 Tbi) (T : Txt K mg T0.F) {f : Addr} {fd : FuncData} (F : L2.Fun K "is_whole" "is_whole" s_is_whole f fd) :
    FnG P w K mg base L2.CX0 1 f fd ["value"] (spM K mg 1 [] p_is_whole) := by
  haveI : FxG [] := fxg0 h0
  have fxn : ∀ vs : List Nat, ∀ j ∈ Tbi.fx, j ∉ vs := fun vs => fxn0 h0
  refine okG (k := 0) h0 F sc_is_whole (by decide) (by decide) fun cdv A outer s H E hr hgd => ?_
  have hu1 := L2.hu_of hr; have hu64 := hr.units; have hu70 := hu_70 hr; have hu65 := hu_65 hr
  exact (ds_cons (ds_ret (de_and (de_isa (T := "int") (de_var (i := 0) rfl (vis_by rfl) (by decide) (by decide)) (by rfl) T.n_isinstance (by rfl) T.n_int boot_int (by decide) (by decide) rfl) (de_one (de_not (de_isa (T := "bool") (de_var (i := 0) rfl (vis_by rfl) (by decide) (by decide)) (by rfl) T.n_isinstance (by rfl) T.n_bool boot_bool (by decide) (by decide) rfl)))))
    ds_nil)
theorem ok_is_between [Tbi : Tabl] (h0 : Tbi.fx = []) (hT : TopI T0 Tbi) (T : Txt K mg T0.F) (d_is_whole : DefOk P w K mg base T0 "is_whole" 1 1 [] p_is_whole) {f : Addr} {fd : FuncData} (F : L2.Fun K "is_between" "is_between" s_is_between f fd) :
    FnG P w K mg base L2.CX0 2 f fd ["value", "least", "most"] (spM K mg 3 [] p_is_between) := by
  haveI : FxG [] := fxg0 h0
  have fxn : ∀ vs : List Nat, ∀ j ∈ Tbi.fx, j ∉ vs := fun vs => fxn0 h0
  refine okG (k := 1) h0 F sc_is_between (by decide) (by decide) fun cdv A outer s H E hr hgd => ?_
  have hu1 := L2.hu_of hr; have hu64 := hr.units; have hu70 := hu_70 hr; have hu65 := hu_65 hr
  exact (ds_cons (ds_ret (de_and (de_def d_is_whole hT (by decide) rfl hr hgd (by rfl) (da_cons (de_var (i := 0) rfl (vis_by rfl) (by decide) (by decide)) da_nil rfl) (by decide) rfl rfl) (de_one (de_chain (or_le hu64) op2_ord (or_le hu64) op2_ord (de_var (i := 1) rfl (vis_by rfl) (by decide) (by decide)) (de_var (i := 0) rfl (vis_by rfl) (by decide) (by decide)) (de_var (i := 2) rfl (vis_by rfl) (by decide) (by decide)) (by decide) (by decide)))))
    ds_nil)
theorem ok_is_triple [Tbi : Tabl] (h0 : Tbi.fx = []) (hT : TopI T0 Tbi) (T : Txt K mg T0.F) (d_is_tuple_of : DefOk P w K mg base T0 "is_tuple_of" 1 2 [] p_is_tuple_of) (d_is_between : DefOk P w K mg base T0 "is_between" 2 3 [] p_is_between) {f : Addr} {fd : FuncData} (F : L2.Fun K "is_triple" "is_triple" s_is_triple f fd) :
    FnG P w K mg base L2.CX0 3 f fd ["places", "value"] (spM K mg 2 [] p_is_triple) := by
  haveI : FxG [] := fxg0 h0
  have fxn : ∀ vs : List Nat, ∀ j ∈ Tbi.fx, j ∉ vs := fun vs => fxn0 h0
  refine okG (k := 2) h0 F sc_is_triple (by decide) (by decide) fun cdv A outer s H E hr hgd => ?_
  have hu1 := L2.hu_of hr; have hu64 := hr.units; have hu70 := hu_70 hr; have hu65 := hu_65 hr
  exact (ds_cons (ds_if (dw_or (dt_not (dt_val (de_def d_is_tuple_of hT (by decide) rfl hr hgd (by rfl) (da_cons (de_var (i := 1) rfl (vis_by rfl) (by decide) (by decide)) (da_cons de_int da_nil rfl) rfl) (by decide) rfl rfl) (fun _ => rfl))) (dw_or1 (dt_not (dt_val (de_def d_is_between hT (by decide) rfl hr hgd (by rfl) (da_cons (de_ix hu1 (de_var (i := 1) rfl (vis_by rfl) (by decide) (by decide)) de_int (fun _ _ => rfl)) (da_cons de_int (da_cons (de_g hT (by rfl) T.g_MOST_TIME (by decide)) da_nil rfl) rfl) rfl) (by decide) rfl rfl) (fun _ => rfl))))).pt (ds_cons (ds_ret de_bl)
    ds_nil) ds_nil)
    (ds_cons (ds_ret (de_and (de_callB (L2.cr_all rfl) vr_all (by rfl) T.n_all boot_all (da_cons (de_lc (own := [("place", 2)]) (fxn _) rfl sc_is_triple.nd (di_seq (de_slice (de_var (i := 1) rfl (vis_by rfl) (by decide) (by decide)) (do_some de_int) do_none)) (blkOk_by (by rfl)) (fun _ _ _ _ _ _ _ => (dg_name (i := 2) sc_is_triple.nd rfl (loc_by rfl) (.inr rfl))) (fun _ _ _ _ _ => dts_nil) (fun _ _ _ _ _ => (de_def d_is_between hT (by decide) rfl hr hgd (by rfl) (da_cons (de_var (i := 2) rfl (vis_by rfl) (by decide) (by decide)) (da_cons de_int (da_cons (de_op L2.op_sub op2_sub (de_var (i := 0) rfl (vis_by rfl) (by decide) (by decide)) de_int) da_nil rfl) rfl) rfl) (by decide) rfl rfl)) (fun _ => rfl)) da_nil rfl) (by decide) (by decide) rfl rfl) (de_one (de_cmp (or_lt hu64) op2_ord (de_ix hu1 (de_var (i := 1) rfl (vis_by rfl) (by decide) (by decide)) de_int (fun _ _ => rfl)) (de_ix hu1 (de_var (i := 1) rfl (vis_by rfl) (by decide) (by decide)) de_int (fun _ _ => rfl)) rfl))))
    ds_nil))
theorem ok_is_next [Tbi : Tabl] (h0 : Tbi.fx = []) (hT : TopI T0 Tbi) (T : Txt K mg T0.F) (d_is_triple : DefOk P w K mg base T0 "is_triple" 3 2 [] p_is_triple) {f : Addr} {fd : FuncData} (F : L2.Fun K "is_next" "is_next" s_is_next f fd) :
    FnG P w K mg base L2.CX0 4 f fd ["places", "value", "ahead"] (spM K mg 3 [] p_is_next) := by
  haveI : FxG [] := fxg0 h0
  have fxn : ∀ vs : List Nat, ∀ j ∈ Tbi.fx, j ∉ vs := fun vs => fxn0 h0
  refine okG (k := 3) h0 F sc_is_next (by decide) (by decide) fun cdv A outer s H E hr hgd => ?_
  have hu1 := L2.hu_of hr; have hu64 := hr.units; have hu70 := hu_70 hr; have hu65 := hu_65 hr
  exact (ds_cons (ds_ret (de_and (de_def d_is_triple hT (by decide) rfl hr hgd (by rfl) (da_cons (de_var (i := 0) rfl (vis_by rfl) (by decide) (by decide)) (da_cons (de_var (i := 1) rfl (vis_by rfl) (by decide) (by decide)) da_nil rfl) rfl) (by decide) rfl rfl) (de_one (de_or (de_cmp (L2.op_eqD hu64) op2_eq (de_var (i := 2) rfl (vis_by rfl) (by decide) (by decide)) (de_tup da_nil) rfl) (de_one (de_cmp (or_lt hu64) op2_ord (de_ix hu1 (de_var (i := 2) rfl (vis_by rfl) (by decide) (by decide)) (de_neg de_int) (fun _ _ => rfl)) (de_var (i := 1) rfl (vis_by rfl) (by decide) (by decide)) rfl))))))
    ds_nil)
theorem ok_wrong_meeting [Tbi : Tabl] (h0 : Tbi.fx = []) (hT : TopI T0 Tbi) (T : Txt K mg T0.F) (d_first_wrong : DefOkH P w K mg base T0 "first_wrong" 7 5 2 1 p_first_wrong) (d_is_next : DefOk P w K mg base T0 "is_next" 4 3 [] p_is_next) {c Pt : Addr} (TB : LamX.TabB base mg c Pt) (hmT : (Pt, lamQ "wrong_meeting") ∈ T0.T) (hu : ∀ p ∈ T0.T, p.1 = Pt → p.2 = lamQ "wrong_meeting") {f : Addr} {fd : FuncData} (F : L2.Fun K "wrong_meeting" "wrong_meeting" s_wrong_meeting f fd) (hc : fd.code = .ref c) :
    FnG P w K mg base L2.CX0 8 f fd ["places", "value"] (spM K mg 2 [] p_wrong_meeting) := by
  haveI : FxG [] := fxg0 h0
  have fxn : ∀ vs : List Nat, ∀ j ∈ Tbi.fx, j ∉ vs := fun vs => fxn0 h0
  refine okGL (k := 7) h0 F hc sc_wrong_meeting (by decide) (by decide) fun A outer s H E hr hgd => ?_
  have hu1 := L2.hu_of hr; have hu64 := hr.units; have hu70 := hu_70 hr; have hu65 := hu_65 hr
  exact (ds_cons (ds_ret (de_defL (kl := 4) (es := []) (js := [0]) (NL := (["meeting", "ahead", "places"] : List Str)) (psL := (["meeting", "ahead"] : List Str)) (fr := (["places"] : List Str)) (fB := (callM p_is_next [] [false, false, false] (argsV [(vVar 2), (vVar 0), (vVar 1)]))) d_first_wrong hT (by decide) rfl hr hgd (by rfl) (dl_cons (de_var (i := 1) rfl (vis_by rfl) (by decide) (by decide)) (dl_nil rfl) rfl) TB rfl hmT hu rfl (free_by (by rfl)) (memf_by (by rfl)) rfl (NdefX.nscope_by (by decide +kernel)) (fun _ _ _ _ us hl => match us, hl with | [_, _], _ => rfl) (fun t cl c' f A outer s H E hT h0 hr hgd => by
      haveI : FxG [] := fxg0 h0
      have fxn : ∀ vs : List Nat, ∀ j ∈ Tabl.fx, j ∉ vs := fun vs => fxn0 h0
      have hu1 := L2.hu_of hr; have hu64 := hr.units; have hu70 := hu_70 hr; have hu65 := hu_65 hr
      exact (de_def d_is_next hT (by decide) rfl hr hgd (by rfl) (da_cons (de_var (i := 2) rfl (vis_by rfl) (by decide) (by decide)) (da_cons (de_var (i := 0) rfl (vis_by rfl) (by decide) (by decide)) (da_cons (de_var (i := 1) rfl (vis_by rfl) (by decide) (by decide)) da_nil rfl) rfl) rfl) (by decide) rfl rfl)) (by decide) rfl rfl))
    ds_nil)
theorem ok_is_places [Tbi : Tabl] (h0 : Tbi.fx = []) (hT : TopI T0 Tbi) (T : Txt K mg T0.F) (d_is_between : DefOk P w K mg base T0 "is_between" 2 3 [] p_is_between) {f : Addr} {fd : FuncData} (F : L2.Fun K "is_places" "is_places" s_is_places f fd) :
    FnG P w K mg base L2.CX0 3 f fd ["value"] (spM K mg 1 [] p_is_places) := by
  haveI : FxG [] := fxg0 h0
  have fxn : ∀ vs : List Nat, ∀ j ∈ Tbi.fx, j ∉ vs := fun vs => fxn0 h0
  refine okG (k := 2) h0 F sc_is_places (by decide) (by decide) fun cdv A outer s H E hr hgd => ?_
  have hu1 := L2.hu_of hr; have hu64 := hr.units; have hu70 := hu_70 hr; have hu65 := hu_65 hr
  exact (ds_cons (ds_ret (de_def d_is_between hT (by decide) rfl hr hgd (by rfl) (da_cons (de_var (i := 0) rfl (vis_by rfl) (by decide) (by decide)) (da_cons (de_g hT (by rfl) T.g_FEWEST_PLACES (by decide)) (da_cons (de_g hT (by rfl) T.g_MOST_PLACES (by decide)) da_nil rfl) rfl) rfl) (by decide) rfl rfl))
    ds_nil)
theorem ok_is_row [Tbi : Tabl] (h0 : Tbi.fx = []) (hT : TopI T0 Tbi) (T : Txt K mg T0.F) {f : Addr} {fd : FuncData} (F : L2.Fun K "is_row" "is_row" s_is_row f fd) :
    FnG P w K mg base L2.CX0 1 f fd ["value", "least", "most"] (spM K mg 3 [] p_is_row) := by
  haveI : FxG [] := fxg0 h0
  have fxn : ∀ vs : List Nat, ∀ j ∈ Tbi.fx, j ∉ vs := fun vs => fxn0 h0
  refine okG (k := 0) h0 F sc_is_row (by decide) (by decide) fun cdv A outer s H E hr hgd => ?_
  have hu1 := L2.hu_of hr; have hu64 := hr.units; have hu70 := hu_70 hr; have hu65 := hu_65 hr
  exact (ds_cons (ds_ret (de_and (de_isa (T := "tuple") (de_var (i := 0) rfl (vis_by rfl) (by decide) (by decide)) (by rfl) T.n_isinstance (by rfl) T.n_tuple boot_tuple (by decide) (by decide) rfl) (de_one (de_chain (or_le hu64) op2_ord (or_le hu64) op2_ord (de_var (i := 1) rfl (vis_by rfl) (by decide) (by decide)) (de_callB cr_len vr_len (by rfl) T.n_len boot_len (da_cons (de_var (i := 0) rfl (vis_by rfl) (by decide) (by decide)) da_nil rfl) (by decide) (by decide) rfl rfl) (de_var (i := 2) rfl (vis_by rfl) (by decide) (by decide)) (by decide) (by decide)))))
    ds_nil)
theorem ok_is_frame [Tbi : Tabl] (h0 : Tbi.fx = []) (hT : TopI T0 Tbi) (T : Txt K mg T0.F) (d_is_tuple_of : DefOk P w K mg base T0 "is_tuple_of" 1 2 [] p_is_tuple_of) (d_is_places : DefOk P w K mg base T0 "is_places" 3 1 [] p_is_places) (d_is_row : DefOk P w K mg base T0 "is_row" 1 3 [] p_is_row) {f : Addr} {fd : FuncData} (F : L2.Fun K "is_frame" "is_frame" s_is_frame f fd) :
    FnG P w K mg base L2.CX0 4 f fd ["value"] (spM K mg 1 [] p_is_frame) := by
  haveI : FxG [] := fxg0 h0
  have fxn : ∀ vs : List Nat, ∀ j ∈ Tbi.fx, j ∉ vs := fun vs => fxn0 h0
  refine okG (k := 3) h0 F sc_is_frame (by decide) (by decide) fun cdv A outer s H E hr hgd => ?_
  have hu1 := L2.hu_of hr; have hu64 := hr.units; have hu70 := hu_70 hr; have hu65 := hu_65 hr
  exact (ds_cons (ds_ret (de_and (de_def d_is_tuple_of hT (by decide) rfl hr hgd (by rfl) (da_cons (de_var (i := 0) rfl (vis_by rfl) (by decide) (by decide)) (da_cons de_int da_nil rfl) rfl) (by decide) rfl rfl) (de_and (de_def d_is_places hT (by decide) rfl hr hgd (by rfl) (da_cons (de_ix hu1 (de_var (i := 0) rfl (vis_by rfl) (by decide) (by decide)) de_int (fun _ _ => rfl)) da_nil rfl) (by decide) rfl rfl) (de_one (de_def d_is_row hT (by decide) rfl hr hgd (by rfl) (da_cons (de_ix hu1 (de_var (i := 0) rfl (vis_by rfl) (by decide) (by decide)) de_int (fun _ _ => rfl)) (da_cons de_int (da_cons (de_g hT (by rfl) T.g_MOST_MEETINGS (by decide)) da_nil rfl) rfl) rfl) (by decide) rfl rfl)))))
    ds_nil)
theorem ok_check_web [Tbi : Tabl] (h0 : Tbi.fx = []) (hT : TopI T0 Tbi) (T : Txt K mg T0.F) (d_wrong_meeting : DefOk P w K mg base T0 "wrong_meeting" 8 2 [] p_wrong_meeting) (d_is_frame : DefOk P w K mg base T0 "is_frame" 4 1 [] p_is_frame) {f : Addr} {fd : FuncData} (F : L2.Fun K "check_web" "check_web" s_check_web f fd) :
    FnG P w K mg base L2.CX0 9 f fd ["value"] (spM K mg 1 [] p_check_web) := by
  haveI : FxG [] := fxg0 h0
  have fxn : ∀ vs : List Nat, ∀ j ∈ Tbi.fx, j ∉ vs := fun vs => fxn0 h0
  refine okG (k := 8) h0 F sc_check_web (by decide) (by decide) fun cdv A outer s H E hr hgd => ?_
  have hu1 := L2.hu_of hr; have hu64 := hr.units; have hu70 := hu_70 hr; have hu65 := hu_65 hr
  exact (ds_cons (ds_if (dt_not (dt_val (de_def d_is_frame hT (by decide) rfl hr hgd (by rfl) (da_cons (de_var (i := 0) rfl (vis_by rfl) (by decide) (by decide)) da_nil rfl) (by decide) rfl rfl) (fun _ => rfl))) (ds_cons ds_never
    ds_nil) ds_nil)
    (ds_cons (ds_set (i := 1) sc_check_web.nd rfl (loc_by rfl) (de_def d_wrong_meeting hT (by decide) rfl hr hgd (by rfl) (da_cons (de_ix hu1 (de_var (i := 0) rfl (vis_by rfl) (by decide) (by decide)) de_int (fun _ _ => rfl)) (da_cons (de_ix hu1 (de_var (i := 0) rfl (vis_by rfl) (by decide) (by decide)) de_int (fun _ _ => rfl)) da_nil rfl) rfl) (by decide) rfl rfl) rfl (.inl rfl))
    (ds_cons (ds_if (dt_notN (de_var (i := 1) rfl (vis_by rfl) (by decide) (by decide))) (ds_cons ds_never
    ds_nil) ds_nil)
    ds_nil)))
theorem ok_is_string [Tbi : Tabl] (h0 : Tbi.fx = []) (hT : TopI T0 Tbi) (T : Txt K mg T0.F) {f : Addr} {fd : FuncData} (F : L2.Fun K "is_string" "is_string" s_is_string f fd) :
    FnG P w K mg base L2.CX0 1 f fd ["value"] (spM K mg 1 [] p_is_string) := by
  haveI : FxG [] := fxg0 h0
  have fxn : ∀ vs : List Nat, ∀ j ∈ Tbi.fx, j ∉ vs := fun vs => fxn0 h0
  refine okG (k := 0) h0 F sc_is_string (by decide) (by decide) fun cdv A outer s H E hr hgd => ?_
  have hu1 := L2.hu_of hr; have hu64 := hr.units; have hu70 := hu_70 hr; have hu65 := hu_65 hr
  exact (ds_cons (ds_ret (de_isa (T := "str") (de_var (i := 0) rfl (vis_by rfl) (by decide) (by decide)) (by rfl) T.n_isinstance (by rfl) T.n_str boot_str (by decide) (by decide) rfl))
    ds_nil)
theorem ok_is_kind [Tbi : Tabl] (h0 : Tbi.fx = []) (hT : TopI T0 Tbi) (T : Txt K mg T0.F) (d_is_string : DefOk P w K mg base T0 "is_string" 1 1 [] p_is_string) {f : Addr} {fd : FuncData} (F : L2.Fun K "is_kind" "is_kind" s_is_kind f fd) :
    FnG P w K mg base L2.CX0 2 f fd ["value"] (spM K mg 1 [] p_is_kind) := by
  haveI : FxG [] := fxg0 h0
  have fxn : ∀ vs : List Nat, ∀ j ∈ Tbi.fx, j ∉ vs := fun vs => fxn0 h0
  refine okG (k := 1) h0 F sc_is_kind (by decide) (by decide) fun cdv A outer s H E hr hgd => ?_
  have hu1 := L2.hu_of hr; have hu64 := hr.units; have hu70 := hu_70 hr; have hu65 := hu_65 hr
  exact (ds_cons (ds_ret (de_and (de_def d_is_string hT (by decide) rfl hr hgd (by rfl) (da_cons (de_var (i := 0) rfl (vis_by rfl) (by decide) (by decide)) da_nil rfl) (by decide) rfl rfl) (de_one (de_cmp (or_in hu65) op2_in (de_var (i := 0) rfl (vis_by rfl) (by decide) (by decide)) (de_g hT (by rfl) T.g_KINDS (by decide)) rfl))))
    ds_nil)
theorem ok_check_kind [Tbi : Tabl] (h0 : Tbi.fx = []) (hT : TopI T0 Tbi) (T : Txt K mg T0.F) (d_is_kind : DefOk P w K mg base T0 "is_kind" 2 1 [] p_is_kind) {f : Addr} {fd : FuncData} (F : L2.Fun K "check_kind" "check_kind" s_check_kind f fd) :
    FnG P w K mg base L2.CX0 3 f fd ["value"] (spM K mg 1 [] p_check_kind) := by
  haveI : FxG [] := fxg0 h0
  have fxn : ∀ vs : List Nat, ∀ j ∈ Tbi.fx, j ∉ vs := fun vs => fxn0 h0
  refine okG (k := 2) h0 F sc_check_kind (by decide) (by decide) fun cdv A outer s H E hr hgd => ?_
  have hu1 := L2.hu_of hr; have hu64 := hr.units; have hu70 := hu_70 hr; have hu65 := hu_65 hr
  exact (ds_cons (ds_if (dt_not (dt_val (de_def d_is_kind hT (by decide) rfl hr hgd (by rfl) (da_cons (de_var (i := 0) rfl (vis_by rfl) (by decide) (by decide)) da_nil rfl) (by decide) rfl rfl) (fun _ => rfl))) (ds_cons ds_never
    ds_nil) ds_nil)
    ds_nil)
theorem ok_check_kinded [Tbi : Tabl] (h0 : Tbi.fx = []) (hT : TopI T0 Tbi) (T : Txt K mg T0.F) (d_check_web : DefOk P w K mg base T0 "check_web" 9 1 [] p_check_web) (d_check_kind : DefOk P w K mg base T0 "check_kind" 3 1 [] p_check_kind) {f : Addr} {fd : FuncData} (F : L2.Fun K "check_kinded" "check_kinded" s_check_kinded f fd) :
    FnG P w K mg base L2.CX0 10 f fd ["web", "kind"] (spM K mg 2 [] p_check_kinded) := by
  haveI : FxG [] := fxg0 h0
  have fxn : ∀ vs : List Nat, ∀ j ∈ Tbi.fx, j ∉ vs := fun vs => fxn0 h0
  refine okG (k := 9) h0 F sc_check_kinded (by decide) (by decide) fun cdv A outer s H E hr hgd => ?_
  have hu1 := L2.hu_of hr; have hu64 := hr.units; have hu70 := hu_70 hr; have hu65 := hu_65 hr
  exact (ds_cons (ds_expr (de_def d_check_web hT (by decide) rfl hr hgd (by rfl) (da_cons (de_var (i := 0) rfl (vis_by rfl) (by decide) (by decide)) da_nil rfl) (by decide) rfl rfl) rfl)
    (ds_cons (ds_expr (de_def d_check_kind hT (by decide) rfl hr hgd (by rfl) (da_cons (de_var (i := 1) rfl (vis_by rfl) (by decide) (by decide)) da_nil rfl) (by decide) rfl rfl) rfl)
    ds_nil))
theorem ok_is_meeting [Tbi : Tabl] (h0 : Tbi.fx = []) (hT : TopI T0 Tbi) (T : Txt K mg T0.F) (d_is_between : DefOk P w K mg base T0 "is_between" 2 3 [] p_is_between) {f : Addr} {fd : FuncData} (F : L2.Fun K "is_meeting" "is_meeting" s_is_meeting f fd) :
    FnG P w K mg base L2.CX0 3 f fd ["web", "value"] (spM K mg 2 [] p_is_meeting) := by
  haveI : FxG [] := fxg0 h0
  have fxn : ∀ vs : List Nat, ∀ j ∈ Tbi.fx, j ∉ vs := fun vs => fxn0 h0
  refine okG (k := 2) h0 F sc_is_meeting (by decide) (by decide) fun cdv A outer s H E hr hgd => ?_
  have hu1 := L2.hu_of hr; have hu64 := hr.units; have hu70 := hu_70 hr; have hu65 := hu_65 hr
  exact (ds_cons (ds_ret (de_def d_is_between hT (by decide) rfl hr hgd (by rfl) (da_cons (de_var (i := 1) rfl (vis_by rfl) (by decide) (by decide)) (da_cons de_int (da_cons (de_op L2.op_sub op2_sub (de_callB cr_len vr_len (by rfl) T.n_len boot_len (da_cons (de_ix hu1 (de_var (i := 0) rfl (vis_by rfl) (by decide) (by decide)) de_int (fun _ _ => rfl)) da_nil rfl) (by decide) (by decide) rfl rfl) de_int) da_nil rfl) rfl) rfl) (by decide) rfl rfl))
    ds_nil)
theorem ok_check_meeting [Tbi : Tabl] (h0 : Tbi.fx = []) (hT : TopI T0 Tbi) (T : Txt K mg T0.F) (d_is_meeting : DefOk P w K mg base T0 "is_meeting" 3 2 [] p_is_meeting) {f : Addr} {fd : FuncData} (F : L2.Fun K "check_meeting" "check_meeting" s_check_meeting f fd) :
    FnG P w K mg base L2.CX0 4 f fd ["web", "value"] (spM K mg 2 [] p_check_meeting) := by
  haveI : FxG [] := fxg0 h0
  have fxn : ∀ vs : List Nat, ∀ j ∈ Tbi.fx, j ∉ vs := fun vs => fxn0 h0
  refine okG (k := 3) h0 F sc_check_meeting (by decide) (by decide) fun cdv A outer s H E hr hgd => ?_
  have hu1 := L2.hu_of hr; have hu64 := hr.units; have hu70 := hu_70 hr; have hu65 := hu_65 hr
  exact (ds_cons (ds_if (dt_not (dt_val (de_def d_is_meeting hT (by decide) rfl hr hgd (by rfl) (da_cons (de_var (i := 0) rfl (vis_by rfl) (by decide) (by decide)) (da_cons (de_var (i := 1) rfl (vis_by rfl) (by decide) (by decide)) da_nil rfl) rfl) (by decide) rfl rfl) (fun _ => rfl))) (ds_cons ds_never
    ds_nil) ds_nil)
    ds_nil)
theorem ok_check_roomed [Tbi : Tabl] (h0 : Tbi.fx = []) (hT : TopI T0 Tbi) (T : Txt K mg T0.F) (d_check_kinded : DefOk P w K mg base T0 "check_kinded" 10 2 [] p_check_kinded) (d_check_meeting : DefOk P w K mg base T0 "check_meeting" 4 2 [] p_check_meeting) {f : Addr} {fd : FuncData} (F : L2.Fun K "check_roomed" "check_roomed" s_check_roomed f fd) :
    FnG P w K mg base L2.CX0 11 f fd ["web", "kind", "meeting"] (spM K mg 3 [] p_check_roomed) := by
  haveI : FxG [] := fxg0 h0
  have fxn : ∀ vs : List Nat, ∀ j ∈ Tbi.fx, j ∉ vs := fun vs => fxn0 h0
  refine okG (k := 10) h0 F sc_check_roomed (by decide) (by decide) fun cdv A outer s H E hr hgd => ?_
  have hu1 := L2.hu_of hr; have hu64 := hr.units; have hu70 := hu_70 hr; have hu65 := hu_65 hr
  exact (ds_cons (ds_expr (de_def d_check_kinded hT (by decide) rfl hr hgd (by rfl) (da_cons (de_var (i := 0) rfl (vis_by rfl) (by decide) (by decide)) (da_cons (de_var (i := 1) rfl (vis_by rfl) (by decide) (by decide)) da_nil rfl) rfl) (by decide) rfl rfl) rfl)
    (ds_cons (ds_expr (de_def d_check_meeting hT (by decide) rfl hr hgd (by rfl) (da_cons (de_var (i := 0) rfl (vis_by rfl) (by decide) (by decide)) (da_cons (de_var (i := 2) rfl (vis_by rfl) (by decide) (by decide)) da_nil rfl) rfl) (by decide) rfl rfl) rfl)
    ds_nil))
theorem ok_made_web [Tbi : Tabl] (h0 : Tbi.fx = []) (hT : TopI T0 Tbi) (T : Txt K mg T0.F) {f : Addr} {fd : FuncData} (F : L2.Fun K "made_web" "made_web" s_made_web f fd) :
    FnG P w K mg base L2.CX0 1 f fd ["places", "meetings"] (spM K mg 2 [] p_made_web) := by
  haveI : FxG [] := fxg0 h0
  have fxn : ∀ vs : List Nat, ∀ j ∈ Tbi.fx, j ∉ vs := fun vs => fxn0 h0
  refine okG (k := 0) h0 F sc_made_web (by decide) (by decide) fun cdv A outer s H E hr hgd => ?_
  have hu1 := L2.hu_of hr; have hu64 := hr.units; have hu70 := hu_70 hr; have hu65 := hu_65 hr
  exact (ds_cons (ds_ret (de_tup (da_cons (de_var (i := 0) rfl (vis_by rfl) (by decide) (by decide)) (da_cons (de_callTy L2.call_tuple_of vr_tuple (by rfl) T.n_tuple boot_tuple (da_cons (de_callB (cr_sortAll rfl hu70) vr_sorted (by rfl) T.n_sorted boot_sorted (da_cons (de_var (i := 1) rfl (vis_by rfl) (by decide) (by decide)) da_nil rfl) (by decide) (by decide) rfl rfl) da_nil rfl) (by decide) (by decide) rfl rfl) da_nil rfl) rfl)))
    ds_nil)
theorem ok_without_by [Tbi : Tabl] (h0 : Tbi.fx = []) (hT : TopI T0 Tbi) (T : Txt K mg T0.F) {f : Addr} {fd : FuncData} (F : L2.Fun K "without_by" "without_by" s_without_by f fd) :
    FnG P w K mg base L2.CX0 1 f fd ["web", "lot"] (spM K mg 2 [] p_without_by) := by
  haveI : FxG [] := fxg0 h0
  have fxn : ∀ vs : List Nat, ∀ j ∈ Tbi.fx, j ∉ vs := fun vs => fxn0 h0
  refine okG (k := 0) h0 F sc_without_by (by decide) (by decide) fun cdv A outer s H E hr hgd => ?_
  have hu1 := L2.hu_of hr; have hu64 := hr.units; have hu70 := hu_70 hr; have hu65 := hu_65 hr
  exact (ds_cons (ds_ret (de_tup (da_cons (de_ix hu1 (de_var (i := 0) rfl (vis_by rfl) (by decide) (by decide)) de_int (fun _ _ => rfl)) (da_cons (de_callTy L2.call_tuple_of vr_tuple (by rfl) T.n_tuple boot_tuple (da_cons (de_lc (own := [("index", 2), ("meeting", 3)]) (fxn _) rfl sc_without_by.nd (di_enum (by rfl) T.n_enumerate (da_cons (de_ix hu1 (de_var (i := 0) rfl (vis_by rfl) (by decide) (by decide)) de_int (fun _ _ => rfl)) da_nil rfl) rfl) (blkOk_by (by rfl)) (fun _ _ _ _ _ _ _ => (dg_tup (n := 2) rfl (dgs_cons (dg_name (i := 2) sc_without_by.nd rfl (loc_by rfl) (.inr rfl)) (dgs_cons (dg_name (i := 3) sc_without_by.nd rfl (loc_by rfl) (.inr rfl)) dgs_nil rfl) rfl) rfl rfl rfl)) (fun _ _ _ _ _ => (dts_one (dt_cmp (or_notIn hu65) op2_in (de_var (i := 2) rfl (vis_by rfl) (by decide) (by decide)) (de_var (i := 1) rfl (vis_by rfl) (by decide) (by decide)) rfl))) (fun _ _ _ _ _ => (de_var (i := 3) rfl (vis_by rfl) (by decide) (by decide))) (fun _ => rfl)) da_nil rfl) (by decide) (by decide) rfl rfl) da_nil rfl) rfl)))
    ds_nil)
theorem ok_later_by [Tbi : Tabl] (h0 : Tbi.fx = []) (hT : TopI T0 Tbi) (T : Txt K mg T0.F) (d_made_web : DefOk P w K mg base T0 "made_web" 1 2 [] p_made_web) (d_without_by : DefOk P w K mg base T0 "without_by" 1 2 [] p_without_by) {f : Addr} {fd : FuncData} (F : L2.Fun K "later_by" "later_by" s_later_by f fd) :
    FnG P w K mg base L2.CX0 2 f fd ["web", "meeting", "many"] (spM K mg 3 [] p_later_by) := by
  haveI : FxG [] := fxg0 h0
  have fxn : ∀ vs : List Nat, ∀ j ∈ Tbi.fx, j ∉ vs := fun vs => fxn0 h0
  refine okG (k := 1) h0 F sc_later_by (by decide) (by decide) fun cdv A outer s H E hr hgd => ?_
  have hu1 := L2.hu_of hr; have hu64 := hr.units; have hu70 := hu_70 hr; have hu65 := hu_65 hr
  exact (ds_cons (ds_unp (de_ix hu1 (de_ix hu1 (de_var (i := 0) rfl (vis_by rfl) (by decide) (by decide)) de_int (fun _ _ => rfl)) (de_var (i := 1) rfl (vis_by rfl) (by decide) (by decide)) (fun _ _ => rfl)) (dg_tup (n := 3) rfl (dgs_cons (dg_name (i := 3) sc_later_by.nd rfl (loc_by rfl) (.inl rfl)) (dgs_cons (dg_name (i := 4) sc_later_by.nd rfl (loc_by rfl) (.inl rfl)) (dgs_cons (dg_name (i := 5) sc_later_by.nd rfl (loc_by rfl) (.inl rfl)) dgs_nil rfl) rfl) rfl) rfl rfl rfl) rfl rfl rfl)
    (ds_cons (ds_par2 (i := 6) (j := 7) rfl sc_later_by.nd rfl rfl (by decide) rfl rfl (da_cons (de_tup (da_cons (de_op or_add op2_add (de_var (i := 3) rfl (vis_by rfl) (by decide) (by decide)) (de_var (i := 2) rfl (vis_by rfl) (by decide) (by decide))) (da_cons (de_var (i := 4) rfl (vis_by rfl) (by decide) (by decide)) (da_cons (de_var (i := 5) rfl (vis_by rfl) (by decide) (by decide)) da_nil rfl) rfl) rfl)) (da_cons (de_ix hu1 (de_def d_without_by hT (by decide) rfl hr hgd (by rfl) (da_cons (de_var (i := 0) rfl (vis_by rfl) (by decide) (by decide)) (da_cons (de_tup (da_cons (de_var (i := 1) rfl (vis_by rfl) (by decide) (by decide)) da_nil rfl)) da_nil rfl) rfl) (by decide) rfl rfl) de_int (fun _ _ => rfl)) da_nil rfl) rfl) rfl rfl)
    (ds_cons (ds_ret (de_if (dw_and (dt_cmp (or_le hu64) op2_ord (de_op or_add op2_add (de_var (i := 3) rfl (vis_by rfl) (by decide) (by decide)) (de_var (i := 2) rfl (vis_by rfl) (by decide) (by decide))) (de_g hT (by rfl) T.g_MOST_TIME (by decide)) rfl) (dw_and1 (dt_cmp (or_notIn hu65) op2_in (de_var (i := 6) rfl (vis_by rfl) (by decide) (by decide)) (de_var (i := 7) rfl (vis_by rfl) (by decide) (by decide)) rfl))).pt (de_def d_made_web hT (by decide) rfl hr hgd (by rfl) (da_cons (de_ix hu1 (de_var (i := 0) rfl (vis_by rfl) (by decide) (by decide)) de_int (fun _ _ => rfl)) (da_cons (de_tup (da_star (de_var (i := 7) rfl (vis_by rfl) (by decide) (by decide)) (da_cons (de_var (i := 6) rfl (vis_by rfl) (by decide) (by decide)) da_nil rfl) rfl)) da_nil rfl) rfl) (by decide) rfl rfl) de_non))
    ds_nil)))
theorem ok_led_at [Tbi : Tabl] (h0 : Tbi.fx = []) (hT : TopI T0 Tbi) (T : Txt K mg T0.F) {f : Addr} {fd : FuncData} (F : L2.Fun K "led_at" "led_at" s_led_at f fd) :
    FnG P w K mg base L2.CX0 1 f fd ["pairs", "had", "kind"] (spM K mg 3 [] p_led_at) := by
  haveI : FxG [] := fxg0 h0
  have fxn : ∀ vs : List Nat, ∀ j ∈ Tbi.fx, j ∉ vs := fun vs => fxn0 h0
  refine okG (k := 0) h0 F sc_led_at (by decide) (by decide) fun cdv A outer s H E hr hgd => ?_
  have hu1 := L2.hu_of hr; have hu64 := hr.units; have hu70 := hu_70 hr; have hu65 := hu_65 hr
  exact (ds_cons (ds_set (i := 3) sc_led_at.nd rfl (loc_by rfl) (de_callTy (cr_list rfl) vr_list (by rfl) T.n_list boot_list (da_cons (de_var (i := 1) rfl (vis_by rfl) (by decide) (by decide)) da_nil rfl) (by decide) (by decide) rfl rfl) rfl (.inl rfl))
    (ds_cons (ds_set (i := 4) sc_led_at.nd rfl (loc_by rfl) de_bl rfl (.inl rfl))
    (ds_cons (ds_whileW PassesOwn.never (dt_val (de_var (i := 4) rfl (vis_by rfl) (by decide) (by decide)) (fun _ => rfl)) (ds_cons (ds_set (i := 5) sc_led_at.nd rfl (loc_by rfl) (de_if (dt_cmp (L2.op_eqD hu64) op2_eq (de_var (i := 2) rfl (vis_by rfl) (by decide) (by decide)) (de_g hT (by rfl) T.g_STRICT (by decide)) rfl) (de_var (i := 1) rfl (vis_by rfl) (by decide) (by decide)) (de_callTy (cr_list rfl) vr_list (by rfl) T.n_list boot_list (da_cons (de_var (i := 3) rfl (vis_by rfl) (by decide) (by decide)) da_nil rfl) (by decide) (by decide) rfl rfl)) rfl (.inl rfl))
    (ds_cons (ds_set (i := 6) sc_led_at.nd rfl (loc_by rfl) (de_op or_add op2_add (de_lc (own := [("one", 7), ("other", 8)]) (fxn _) rfl sc_led_at.nd (di_seq (de_var (i := 0) rfl (vis_by rfl) (by decide) (by decide))) (blkOk_by (by rfl)) (fun _ _ _ _ _ _ _ => (dg_tup (n := 2) rfl (dgs_cons (dg_name (i := 7) sc_led_at.nd rfl (loc_by rfl) (.inr rfl)) (dgs_cons (dg_name (i := 8) sc_led_at.nd rfl (loc_by rfl) (.inr rfl)) dgs_nil rfl) rfl) rfl rfl rfl)) (fun _ _ _ _ _ => (dts_one (dt_cmp (or_in hu65) op2_in (de_var (i := 7) rfl (vis_by rfl) (by decide) (by decide)) (de_var (i := 5) rfl (vis_by rfl) (by decide) (by decide)) rfl))) (fun _ _ _ _ _ => (de_var (i := 8) rfl (vis_by rfl) (by decide) (by decide))) (fun _ => rfl)) (de_lc (own := [("one", 7), ("other", 8)]) (fxn _) rfl sc_led_at.nd (di_seq (de_var (i := 0) rfl (vis_by rfl) (by decide) (by decide))) (blkOk_by (by rfl)) (fun _ _ _ _ _ _ _ => (dg_tup (n := 2) rfl (dgs_cons (dg_name (i := 7) sc_led_at.nd rfl (loc_by rfl) (.inr rfl)) (dgs_cons (dg_name (i := 8) sc_led_at.nd rfl (loc_by rfl) (.inr rfl)) dgs_nil rfl) rfl) rfl rfl rfl)) (fun _ _ _ _ _ => (dts_one (dt_cmp (or_in hu65) op2_in (de_var (i := 8) rfl (vis_by rfl) (by decide) (by decide)) (de_var (i := 5) rfl (vis_by rfl) (by decide) (by decide)) rfl))) (fun _ _ _ _ _ => (de_var (i := 7) rfl (vis_by rfl) (by decide) (by decide))) (fun _ => rfl))) rfl (.inl rfl))
    (ds_cons (ds_setLc (own := [("place", 9)]) (i := 6) (fxn _) rfl sc_led_at.nd rfl rfl rfl (di_seq (de_sortSet rfl (de_var (i := 6) rfl (vis_by rfl) (by decide) (by decide)) (by rfl) T.n_sorted (by rfl) T.n_set rfl)) (blkOk_by (by rfl)) (fun _ _ _ _ _ _ _ => (dg_name (i := 9) sc_led_at.nd rfl (loc_by rfl) (.inr rfl))) (fun _ _ _ _ _ => (dts_one (dt_cmp (or_notIn hu65) op2_in (de_var (i := 9) rfl (vis_by rfl) (by decide) (by decide)) (de_var (i := 3) rfl (vis_by rfl) (by decide) (by decide)) rfl))) (fun _ _ _ _ _ => (de_var (i := 9) rfl (vis_by rfl) (by decide) (by decide))) (fun _ => rfl))
    (ds_cons (ds_unp (de_tup (da_cons (de_op or_add op2_add (de_var (i := 3) rfl (vis_by rfl) (by decide) (by decide)) (de_var (i := 6) rfl (vis_by rfl) (by decide) (by decide))) (da_cons (de_and (de_cmp (L2.op_neD hu64) op2_ne (de_var (i := 6) rfl (vis_by rfl) (by decide) (by decide)) (de_lst da_nil) rfl) (de_one (de_cmp (L2.op_neD hu64) op2_ne (de_var (i := 2) rfl (vis_by rfl) (by decide) (by decide)) (de_g hT (by rfl) T.g_STRICT (by decide)) rfl))) da_nil rfl) rfl)) (dg_tup (n := 2) rfl (dgs_cons (dg_name (i := 3) sc_led_at.nd rfl (loc_by rfl) (.inl rfl)) (dgs_cons (dg_name (i := 4) sc_led_at.nd rfl (loc_by rfl) (.inl rfl)) dgs_nil rfl) rfl) rfl rfl rfl) rfl rfl rfl)
    ds_nil)))))
    (ds_cons (ds_ret (de_var (i := 3) rfl (vis_by rfl) (by decide) (by decide)))
    ds_nil))))
theorem ok_ends_of [Tbi : Tabl] (h0 : Tbi.fx = []) (hT : TopI T0 Tbi) (T : Txt K mg T0.F) {f : Addr} {fd : FuncData} (F : L2.Fun K "ends_of" "ends_of" s_ends_of f fd) :
    FnG P w K mg base L2.CX0 1 f fd ["meeting"] (spM K mg 1 [] p_ends_of) := by
  haveI : FxG [] := fxg0 h0
  have fxn : ∀ vs : List Nat, ∀ j ∈ Tbi.fx, j ∉ vs := fun vs => fxn0 h0
  refine okG (k := 0) h0 F sc_ends_of (by decide) (by decide) fun cdv A outer s H E hr hgd => ?_
  have hu1 := L2.hu_of hr; have hu64 := hr.units; have hu70 := hu_70 hr; have hu65 := hu_65 hr
  exact (ds_cons (ds_ret (de_slice (de_var (i := 0) rfl (vis_by rfl) (by decide) (by decide)) (do_some de_int) do_none))
    ds_nil)
theorem ok_arrivals_by [Tbi : Tabl] (h0 : Tbi.fx = []) (hT : TopI T0 Tbi) (T : Txt K mg T0.F) (d_led_at : DefOk P w K mg base T0 "led_at" 1 3 [] p_led_at) (d_ends_of : DefOk P w K mg base T0 "ends_of" 1 1 [] p_ends_of) {f : Addr} {fd : FuncData} (F : L2.Fun K "arrivals_by" "arrivals_by" s_arrivals_by f fd) :
    FnG P w K mg base L2.CX0 2 f fd ["web", "kind", "start", "time"] (spM K mg 4 [] p_arrivals_by) := by
  haveI : FxG [] := fxg0 h0
  have fxn : ∀ vs : List Nat, ∀ j ∈ Tbi.fx, j ∉ vs := fun vs => fxn0 h0
  refine okG (k := 1) h0 F sc_arrivals_by (by decide) (by decide) fun cdv A outer s H E hr hgd => ?_
  have hu1 := L2.hu_of hr; have hu64 := hr.units; have hu70 := hu_70 hr; have hu65 := hu_65 hr
  exact (ds_cons (ds_set (i := 4) sc_arrivals_by.nd rfl (loc_by rfl) (de_dict1 (de_var (i := 2) rfl (vis_by rfl) (by decide) (by decide)) (de_var (i := 3) rfl (vis_by rfl) (by decide) (by decide))) rfl (.inl rfl))
    (ds_cons (ds_for PassesOwn.never rfl (di_range2 (by rfl) T.n_range (da_cons (de_var (i := 3) rfl (vis_by rfl) (by decide) (by decide)) (da_cons (de_op or_add op2_add (de_g hT (by rfl) T.g_MOST_TIME (by decide)) de_int) da_nil rfl) rfl) rfl rfl) (dg_name (i := 5) sc_arrivals_by.nd rfl (loc_by rfl) (.inl rfl)) (ds_cons (ds_setLc (own := [("meeting", 7)]) (i := 6) (fxn _) rfl sc_arrivals_by.nd rfl rfl rfl (di_seq (de_ix hu1 (de_var (i := 0) rfl (vis_by rfl) (by decide) (by decide)) de_int (fun _ _ => rfl))) (blkOk_by (by rfl)) (fun _ _ _ _ _ _ _ => (dg_name (i := 7) sc_arrivals_by.nd rfl (loc_by rfl) (.inr rfl))) (fun _ _ _ _ _ => (dts_one (dt_cmp (L2.op_eqD hu64) op2_eq (de_ix hu1 (de_var (i := 7) rfl (vis_by rfl) (by decide) (by decide)) de_int (fun _ _ => rfl)) (de_var (i := 5) rfl (vis_by rfl) (by decide) (by decide)) rfl))) (fun _ _ _ _ _ => (de_def d_ends_of hT (by decide) rfl hr hgd (by rfl) (da_cons (de_var (i := 7) rfl (vis_by rfl) (by decide) (by decide)) da_nil rfl) (by decide) rfl rfl)) (fun _ => rfl))
    (ds_cons (ds_for PassesOwn.never rfl (di_seq (de_def d_led_at hT (by decide) rfl hr hgd (by rfl) (da_cons (de_var (i := 6) rfl (vis_by rfl) (by decide) (by decide)) (da_cons (de_callTy (cr_list rfl) vr_list (by rfl) T.n_list boot_list (da_cons (de_var (i := 4) rfl (vis_by rfl) (by decide) (by decide)) da_nil rfl) (by decide) (by decide) rfl rfl) (da_cons (de_var (i := 1) rfl (vis_by rfl) (by decide) (by decide)) da_nil rfl) rfl) rfl) (by decide) rfl rfl)) (dg_name (i := 8) sc_arrivals_by.nd rfl (loc_by rfl) (.inl rfl)) (ds_cons (ds_if (dt_cmp (or_notIn hu65) op2_in (de_var (i := 8) rfl (vis_by rfl) (by decide) (by decide)) (de_var (i := 4) rfl (vis_by rfl) (by decide) (by decide)) rfl) (ds_cons (ds_setSub hu1 (de_var (i := 5) rfl (vis_by rfl) (by decide) (by decide)) (de_var (i := 4) rfl (vis_by rfl) (by decide) (by decide)) (de_var (i := 8) rfl (vis_by rfl) (by decide) (by decide)) (fun _ => rfl) rfl rfl rfl)
    ds_nil) ds_nil)
    ds_nil) (fun _ => rfl))
    ds_nil)) (fun _ => rfl))
    (ds_cons (ds_ret (de_var (i := 4) rfl (vis_by rfl) (by decide) (by decide)))
    ds_nil)))
theorem ok_come_by [Tbi : Tabl] (h0 : Tbi.fx = []) (hT : TopI T0 Tbi) (T : Txt K mg T0.F) (d_arrivals_by : DefOk P w K mg base T0 "arrivals_by" 2 4 [] p_arrivals_by) {f : Addr} {fd : FuncData} (F : L2.Fun K "come_by" "come_by" s_come_by f fd) :
    FnG P w K mg base L2.CX0 3 f fd ["web", "kind", "start", "time"] (spM K mg 4 [] p_come_by) := by
  haveI : FxG [] := fxg0 h0
  have fxn : ∀ vs : List Nat, ∀ j ∈ Tbi.fx, j ∉ vs := fun vs => fxn0 h0
  refine okG (k := 2) h0 F sc_come_by (by decide) (by decide) fun cdv A outer s H E hr hgd => ?_
  have hu1 := L2.hu_of hr; have hu64 := hr.units; have hu70 := hu_70 hr; have hu65 := hu_65 hr
  exact (ds_cons (ds_ret (de_callTy L2.call_tuple_of vr_tuple (by rfl) T.n_tuple boot_tuple (da_cons (de_callB (cr_sortAll rfl hu70) vr_sorted (by rfl) T.n_sorted boot_sorted (da_cons (de_def d_arrivals_by hT (by decide) rfl hr hgd (by rfl) (da_cons (de_var (i := 0) rfl (vis_by rfl) (by decide) (by decide)) (da_cons (de_var (i := 1) rfl (vis_by rfl) (by decide) (by decide)) (da_cons (de_var (i := 2) rfl (vis_by rfl) (by decide) (by decide)) (da_cons (de_var (i := 3) rfl (vis_by rfl) (by decide) (by decide)) da_nil rfl) rfl) rfl) rfl) (by decide) rfl rfl) da_nil rfl) (by decide) (by decide) rfl rfl) da_nil rfl) (by decide) (by decide) rfl rfl))
    ds_nil)
theorem ok_table_by [Tbi : Tabl] (h0 : Tbi.fx = []) (hT : TopI T0 Tbi) (T : Txt K mg T0.F) (d_come_by : DefOk P w K mg base T0 "come_by" 3 4 [] p_come_by) {f : Addr} {fd : FuncData} (F : L2.Fun K "table_by" "table_by" s_table_by f fd) :
    FnG P w K mg base L2.CX0 4 f fd ["web", "kind"] (spM K mg 2 [] p_table_by) := by
  haveI : FxG [] := fxg0 h0
  have fxn : ∀ vs : List Nat, ∀ j ∈ Tbi.fx, j ∉ vs := fun vs => fxn0 h0
  refine okG (k := 3) h0 F sc_table_by (by decide) (by decide) fun cdv A outer s H E hr hgd => ?_
  have hu1 := L2.hu_of hr; have hu64 := hr.units; have hu70 := hu_70 hr; have hu65 := hu_65 hr
  exact (ds_cons (ds_ret (de_callTy L2.call_tuple_of vr_tuple (by rfl) T.n_tuple boot_tuple (da_cons (de_lc (own := [("place", 2)]) (fxn _) rfl sc_table_by.nd (di_range1 (by rfl) T.n_range (da_cons (de_ix hu1 (de_var (i := 0) rfl (vis_by rfl) (by decide) (by decide)) de_int (fun _ _ => rfl)) da_nil rfl) rfl) (blkOk_by (by rfl)) (fun _ _ _ _ _ _ _ => (dg_name (i := 2) sc_table_by.nd rfl (loc_by rfl) (.inr rfl))) (fun _ _ _ _ _ => dts_nil) (fun _ _ _ _ _ => (de_def d_come_by hT (by decide) rfl hr hgd (by rfl) (da_cons (de_var (i := 0) rfl (vis_by rfl) (by decide) (by decide)) (da_cons (de_var (i := 1) rfl (vis_by rfl) (by decide) (by decide)) (da_cons (de_var (i := 2) rfl (vis_by rfl) (by decide) (by decide)) (da_cons de_int da_nil rfl) rfl) rfl) rfl) (by decide) rfl rfl)) (fun _ => rfl)) da_nil rfl) (by decide) (by decide) rfl rfl))
    ds_nil)
theorem ok_room_by [Tbi : Tabl] (h0 : Tbi.fx = []) (hT : TopI T0 Tbi) (T : Txt K mg T0.F) (d_later_by : DefOk P w K mg base T0 "later_by" 2 3 [] p_later_by) (d_table_by : DefOk P w K mg base T0 "table_by" 4 2 [] p_table_by) {f : Addr} {fd : FuncData} (F : L2.Fun K "room_by" "room_by" s_room_by f fd) :
    FnG P w K mg base L2.CX0 5 f fd ["web", "kind", "meeting"] (spM K mg 3 [] p_room_by) := by
  haveI : FxG [] := fxg0 h0
  have fxn : ∀ vs : List Nat, ∀ j ∈ Tbi.fx, j ∉ vs := fun vs => fxn0 h0
  refine okG (k := 4) h0 F sc_room_by (by decide) (by decide) fun cdv A outer s H E hr hgd => ?_
  have hu1 := L2.hu_of hr; have hu64 := hr.units; have hu70 := hu_70 hr; have hu65 := hu_65 hr
  exact (ds_cons (ds_par2 (i := 3) (j := 4) rfl sc_room_by.nd rfl rfl (by decide) rfl rfl (da_cons de_int (da_cons (de_def d_table_by hT (by decide) rfl hr hgd (by rfl) (da_cons (de_var (i := 0) rfl (vis_by rfl) (by decide) (by decide)) (da_cons (de_var (i := 1) rfl (vis_by rfl) (by decide) (by decide)) da_nil rfl) rfl) (by decide) rfl rfl) da_nil rfl) rfl) rfl rfl)
    (ds_cons (ds_set (i := 5) sc_room_by.nd rfl (loc_by rfl) (de_def d_later_by hT (by decide) rfl hr hgd (by rfl) (da_cons (de_var (i := 0) rfl (vis_by rfl) (by decide) (by decide)) (da_cons (de_var (i := 2) rfl (vis_by rfl) (by decide) (by decide)) (da_cons de_int da_nil rfl) rfl) rfl) (by decide) rfl rfl) rfl (.inl rfl))
    (ds_cons (ds_whileW PassesOwn.never (dw_and (dt_notN (de_var (i := 5) rfl (vis_by rfl) (by decide) (by decide))) (dw_and1 (dt_cmp (L2.op_eqD hu64) op2_eq (de_def d_table_by hT (by decide) rfl hr hgd (by rfl) (da_cons (de_var (i := 5) rfl (vis_by rfl) (by decide) (by decide)) (da_cons (de_var (i := 1) rfl (vis_by rfl) (by decide) (by decide)) da_nil rfl) rfl) (by decide) rfl rfl) (de_var (i := 4) rfl (vis_by rfl) (by decide) (by decide)) rfl))).pt (ds_cons (ds_set (i := 3) sc_room_by.nd rfl (loc_by rfl) (de_op or_add op2_add (de_var (i := 3) rfl (vis_by rfl) (by decide) (by decide)) de_int) rfl (.inl rfl))
    (ds_cons (ds_set (i := 5) sc_room_by.nd rfl (loc_by rfl) (de_def d_later_by hT (by decide) rfl hr hgd (by rfl) (da_cons (de_var (i := 0) rfl (vis_by rfl) (by decide) (by decide)) (da_cons (de_var (i := 2) rfl (vis_by rfl) (by decide) (by decide)) (da_cons (de_op or_add op2_add (de_var (i := 3) rfl (vis_by rfl) (by decide) (by decide)) de_int) da_nil rfl) rfl) rfl) (by decide) rfl rfl) rfl (.inl rfl))
    ds_nil)))
    (ds_cons (ds_ret (de_var (i := 3) rfl (vis_by rfl) (by decide) (by decide)))
    ds_nil))))
theorem ok_room [Tbi : Tabl] (h0 : Tbi.fx = []) (hT : TopI T0 Tbi) (T : Txt K mg T0.F) (d_check_roomed : DefOk P w K mg base T0 "check_roomed" 11 3 [] p_check_roomed) (d_room_by : DefOk P w K mg base T0 "room_by" 5 3 [] p_room_by) {f : Addr} {fd : FuncData} (F : L2.Fun K "room" "room" s_room f fd) :
    FnG P w K mg base L2.CX0 12 f fd ["web", "kind", "meeting"] (spM K mg 3 [] p_room) := by
  haveI : FxG [] := fxg0 h0
  have fxn : ∀ vs : List Nat, ∀ j ∈ Tbi.fx, j ∉ vs := fun vs => fxn0 h0
  refine okG (k := 11) h0 F sc_room (by decide) (by decide) fun cdv A outer s H E hr hgd => ?_
  have hu1 := L2.hu_of hr; have hu64 := hr.units; have hu70 := hu_70 hr; have hu65 := hu_65 hr
  exact (ds_cons (ds_expr (de_def d_check_roomed hT (by decide) rfl hr hgd (by rfl) (da_cons (de_var (i := 0) rfl (vis_by rfl) (by decide) (by decide)) (da_cons (de_var (i := 1) rfl (vis_by rfl) (by decide) (by decide)) (da_cons (de_var (i := 2) rfl (vis_by rfl) (by decide) (by decide)) da_nil rfl) rfl) rfl) (by decide) rfl rfl) rfl)
    (ds_cons (ds_ret (de_def d_room_by hT (by decide) rfl hr hgd (by rfl) (da_cons (de_var (i := 0) rfl (vis_by rfl) (by decide) (by decide)) (da_cons (de_var (i := 1) rfl (vis_by rfl) (by decide) (by decide)) (da_cons (de_var (i := 2) rfl (vis_by rfl) (by decide) (by decide)) da_nil rfl) rfl) rfl) (by decide) rfl rfl))
    ds_nil))
theorem ok__law_right [Tbi : Tabl] (h0 : Tbi.fx = []) (hT : TopI T0 Tbi) (T : Txt K mg T0.F) (d__law_web : DefOk P w K mg base T0 "_law_web" 3 3 [0] p__law_web) (d__law_table : DefOk P w K mg base T0 "_law_table" 1 3 [] p__law_table) (d_room : DefOk P w K mg base T0 "room" 12 3 [] p_room) (d__law_take : DefOk P w K mg base T0 "_law_take" 1 2 [0] p__law_take) (dk_room : DefOkK P w K mg base T0 "room" 12 3 [] p_room ["meeting", "kind", "web"] 0 [2, 1, 0]) {f : Addr} {fd : FuncData} (F : L2.Fun K "_law_right" "_law_right" s__law_right f fd) :
    FnG P w K mg base L2.CX0 13 f fd ["pool", "most"] (spM K mg 2 [0] p__law_right) := by
  haveI : FxG [0] := fxg0 h0
  have fxn : ∀ vs : List Nat, ∀ j ∈ Tbi.fx, j ∉ vs := fun vs => fxn0 h0
  refine okG (k := 12) h0 F sc__law_right (by decide) (by decide) fun cdv A outer s H E hr hgd => ?_
  have hu1 := L2.hu_of hr; have hu64 := hr.units; have hu70 := hu_70 hr; have hu65 := hu_65 hr
  exact (ds_cons (ds_unp (de_def d__law_web hT (by decide) rfl hr hgd (by rfl) (da_cons (de_var (i := 0) rfl (vis_by rfl) (by decide) (by decide)) (da_cons (de_ix hu1 (de_var (i := 1) rfl (vis_by rfl) (by decide) (by decide)) de_int (fun _ _ => rfl)) (da_cons (de_ix hu1 (de_var (i := 1) rfl (vis_by rfl) (by decide) (by decide)) de_int (fun _ _ => rfl)) da_nil rfl) rfl) rfl) (by decide) rfl rfl) (dg_tup (n := 2) rfl (dgs_cons (dg_name (i := 2) sc__law_right.nd rfl (loc_by rfl) (.inl rfl)) (dgs_cons (dg_name (i := 3) sc__law_right.nd rfl (loc_by rfl) (.inl rfl)) dgs_nil rfl) rfl) rfl rfl rfl) rfl rfl rfl)
    (ds_cons (ds_set (i := 4) sc__law_right.nd rfl (loc_by rfl) (de_def d__law_table hT (by decide) rfl hr hgd (by rfl) (da_cons (de_var (i := 2) rfl (vis_by rfl) (by decide) (by decide)) (da_cons (de_var (i := 3) rfl (vis_by rfl) (by decide) (by decide)) (da_cons de_int da_nil rfl) rfl) rfl) (by decide) rfl rfl) rfl (.inl rfl))
    (ds_cons (ds_for PassesOwn.never rfl (di_range1 (by rfl) T.n_range (da_cons (de_callB (L2.call_min2 rfl) vr_min2 (by rfl) T.n_min boot_min (da_cons de_int (da_cons (de_callB cr_len vr_len (by rfl) T.n_len boot_len (da_cons (de_ix hu1 (de_var (i := 2) rfl (vis_by rfl) (by decide) (by decide)) de_int (fun _ _ => rfl)) da_nil rfl) (by decide) (by decide) rfl rfl) da_nil rfl) rfl) (by decide) (by decide) rfl rfl) da_nil rfl) rfl) (dg_name (i := 5) sc__law_right.nd rfl (loc_by rfl) (.inl rfl)) (ds_cons (ds_par3 (i := 6) (j := 7) (l := 8) rfl sc__law_right.nd rfl rfl rfl (by decide) (by decide) (by decide) rfl rfl rfl (da_cons (de_def d__law_take hT (by decide) rfl hr hgd (by rfl) (da_cons (de_var (i := 0) rfl (vis_by rfl) (by decide) (by decide)) (da_cons (de_callB cr_len vr_len (by rfl) T.n_len boot_len (da_cons (de_ix hu1 (de_var (i := 2) rfl (vis_by rfl) (by decide) (by decide)) de_int (fun _ _ => rfl)) da_nil rfl) (by decide) (by decide) rfl rfl) da_nil rfl) rfl) (by decide) rfl rfl) (da_cons de_int (da_cons de_bl da_nil rfl) rfl) rfl) rfl rfl)
    (ds_cons (ds_unp (de_ix hu1 (de_ix hu1 (de_var (i := 2) rfl (vis_by rfl) (by decide) (by decide)) de_int (fun _ _ => rfl)) (de_var (i := 6) rfl (vis_by rfl) (by decide) (by decide)) (fun _ _ => rfl)) (dg_tup (n := 3) rfl (dgs_cons (dg_name (i := 9) sc__law_right.nd rfl (loc_by rfl) (.inl rfl)) (dgs_cons (dg_name (i := 10) sc__law_right.nd rfl (loc_by rfl) (.inl rfl)) (dgs_cons (dg_name (i := 11) sc__law_right.nd rfl (loc_by rfl) (.inl rfl)) dgs_nil rfl) rfl) rfl) rfl rfl rfl) rfl rfl rfl)
    (ds_cons (ds_whileW PassesOwn.never (dw_and (dt_val (de_var (i := 8) rfl (vis_by rfl) (by decide) (by decide)) (fun _ => rfl)) (dw_and1 (dt_cmp (or_lt hu64) op2_ord (de_op or_add op2_add (de_var (i := 9) rfl (vis_by rfl) (by decide) (by decide)) (de_var (i := 7) rfl (vis_by rfl) (by decide) (by decide))) de_int rfl))).pt (ds_cons (ds_set (i := 12) sc__law_right.nd rfl (loc_by rfl) (de_tup (da_cons (de_op or_add op2_add (de_op or_add op2_add (de_var (i := 9) rfl (vis_by rfl) (by decide) (by decide)) (de_var (i := 7) rfl (vis_by rfl) (by decide) (by decide))) de_int) (da_cons (de_var (i := 10) rfl (vis_by rfl) (by decide) (by decide)) (da_cons (de_var (i := 11) rfl (vis_by rfl) (by decide) (by decide)) da_nil rfl) rfl) rfl)) rfl (.inl rfl))
    (ds_cons (ds_set (i := 13) sc__law_right.nd rfl (loc_by rfl) (de_op or_add op2_add (de_slice (de_ix hu1 (de_var (i := 2) rfl (vis_by rfl) (by decide) (by decide)) de_int (fun _ _ => rfl)) do_none (do_some (de_var (i := 6) rfl (vis_by rfl) (by decide) (by decide)))) (de_slice (de_ix hu1 (de_var (i := 2) rfl (vis_by rfl) (by decide) (by decide)) de_int (fun _ _ => rfl)) (do_some (de_op or_add op2_add (de_var (i := 6) rfl (vis_by rfl) (by decide) (by decide)) de_int)) do_none)) rfl (.inl rfl))
    (ds_cons (ds_set (i := 8) sc__law_right.nd rfl (loc_by rfl) (de_and (de_cmp (or_notIn hu65) op2_in (de_var (i := 12) rfl (vis_by rfl) (by decide) (by decide)) (de_var (i := 13) rfl (vis_by rfl) (by decide) (by decide)) rfl) (de_one (de_cmp (L2.op_eqD hu64) op2_eq (de_def d__law_table hT (by decide) rfl hr hgd (by rfl) (da_cons (de_tup (da_cons (de_ix hu1 (de_var (i := 2) rfl (vis_by rfl) (by decide) (by decide)) de_int (fun _ _ => rfl)) (da_cons (de_callTy L2.call_tuple_of vr_tuple (by rfl) T.n_tuple boot_tuple (da_cons (de_callB (cr_sortAll rfl hu70) vr_sorted (by rfl) T.n_sorted boot_sorted (da_cons (de_op or_add op2_add (de_var (i := 13) rfl (vis_by rfl) (by decide) (by decide)) (de_tup (da_cons (de_var (i := 12) rfl (vis_by rfl) (by decide) (by decide)) da_nil rfl))) da_nil rfl) (by decide) (by decide) rfl rfl) da_nil rfl) (by decide) (by decide) rfl rfl) da_nil rfl) rfl)) (da_cons (de_var (i := 3) rfl (vis_by rfl) (by decide) (by decide)) (da_cons de_int da_nil rfl) rfl) rfl) (by decide) rfl rfl) (de_var (i := 4) rfl (vis_by rfl) (by decide) (by decide)) rfl))) rfl (.inl rfl))
    (ds_cons (ds_set (i := 7) sc__law_right.nd rfl (loc_by rfl) (de_op or_add op2_add (de_var (i := 7) rfl (vis_by rfl) (by decide) (by decide)) (de_callTy L2.call_int1 vr_int (by rfl) T.n_int boot_int (da_cons (de_var (i := 8) rfl (vis_by rfl) (by decide) (by decide)) da_nil rfl) (by decide) (by decide) rfl rfl)) rfl (.inl rfl))
    ds_nil)))))
    (ds_cons (ds_if (dt_cmp (L2.op_neD hu64) op2_ne (de_callB (cr_repr hgd hu64) vr_repr (by rfl) T.n_repr boot_repr (da_cons (de_lst (da_cons (de_def d_room hT (by decide) rfl hr hgd (by rfl) (da_cons (de_var (i := 2) rfl (vis_by rfl) (by decide) (by decide)) (da_cons (de_var (i := 3) rfl (vis_by rfl) (by decide) (by decide)) (da_cons (de_var (i := 6) rfl (vis_by rfl) (by decide) (by decide)) da_nil rfl) rfl) rfl) (by decide) rfl rfl) (da_cons (de_defK0 dk_room hT (by decide) rfl rfl (by decide) hr hgd (by rfl) (dk_cons (de_var (i := 6) rfl (vis_by rfl) (by decide) (by decide)) (dk_cons (de_var (i := 3) rfl (vis_by rfl) (by decide) (by decide)) (dk_cons (de_var (i := 2) rfl (vis_by rfl) (by decide) (by decide)) dk_nil))) rfl rfl (an_cons (an_cons (an_cons an_nil))) (by decide) rfl) da_nil rfl) rfl)) da_nil rfl) (by decide) (by decide) rfl rfl) (de_callB (cr_repr hgd hu64) vr_repr (by rfl) T.n_repr boot_repr (da_cons (de_lst (da_cons (de_var (i := 7) rfl (vis_by rfl) (by decide) (by decide)) (da_cons (de_var (i := 7) rfl (vis_by rfl) (by decide) (by decide)) da_nil rfl) rfl)) da_nil rfl) (by decide) (by decide) rfl rfl) rfl) (ds_cons (ds_ret de_bl)
    ds_nil) ds_nil)
    ds_nil)))) (fun _ => rfl))
    (ds_cons (ds_ret (de_cmp (L2.op_eqD hu64) op2_eq (de_def d_room hT (by decide) rfl hr hgd (by rfl) (da_cons (de_tup (da_cons de_int (da_cons (de_tup (da_cons (de_tup (da_cons de_int (da_cons de_int (da_cons de_int da_nil rfl) rfl) rfl)) (da_cons (de_tup (da_cons de_int (da_cons de_int (da_cons de_int da_nil rfl) rfl) rfl)) da_nil rfl) rfl)) da_nil rfl) rfl)) (da_cons de_str (da_cons de_int da_nil rfl) rfl) rfl) (by decide) rfl rfl) de_int rfl))
    ds_nil))))
theorem ok_law [Tbi : Tabl] (h0 : Tbi.fx = []) (hT : TopI T0 Tbi) (T : Txt K mg T0.F) (d__law_pool : DefOk P w K mg base T0 "_law_pool" 1 2 [] p__law_pool) (d__law_right : DefOk P w K mg base T0 "_law_right" 13 2 [0] p__law_right) {f : Addr} {fd : FuncData} (F : L2.Fun K "law" "law" s_law f fd) :
    FnG P w K mg base L2.CX0 14 f fd ["script"] (spM K mg 1 [] p_law) := by
  haveI : FxG [] := fxg0 h0
  have fxn : ∀ vs : List Nat, ∀ j ∈ Tbi.fx, j ∉ vs := fun vs => fxn0 h0
  refine okG (k := 13) h0 F sc_law (by decide) (by decide) fun cdv A outer s H E hr hgd => ?_
  have hu1 := L2.hu_of hr; have hu64 := hr.units; have hu70 := hu_70 hr; have hu65 := hu_65 hr
  exact (ds_cons (ds_for PassesOwn.never rfl (di_range1 (by rfl) T.n_range (da_cons (de_callB (L2.call_max2 rfl) vr_max2 (by rfl) T.n_max boot_max (da_cons de_int (da_cons (de_callB (L2.call_min2 rfl) vr_min2 (by rfl) T.n_min boot_min (da_cons (de_callB cr_len vr_len (by rfl) T.n_len boot_len (da_cons (de_var (i := 0) rfl (vis_by rfl) (by decide) (by decide)) da_nil rfl) (by decide) (by decide) rfl rfl) (da_cons de_int da_nil rfl) rfl) (by decide) (by decide) rfl rfl) da_nil rfl) rfl) (by decide) (by decide) rfl rfl) da_nil rfl) rfl) (dg_name (i := 1) sc_law.nd rfl (loc_by rfl) (.inl rfl)) (ds_cons (ds_set (i := 2) sc_law.nd rfl (loc_by rfl) (de_def d__law_pool hT (by decide) rfl hr hgd (by rfl) (da_cons (de_var (i := 0) rfl (vis_by rfl) (by decide) (by decide)) (da_cons (de_var (i := 1) rfl (vis_by rfl) (by decide) (by decide)) da_nil rfl) rfl) (by decide) rfl rfl) rfl (.inl rfl))
    (ds_cons (ds_for PassesOwn.never rfl (di_seq (de_lst (da_cons (de_tup (da_cons de_int (da_cons de_int da_nil rfl) rfl)) (da_cons (de_tup (da_cons de_int (da_cons de_int da_nil rfl) rfl)) (da_cons (de_tup (da_cons de_int (da_cons de_int da_nil rfl) rfl)) (da_cons (de_tup (da_cons de_int (da_cons de_int da_nil rfl) rfl)) (da_cons (de_tup (da_cons de_int (da_cons de_int da_nil rfl) rfl)) da_nil rfl) rfl) rfl) rfl) rfl))) (dg_name (i := 3) sc_law.nd rfl (loc_by rfl) (.inl rfl)) (ds_cons (ds_if (dt_not (dt_val (de_def d__law_right hT (by decide) rfl hr hgd (by rfl) (da_cons (de_var (i := 2) rfl (vis_by rfl) (by decide) (by decide)) (da_cons (de_var (i := 3) rfl (vis_by rfl) (by decide) (by decide)) da_nil rfl) rfl) (by decide) rfl rfl) (fun _ => rfl))) (ds_cons (ds_ret de_bl)
    ds_nil) ds_nil)
    ds_nil) (fun _ => rfl))
    ds_nil)) (fun _ => rfl))
    (ds_cons (ds_ret de_bl)
    ds_nil))
end
theorem all_mk {l : PySem.W.OpenLaw} {w : World} {K : PySem.W.Frag} {h : Heap} {mg : Str → Option Value} {fa : Addr} (X : K.In h) (G : h.Ns mainGlobals mg) {F0 : Hp} (hfa : mg "law" = some (.ref fa)) (hN : ∀ a ps, F0 a ≠ some (.tbl ps))
    (y_KINDS : TupIn K mg F0 "KINDS" [(.str "strict"), (.str "loose")])
    {f__law_pool : Addr} {od__law_pool an__law_pool : Option Addr} {sl__law_pool : Array (Option Value)} {oc__law_pool kV__law_pool dc__law_pool pm__law_pool cd__law_pool ct__law_pool : Value}
    {f__law_take : Addr} {od__law_take an__law_take : Option Addr} {sl__law_take : Array (Option Value)} {oc__law_take kV__law_take dc__law_take pm__law_take cd__law_take ct__law_take : Value}
    {f__law_of : Addr} {od__law_of an__law_of : Option Addr} {sl__law_of : Array (Option Value)} {oc__law_of kV__law_of dc__law_of pm__law_of cd__law_of ct__law_of : Value}
    {f__law_web : Addr} {od__law_web an__law_web : Option Addr} {sl__law_web : Array (Option Value)} {oc__law_web kV__law_web dc__law_web pm__law_web cd__law_web ct__law_web : Value}
    {f__law_table : Addr} {od__law_table an__law_table : Option Addr} {sl__law_table : Array (Option Value)} {oc__law_table kV__law_table dc__law_table pm__law_table cd__law_table ct__law_table : Value}
    {f_first_wrong : Addr} {od_first_wrong an_first_wrong : Option Addr} {sl_first_wrong : Array (Option Value)} {oc_first_wrong kV_first_wrong dc_first_wrong pm_first_wrong cd_first_wrong ct_first_wrong : Value}
    {f_is_tuple_of : Addr} {od_is_tuple_of an_is_tuple_of : Option Addr} {sl_is_tuple_of : Array (Option Value)} {oc_is_tuple_of kV_is_tuple_of dc_is_tuple_of pm_is_tuple_of cd_is_tuple_of ct_is_tuple_of : Value}
    {f_is_whole : Addr} {od_is_whole an_is_whole : Option Addr} {sl_is_whole : Array (Option Value)} {oc_is_whole kV_is_whole dc_is_whole pm_is_whole cd_is_whole ct_is_whole : Value}
    {f_is_between : Addr} {od_is_between an_is_between : Option Addr} {sl_is_between : Array (Option Value)} {oc_is_between kV_is_between dc_is_between pm_is_between cd_is_between ct_is_between : Value}
    {f_is_triple : Addr} {od_is_triple an_is_triple : Option Addr} {sl_is_triple : Array (Option Value)} {oc_is_triple kV_is_triple dc_is_triple pm_is_triple cd_is_triple ct_is_triple : Value}
    {f_is_next : Addr} {od_is_next an_is_next : Option Addr} {sl_is_next : Array (Option Value)} {oc_is_next kV_is_next dc_is_next pm_is_next cd_is_next ct_is_next : Value}
    {f_wrong_meeting : Addr} {od_wrong_meeting an_wrong_meeting : Option Addr} {sl_wrong_meeting : Array (Option Value)} {oc_wrong_meeting kV_wrong_meeting dc_wrong_meeting pm_wrong_meeting  ct_wrong_meeting : Value}
    {cc_wrong_meeting P_wrong_meeting : Addr}
    {f_is_places : Addr} {od_is_places an_is_places : Option Addr} {sl_is_places : Array (Option Value)} {oc_is_places kV_is_places dc_is_places pm_is_places cd_is_places ct_is_places : Value}
    {f_is_row : Addr} {od_is_row an_is_row : Option Addr} {sl_is_row : Array (Option Value)} {oc_is_row kV_is_row dc_is_row pm_is_row cd_is_row ct_is_row : Value}
    {f_is_frame : Addr} {od_is_frame an_is_frame : Option Addr} {sl_is_frame : Array (Option Value)} {oc_is_frame kV_is_frame dc_is_frame pm_is_frame cd_is_frame ct_is_frame : Value}
    {f_check_web : Addr} {od_check_web an_check_web : Option Addr} {sl_check_web : Array (Option Value)} {oc_check_web kV_check_web dc_check_web pm_check_web cd_check_web ct_check_web : Value}
    {f_is_string : Addr} {od_is_string an_is_string : Option Addr} {sl_is_string : Array (Option Value)} {oc_is_string kV_is_string dc_is_string pm_is_string cd_is_string ct_is_string : Value}
    {f_is_kind : Addr} {od_is_kind an_is_kind : Option Addr} {sl_is_kind : Array (Option Value)} {oc_is_kind kV_is_kind dc_is_kind pm_is_kind cd_is_kind ct_is_kind : Value}
    {f_check_kind : Addr} {od_check_kind an_check_kind : Option Addr} {sl_check_kind : Array (Option Value)} {oc_check_kind kV_check_kind dc_check_kind pm_check_kind cd_check_kind ct_check_kind : Value}
    {f_check_kinded : Addr} {od_check_kinded an_check_kinded : Option Addr} {sl_check_kinded : Array (Option Value)} {oc_check_kinded kV_check_kinded dc_check_kinded pm_check_kinded cd_check_kinded ct_check_kinded : Value}
    {f_is_meeting : Addr} {od_is_meeting an_is_meeting : Option Addr} {sl_is_meeting : Array (Option Value)} {oc_is_meeting kV_is_meeting dc_is_meeting pm_is_meeting cd_is_meeting ct_is_meeting : Value}
    {f_check_meeting : Addr} {od_check_meeting an_check_meeting : Option Addr} {sl_check_meeting : Array (Option Value)} {oc_check_meeting kV_check_meeting dc_check_meeting pm_check_meeting cd_check_meeting ct_check_meeting : Value}
    {f_check_roomed : Addr} {od_check_roomed an_check_roomed : Option Addr} {sl_check_roomed : Array (Option Value)} {oc_check_roomed kV_check_roomed dc_check_roomed pm_check_roomed cd_check_roomed ct_check_roomed : Value}
    {f_made_web : Addr} {od_made_web an_made_web : Option Addr} {sl_made_web : Array (Option Value)} {oc_made_web kV_made_web dc_made_web pm_made_web cd_made_web ct_made_web : Value}
    {f_without_by : Addr} {od_without_by an_without_by : Option Addr} {sl_without_by : Array (Option Value)} {oc_without_by kV_without_by dc_without_by pm_without_by cd_without_by ct_without_by : Value}
    {f_later_by : Addr} {od_later_by an_later_by : Option Addr} {sl_later_by : Array (Option Value)} {oc_later_by kV_later_by dc_later_by pm_later_by cd_later_by ct_later_by : Value}
    {f_led_at : Addr} {od_led_at an_led_at : Option Addr} {sl_led_at : Array (Option Value)} {oc_led_at kV_led_at dc_led_at pm_led_at cd_led_at ct_led_at : Value}
    {f_ends_of : Addr} {od_ends_of an_ends_of : Option Addr} {sl_ends_of : Array (Option Value)} {oc_ends_of kV_ends_of dc_ends_of pm_ends_of cd_ends_of ct_ends_of : Value}
    {f_arrivals_by : Addr} {od_arrivals_by an_arrivals_by : Option Addr} {sl_arrivals_by : Array (Option Value)} {oc_arrivals_by kV_arrivals_by dc_arrivals_by pm_arrivals_by cd_arrivals_by ct_arrivals_by : Value}
    {f_come_by : Addr} {od_come_by an_come_by : Option Addr} {sl_come_by : Array (Option Value)} {oc_come_by kV_come_by dc_come_by pm_come_by cd_come_by ct_come_by : Value}
    {f_table_by : Addr} {od_table_by an_table_by : Option Addr} {sl_table_by : Array (Option Value)} {oc_table_by kV_table_by dc_table_by pm_table_by cd_table_by ct_table_by : Value}
    {f_room_by : Addr} {od_room_by an_room_by : Option Addr} {sl_room_by : Array (Option Value)} {oc_room_by kV_room_by dc_room_by pm_room_by cd_room_by ct_room_by : Value}
    {f_room : Addr} {od_room an_room : Option Addr} {sl_room : Array (Option Value)} {oc_room kV_room dc_room pm_room cd_room ct_room : Value}
    {f__law_right : Addr} {od__law_right an__law_right : Option Addr} {sl__law_right : Array (Option Value)} {oc__law_right kV__law_right dc__law_right pm__law_right cd__law_right ct__law_right : Value}
    {f_law : Addr} {od_law an_law : Option Addr} {sl_law : Array (Option Value)} {oc_law kV_law dc_law pm_law cd_law ct_law : Value}
    {t_FEWEST_PLACES : Tok}
    {t_MOST_MEETINGS : Tok}
    {t_MOST_PLACES : Tok}
    {t_MOST_TIME : Tok}
    {t_STRICT : Tok}
    (a__law_pool : PySem.W.nsIn K mainGlobals "_law_pool" = some (some (.ref f__law_pool)))
    (l__law_pool : K.lookup f__law_pool = some ⟨oc__law_pool, od__law_pool, .func (PySem.W.fnOf "_law_pool" "_law_pool" (defArgs s__law_pool) (defBody s__law_pool) (defScope s__law_pool) .none kV__law_pool dc__law_pool pm__law_pool an__law_pool cd__law_pool ct__law_pool), sl__law_pool⟩)
    (c__law_pool : PySem.W.codeIn K cd__law_pool "_law_pool" = true)
    (k__law_pool : PySem.W.keepIn K (.ref f__law_pool) = true)
    (a__law_take : PySem.W.nsIn K mainGlobals "_law_take" = some (some (.ref f__law_take)))
    (l__law_take : K.lookup f__law_take = some ⟨oc__law_take, od__law_take, .func (PySem.W.fnOf "_law_take" "_law_take" (defArgs s__law_take) (defBody s__law_take) (defScope s__law_take) .none kV__law_take dc__law_take pm__law_take an__law_take cd__law_take ct__law_take), sl__law_take⟩)
    (c__law_take : PySem.W.codeIn K cd__law_take "_law_take" = true)
    (k__law_take : PySem.W.keepIn K (.ref f__law_take) = true)
    (a__law_of : PySem.W.nsIn K mainGlobals "_law_of" = some (some (.ref f__law_of)))
    (l__law_of : K.lookup f__law_of = some ⟨oc__law_of, od__law_of, .func (PySem.W.fnOf "_law_of" "_law_of" (defArgs s__law_of) (defBody s__law_of) (defScope s__law_of) .none kV__law_of dc__law_of pm__law_of an__law_of cd__law_of ct__law_of), sl__law_of⟩)
    (c__law_of : PySem.W.codeIn K cd__law_of "_law_of" = true)
    (k__law_of : PySem.W.keepIn K (.ref f__law_of) = true)
    (a__law_web : PySem.W.nsIn K mainGlobals "_law_web" = some (some (.ref f__law_web)))
    (l__law_web : K.lookup f__law_web = some ⟨oc__law_web, od__law_web, .func (PySem.W.fnOf "_law_web" "_law_web" (defArgs s__law_web) (defBody s__law_web) (defScope s__law_web) .none kV__law_web dc__law_web pm__law_web an__law_web cd__law_web ct__law_web), sl__law_web⟩)
    (c__law_web : PySem.W.codeIn K cd__law_web "_law_web" = true)
    (k__law_web : PySem.W.keepIn K (.ref f__law_web) = true)
    (a__law_table : PySem.W.nsIn K mainGlobals "_law_table" = some (some (.ref f__law_table)))
    (l__law_table : K.lookup f__law_table = some ⟨oc__law_table, od__law_table, .func (PySem.W.fnOf "_law_table" "_law_table" (defArgs s__law_table) (defBody s__law_table) (defScope s__law_table) .none kV__law_table dc__law_table pm__law_table an__law_table cd__law_table ct__law_table), sl__law_table⟩)
    (c__law_table : PySem.W.codeIn K cd__law_table "_law_table" = true)
    (k__law_table : PySem.W.keepIn K (.ref f__law_table) = true)
    (a_first_wrong : PySem.W.nsIn K mainGlobals "first_wrong" = some (some (.ref f_first_wrong)))
    (l_first_wrong : K.lookup f_first_wrong = some ⟨oc_first_wrong, od_first_wrong, .func (PySem.W.fnOf "first_wrong" "first_wrong" (defArgs s_first_wrong) (defBody s_first_wrong) (defScope s_first_wrong) .none kV_first_wrong dc_first_wrong pm_first_wrong an_first_wrong cd_first_wrong ct_first_wrong), sl_first_wrong⟩)
    (c_first_wrong : PySem.W.codeIn K cd_first_wrong "first_wrong" = true)
    (k_first_wrong : PySem.W.keepIn K (.ref f_first_wrong) = true)
    (a_is_tuple_of : PySem.W.nsIn K mainGlobals "is_tuple_of" = some (some (.ref f_is_tuple_of)))
    (l_is_tuple_of : K.lookup f_is_tuple_of = some ⟨oc_is_tuple_of, od_is_tuple_of, .func (PySem.W.fnOf "is_tuple_of" "is_tuple_of" (defArgs s_is_tuple_of) (defBody s_is_tuple_of) (defScope s_is_tuple_of) .none kV_is_tuple_of dc_is_tuple_of pm_is_tuple_of an_is_tuple_of cd_is_tuple_of ct_is_tuple_of), sl_is_tuple_of⟩)
    (c_is_tuple_of : PySem.W.codeIn K cd_is_tuple_of "is_tuple_of" = true)
    (k_is_tuple_of : PySem.W.keepIn K (.ref f_is_tuple_of) = true)
    (a_is_whole : PySem.W.nsIn K mainGlobals "is_whole" = some (some (.ref f_is_whole)))
    (l_is_whole : K.lookup f_is_whole = some ⟨oc_is_whole, od_is_whole, .func (PySem.W.fnOf "is_whole" "is_whole" (defArgs s_is_whole) (defBody s_is_whole) (defScope s_is_whole) .none kV_is_whole dc_is_whole pm_is_whole an_is_whole cd_is_whole ct_is_whole), sl_is_whole⟩)
    (c_is_whole : PySem.W.codeIn K cd_is_whole "is_whole" = true)
    (k_is_whole : PySem.W.keepIn K (.ref f_is_whole) = true)
    (a_is_between : PySem.W.nsIn K mainGlobals "is_between" = some (some (.ref f_is_between)))
    (l_is_between : K.lookup f_is_between = some ⟨oc_is_between, od_is_between, .func (PySem.W.fnOf "is_between" "is_between" (defArgs s_is_between) (defBody s_is_between) (defScope s_is_between) .none kV_is_between dc_is_between pm_is_between an_is_between cd_is_between ct_is_between), sl_is_between⟩)
    (c_is_between : PySem.W.codeIn K cd_is_between "is_between" = true)
    (k_is_between : PySem.W.keepIn K (.ref f_is_between) = true)
    (a_is_triple : PySem.W.nsIn K mainGlobals "is_triple" = some (some (.ref f_is_triple)))
    (l_is_triple : K.lookup f_is_triple = some ⟨oc_is_triple, od_is_triple, .func (PySem.W.fnOf "is_triple" "is_triple" (defArgs s_is_triple) (defBody s_is_triple) (defScope s_is_triple) .none kV_is_triple dc_is_triple pm_is_triple an_is_triple cd_is_triple ct_is_triple), sl_is_triple⟩)
    (c_is_triple : PySem.W.codeIn K cd_is_triple "is_triple" = true)
    (k_is_triple : PySem.W.keepIn K (.ref f_is_triple) = true)
    (a_is_next : PySem.W.nsIn K mainGlobals "is_next" = some (some (.ref f_is_next)))
    (l_is_next : K.lookup f_is_next = some ⟨oc_is_next, od_is_next, .func (PySem.W.fnOf "is_next" "is_next" (defArgs s_is_next) (defBody s_is_next) (defScope s_is_next) .none kV_is_next dc_is_next pm_is_next an_is_next cd_is_next ct_is_next), sl_is_next⟩)
    (c_is_next : PySem.W.codeIn K cd_is_next "is_next" = true)
    (k_is_next : PySem.W.keepIn K (.ref f_is_next) = true)
    (a_wrong_meeting : PySem.W.nsIn K mainGlobals "wrong_meeting" = some (some (.ref f_wrong_meeting)))
    (l_wrong_meeting : K.lookup f_wrong_meeting = some ⟨oc_wrong_meeting, od_wrong_meeting, .func (PySem.W.fnOf "wrong_meeting" "wrong_meeting" (defArgs s_wrong_meeting) (defBody s_wrong_meeting) (defScope s_wrong_meeting) .none kV_wrong_meeting dc_wrong_meeting pm_wrong_meeting an_wrong_meeting (.ref cc_wrong_meeting) ct_wrong_meeting), sl_wrong_meeting⟩)
    (c_wrong_meeting : PySem.W.codeIn K (.ref cc_wrong_meeting) "wrong_meeting" = true)
    (k_wrong_meeting : PySem.W.keepIn K (.ref f_wrong_meeting) = true)
    (t_wrong_meeting : PySem.W.tabIn K "wrong_meeting" = some (cc_wrong_meeting, P_wrong_meeting))
    (u_wrong_meeting : K.lookup P_wrong_meeting = none)
    (a_is_places : PySem.W.nsIn K mainGlobals "is_places" = some (some (.ref f_is_places)))
    (l_is_places : K.lookup f_is_places = some ⟨oc_is_places, od_is_places, .func (PySem.W.fnOf "is_places" "is_places" (defArgs s_is_places) (defBody s_is_places) (defScope s_is_places) .none kV_is_places dc_is_places pm_is_places an_is_places cd_is_places ct_is_places), sl_is_places⟩)
    (c_is_places : PySem.W.codeIn K cd_is_places "is_places" = true)
    (k_is_places : PySem.W.keepIn K (.ref f_is_places) = true)
    (a_is_row : PySem.W.nsIn K mainGlobals "is_row" = some (some (.ref f_is_row)))
    (l_is_row : K.lookup f_is_row = some ⟨oc_is_row, od_is_row, .func (PySem.W.fnOf "is_row" "is_row" (defArgs s_is_row) (defBody s_is_row) (defScope s_is_row) .none kV_is_row dc_is_row pm_is_row an_is_row cd_is_row ct_is_row), sl_is_row⟩)
    (c_is_row : PySem.W.codeIn K cd_is_row "is_row" = true)
    (k_is_row : PySem.W.keepIn K (.ref f_is_row) = true)
    (a_is_frame : PySem.W.nsIn K mainGlobals "is_frame" = some (some (.ref f_is_frame)))
    (l_is_frame : K.lookup f_is_frame = some ⟨oc_is_frame, od_is_frame, .func (PySem.W.fnOf "is_frame" "is_frame" (defArgs s_is_frame) (defBody s_is_frame) (defScope s_is_frame) .none kV_is_frame dc_is_frame pm_is_frame an_is_frame cd_is_frame ct_is_frame), sl_is_frame⟩)
    (c_is_frame : PySem.W.codeIn K cd_is_frame "is_frame" = true)
    (k_is_frame : PySem.W.keepIn K (.ref f_is_frame) = true)
    (a_check_web : PySem.W.nsIn K mainGlobals "check_web" = some (some (.ref f_check_web)))
    (l_check_web : K.lookup f_check_web = some ⟨oc_check_web, od_check_web, .func (PySem.W.fnOf "check_web" "check_web" (defArgs s_check_web) (defBody s_check_web) (defScope s_check_web) .none kV_check_web dc_check_web pm_check_web an_check_web cd_check_web ct_check_web), sl_check_web⟩)
    (c_check_web : PySem.W.codeIn K cd_check_web "check_web" = true)
    (k_check_web : PySem.W.keepIn K (.ref f_check_web) = true)
    (a_is_string : PySem.W.nsIn K mainGlobals "is_string" = some (some (.ref f_is_string)))
    (l_is_string : K.lookup f_is_string = some ⟨oc_is_string, od_is_string, .func (PySem.W.fnOf "is_string" "is_string" (defArgs s_is_string) (defBody s_is_string) (defScope s_is_string) .none kV_is_string dc_is_string pm_is_string an_is_string cd_is_string ct_is_string), sl_is_string⟩)
    (c_is_string : PySem.W.codeIn K cd_is_string "is_string" = true)
    (k_is_string : PySem.W.keepIn K (.ref f_is_string) = true)
    (a_is_kind : PySem.W.nsIn K mainGlobals "is_kind" = some (some (.ref f_is_kind)))
    (l_is_kind : K.lookup f_is_kind = some ⟨oc_is_kind, od_is_kind, .func (PySem.W.fnOf "is_kind" "is_kind" (defArgs s_is_kind) (defBody s_is_kind) (defScope s_is_kind) .none kV_is_kind dc_is_kind pm_is_kind an_is_kind cd_is_kind ct_is_kind), sl_is_kind⟩)
    (c_is_kind : PySem.W.codeIn K cd_is_kind "is_kind" = true)
    (k_is_kind : PySem.W.keepIn K (.ref f_is_kind) = true)
    (a_check_kind : PySem.W.nsIn K mainGlobals "check_kind" = some (some (.ref f_check_kind)))
    (l_check_kind : K.lookup f_check_kind = some ⟨oc_check_kind, od_check_kind, .func (PySem.W.fnOf "check_kind" "check_kind" (defArgs s_check_kind) (defBody s_check_kind) (defScope s_check_kind) .none kV_check_kind dc_check_kind pm_check_kind an_check_kind cd_check_kind ct_check_kind), sl_check_kind⟩)
    (c_check_kind : PySem.W.codeIn K cd_check_kind "check_kind" = true)
    (k_check_kind : PySem.W.keepIn K (.ref f_check_kind) = true)
    (a_check_kinded : PySem.W.nsIn K mainGlobals "check_kinded" = some (some (.ref f_check_kinded)))
    (l_check_kinded : K.lookup f_check_kinded = some ⟨oc_check_kinded, od_check_kinded, .func (PySem.W.fnOf "check_kinded" "check_kinded" (defArgs s_check_kinded) (defBody s_check_kinded) (defScope s_check_kinded) .none kV_check_kinded dc_check_kinded pm_check_kinded an_check_kinded cd_check_kinded ct_check_kinded), sl_check_kinded⟩)
    (c_check_kinded : PySem.W.codeIn K cd_check_kinded "check_kinded" = true)
    (k_check_kinded : PySem.W.keepIn K (.ref f_check_kinded) = true)
    (a_is_meeting : PySem.W.nsIn K mainGlobals "is_meeting" = some (some (.ref f_is_meeting)))
    (l_is_meeting : K.lookup f_is_meeting = some ⟨oc_is_meeting, od_is_meeting, .func (PySem.W.fnOf "is_meeting" "is_meeting" (defArgs s_is_meeting) (defBody s_is_meeting) (defScope s_is_meeting) .none kV_is_meeting dc_is_meeting pm_is_meeting an_is_meeting cd_is_meeting ct_is_meeting), sl_is_meeting⟩)
    (c_is_meeting : PySem.W.codeIn K cd_is_meeting "is_meeting" = true)
    (k_is_meeting : PySem.W.keepIn K (.ref f_is_meeting) = true)
    (a_check_meeting : PySem.W.nsIn K mainGlobals "check_meeting" = some (some (.ref f_check_meeting)))
    (l_check_meeting : K.lookup f_check_meeting = some ⟨oc_check_meeting, od_check_meeting, .func (PySem.W.fnOf "check_meeting" "check_meeting" (defArgs s_check_meeting) (defBody s_check_meeting) (defScope s_check_meeting) .none kV_check_meeting dc_check_meeting pm_check_meeting an_check_meeting cd_check_meeting ct_check_meeting), sl_check_meeting⟩)
    (c_check_meeting : PySem.W.codeIn K cd_check_meeting "check_meeting" = true)
    (k_check_meeting : PySem.W.keepIn K (.ref f_check_meeting) = true)
    (a_check_roomed : PySem.W.nsIn K mainGlobals "check_roomed" = some (some (.ref f_check_roomed)))
    (l_check_roomed : K.lookup f_check_roomed = some ⟨oc_check_roomed, od_check_roomed, .func (PySem.W.fnOf "check_roomed" "check_roomed" (defArgs s_check_roomed) (defBody s_check_roomed) (defScope s_check_roomed) .none kV_check_roomed dc_check_roomed pm_check_roomed an_check_roomed cd_check_roomed ct_check_roomed), sl_check_roomed⟩)
    (c_check_roomed : PySem.W.codeIn K cd_check_roomed "check_roomed" = true)
    (k_check_roomed : PySem.W.keepIn K (.ref f_check_roomed) = true)
    (a_made_web : PySem.W.nsIn K mainGlobals "made_web" = some (some (.ref f_made_web)))
    (l_made_web : K.lookup f_made_web = some ⟨oc_made_web, od_made_web, .func (PySem.W.fnOf "made_web" "made_web" (defArgs s_made_web) (defBody s_made_web) (defScope s_made_web) .none kV_made_web dc_made_web pm_made_web an_made_web cd_made_web ct_made_web), sl_made_web⟩)
    (c_made_web : PySem.W.codeIn K cd_made_web "made_web" = true)
    (k_made_web : PySem.W.keepIn K (.ref f_made_web) = true)
    (a_without_by : PySem.W.nsIn K mainGlobals "without_by" = some (some (.ref f_without_by)))
    (l_without_by : K.lookup f_without_by = some ⟨oc_without_by, od_without_by, .func (PySem.W.fnOf "without_by" "without_by" (defArgs s_without_by) (defBody s_without_by) (defScope s_without_by) .none kV_without_by dc_without_by pm_without_by an_without_by cd_without_by ct_without_by), sl_without_by⟩)
    (c_without_by : PySem.W.codeIn K cd_without_by "without_by" = true)
    (k_without_by : PySem.W.keepIn K (.ref f_without_by) = true)
    (a_later_by : PySem.W.nsIn K mainGlobals "later_by" = some (some (.ref f_later_by)))
    (l_later_by : K.lookup f_later_by = some ⟨oc_later_by, od_later_by, .func (PySem.W.fnOf "later_by" "later_by" (defArgs s_later_by) (defBody s_later_by) (defScope s_later_by) .none kV_later_by dc_later_by pm_later_by an_later_by cd_later_by ct_later_by), sl_later_by⟩)
    (c_later_by : PySem.W.codeIn K cd_later_by "later_by" = true)
    (k_later_by : PySem.W.keepIn K (.ref f_later_by) = true)
    (a_led_at : PySem.W.nsIn K mainGlobals "led_at" = some (some (.ref f_led_at)))
    (l_led_at : K.lookup f_led_at = some ⟨oc_led_at, od_led_at, .func (PySem.W.fnOf "led_at" "led_at" (defArgs s_led_at) (defBody s_led_at) (defScope s_led_at) .none kV_led_at dc_led_at pm_led_at an_led_at cd_led_at ct_led_at), sl_led_at⟩)
    (c_led_at : PySem.W.codeIn K cd_led_at "led_at" = true)
    (k_led_at : PySem.W.keepIn K (.ref f_led_at) = true)
    (a_ends_of : PySem.W.nsIn K mainGlobals "ends_of" = some (some (.ref f_ends_of)))
    (l_ends_of : K.lookup f_ends_of = some ⟨oc_ends_of, od_ends_of, .func (PySem.W.fnOf "ends_of" "ends_of" (defArgs s_ends_of) (defBody s_ends_of) (defScope s_ends_of) .none kV_ends_of dc_ends_of pm_ends_of an_ends_of cd_ends_of ct_ends_of), sl_ends_of⟩)
    (c_ends_of : PySem.W.codeIn K cd_ends_of "ends_of" = true)
    (k_ends_of : PySem.W.keepIn K (.ref f_ends_of) = true)
    (a_arrivals_by : PySem.W.nsIn K mainGlobals "arrivals_by" = some (some (.ref f_arrivals_by)))
    (l_arrivals_by : K.lookup f_arrivals_by = some ⟨oc_arrivals_by, od_arrivals_by, .func (PySem.W.fnOf "arrivals_by" "arrivals_by" (defArgs s_arrivals_by) (defBody s_arrivals_by) (defScope s_arrivals_by) .none kV_arrivals_by dc_arrivals_by pm_arrivals_by an_arrivals_by cd_arrivals_by ct_arrivals_by), sl_arrivals_by⟩)
    (c_arrivals_by : PySem.W.codeIn K cd_arrivals_by "arrivals_by" = true)
    (k_arrivals_by : PySem.W.keepIn K (.ref f_arrivals_by) = true)
    (a_come_by : PySem.W.nsIn K mainGlobals "come_by" = some (some (.ref f_come_by)))
    (l_come_by : K.lookup f_come_by = some ⟨oc_come_by, od_come_by, .func (PySem.W.fnOf "come_by" "come_by" (defArgs s_come_by) (defBody s_come_by) (defScope s_come_by) .none kV_come_by dc_come_by pm_come_by an_come_by cd_come_by ct_come_by), sl_come_by⟩)
    (c_come_by : PySem.W.codeIn K cd_come_by "come_by" = true)
    (k_come_by : PySem.W.keepIn K (.ref f_come_by) = true)
    (a_table_by : PySem.W.nsIn K mainGlobals "table_by" = some (some (.ref f_table_by)))
    (l_table_by : K.lookup f_table_by = some ⟨oc_table_by, od_table_by, .func (PySem.W.fnOf "table_by" "table_by" (defArgs s_table_by) (defBody s_table_by) (defScope s_table_by) .none kV_table_by dc_table_by pm_table_by an_table_by cd_table_by ct_table_by), sl_table_by⟩)
    (c_table_by : PySem.W.codeIn K cd_table_by "table_by" = true)
    (k_table_by : PySem.W.keepIn K (.ref f_table_by) = true)
    (a_room_by : PySem.W.nsIn K mainGlobals "room_by" = some (some (.ref f_room_by)))
    (l_room_by : K.lookup f_room_by = some ⟨oc_room_by, od_room_by, .func (PySem.W.fnOf "room_by" "room_by" (defArgs s_room_by) (defBody s_room_by) (defScope s_room_by) .none kV_room_by dc_room_by pm_room_by an_room_by cd_room_by ct_room_by), sl_room_by⟩)
    (c_room_by : PySem.W.codeIn K cd_room_by "room_by" = true)
    (k_room_by : PySem.W.keepIn K (.ref f_room_by) = true)
    (a_room : PySem.W.nsIn K mainGlobals "room" = some (some (.ref f_room)))
    (l_room : K.lookup f_room = some ⟨oc_room, od_room, .func (PySem.W.fnOf "room" "room" (defArgs s_room) (defBody s_room) (defScope s_room) .none kV_room dc_room pm_room an_room cd_room ct_room), sl_room⟩)
    (c_room : PySem.W.codeIn K cd_room "room" = true)
    (k_room : PySem.W.keepIn K (.ref f_room) = true)
    (a__law_right : PySem.W.nsIn K mainGlobals "_law_right" = some (some (.ref f__law_right)))
    (l__law_right : K.lookup f__law_right = some ⟨oc__law_right, od__law_right, .func (PySem.W.fnOf "_law_right" "_law_right" (defArgs s__law_right) (defBody s__law_right) (defScope s__law_right) .none kV__law_right dc__law_right pm__law_right an__law_right cd__law_right ct__law_right), sl__law_right⟩)
    (c__law_right : PySem.W.codeIn K cd__law_right "_law_right" = true)
    (k__law_right : PySem.W.keepIn K (.ref f__law_right) = true)
    (a_law : PySem.W.nsIn K mainGlobals "law" = some (some (.ref f_law)))
    (l_law : K.lookup f_law = some ⟨oc_law, od_law, .func (PySem.W.fnOf "law" "law" (defArgs s_law) (defBody s_law) (defScope s_law) .none kV_law dc_law pm_law an_law cd_law ct_law), sl_law⟩)
    (c_law : PySem.W.codeIn K cd_law "law" = true)
    (k_law : PySem.W.keepIn K (.ref f_law) = true)
    (z_FEWEST_PLACES : PySem.W.nsIn K mainGlobals "FEWEST_PLACES" = some (some (.int 2 t_FEWEST_PLACES)))
    (z_MOST_MEETINGS : PySem.W.nsIn K mainGlobals "MOST_MEETINGS" = some (some (.int 12 t_MOST_MEETINGS)))
    (z_MOST_PLACES : PySem.W.nsIn K mainGlobals "MOST_PLACES" = some (some (.int 6 t_MOST_PLACES)))
    (z_MOST_TIME : PySem.W.nsIn K mainGlobals "MOST_TIME" = some (some (.int 20 t_MOST_TIME)))
    (z_STRICT : PySem.W.nsIn K mainGlobals "STRICT" = some (some (.str "strict" t_STRICT)))
    (zb_abs : PySem.W.nsIn K mainGlobals "abs" = some none)
    (zb_all : PySem.W.nsIn K mainGlobals "all" = some none)
    (zb_bool : PySem.W.nsIn K mainGlobals "bool" = some none)
    (zb_divmod : PySem.W.nsIn K mainGlobals "divmod" = some none)
    (zb_enumerate : PySem.W.nsIn K mainGlobals "enumerate" = some none)
    (zb_int : PySem.W.nsIn K mainGlobals "int" = some none)
    (zb_isinstance : PySem.W.nsIn K mainGlobals "isinstance" = some none)
    (zb_len : PySem.W.nsIn K mainGlobals "len" = some none)
    (zb_list : PySem.W.nsIn K mainGlobals "list" = some none)
    (zb_max : PySem.W.nsIn K mainGlobals "max" = some none)
    (zb_min : PySem.W.nsIn K mainGlobals "min" = some none)
    (zb_range : PySem.W.nsIn K mainGlobals "range" = some none)
    (zb_repr : PySem.W.nsIn K mainGlobals "repr" = some none)
    (zb_set : PySem.W.nsIn K mainGlobals "set" = some none)
    (zb_sorted : PySem.W.nsIn K mainGlobals "sorted" = some none)
    (zb_str : PySem.W.nsIn K mainGlobals "str" = some none)
    (zb_sum : PySem.W.nsIn K mainGlobals "sum" = some none)
    (zb_tuple : PySem.W.nsIn K mainGlobals "tuple" = some none)
    (hm : ∀ ns : List Int, ns.length ≤ 63 → p_law [.s ns] = .ok (.d (.bool true)) []) : LawG l w K 14 63 "script" ["wrong_meeting"] mg F0 fa := by
  have e := hfa.symm.trans (PySem.W.mg_of X G a_law)
  cases e
  obtain ⟨b_KINDS, v_KINDS, m_KINDS, q_KINDS, r_KINDS⟩ := y_KINDS
  have T : Txt K mg F0 := ⟨PySem.W.mg_none_of X G zb_abs, PySem.W.mg_none_of X G zb_all, PySem.W.mg_none_of X G zb_bool, PySem.W.mg_none_of X G zb_divmod, PySem.W.mg_none_of X G zb_enumerate, PySem.W.mg_none_of X G zb_int, PySem.W.mg_none_of X G zb_isinstance, PySem.W.mg_none_of X G zb_len, PySem.W.mg_none_of X G zb_list, PySem.W.mg_none_of X G zb_max, PySem.W.mg_none_of X G zb_min, PySem.W.mg_none_of X G zb_range, PySem.W.mg_none_of X G zb_repr, PySem.W.mg_none_of X G zb_set, PySem.W.mg_none_of X G zb_sorted, PySem.W.mg_none_of X G zb_str, PySem.W.mg_none_of X G zb_sum, PySem.W.mg_none_of X G zb_tuple, gdat_int (PySem.W.mg_of X G z_FEWEST_PLACES), gdat_tup m_KINDS q_KINDS r_KINDS, gdat_int (PySem.W.mg_of X G z_MOST_MEETINGS), gdat_int (PySem.W.mg_of X G z_MOST_PLACES), gdat_int (PySem.W.mg_of X G z_MOST_TIME), gdat_str (PySem.W.mg_of X G z_STRICT)⟩
  have F__law_pool := L2.fun_mk (st := s__law_pool) l__law_pool c__law_pool k__law_pool
  have b__law_pool := F__law_pool.binds (ps := ["script", "k"]) fun _ _ _ _ _ _ us hl => match us, hl with | [_, _], _ => rfl
  have F__law_take := L2.fun_mk (st := s__law_take) l__law_take c__law_take k__law_take
  have b__law_take := F__law_take.binds (ps := ["pool", "many"]) fun _ _ _ _ _ _ us hl => match us, hl with | [_, _], _ => rfl
  have F__law_of := L2.fun_mk (st := s__law_of) l__law_of c__law_of k__law_of
  have b__law_of := F__law_of.binds (ps := ["pool", "some"]) fun _ _ _ _ _ _ us hl => match us, hl with | [_, _], _ => rfl
  have F__law_web := L2.fun_mk (st := s__law_web) l__law_web c__law_web k__law_web
  have b__law_web := F__law_web.binds (ps := ["pool", "most", "many"]) fun _ _ _ _ _ _ us hl => match us, hl with | [_, _, _], _ => rfl
  have F__law_table := L2.fun_mk (st := s__law_table) l__law_table c__law_table k__law_table
  have b__law_table := F__law_table.binds (ps := ["web", "kind", "patience"]) fun _ _ _ _ _ _ us hl => match us, hl with | [_, _, _], _ => rfl
  have F_first_wrong := L2.fun_mk (st := s_first_wrong) l_first_wrong c_first_wrong k_first_wrong
  have F_is_tuple_of := L2.fun_mk (st := s_is_tuple_of) l_is_tuple_of c_is_tuple_of k_is_tuple_of
  have b_is_tuple_of := F_is_tuple_of.binds (ps := ["value", "many"]) fun _ _ _ _ _ _ us hl => match us, hl with | [_, _], _ => rfl
  have F_is_whole := L2.fun_mk (st := s_is_whole) l_is_whole c_is_whole k_is_whole
  have b_is_whole := F_is_whole.binds (ps := ["value"]) fun _ _ _ _ _ _ us hl => match us, hl with | [_], _ => rfl
  have F_is_between := L2.fun_mk (st := s_is_between) l_is_between c_is_between k_is_between
  have b_is_between := F_is_between.binds (ps := ["value", "least", "most"]) fun _ _ _ _ _ _ us hl => match us, hl with | [_, _, _], _ => rfl
  have F_is_triple := L2.fun_mk (st := s_is_triple) l_is_triple c_is_triple k_is_triple
  have b_is_triple := F_is_triple.binds (ps := ["places", "value"]) fun _ _ _ _ _ _ us hl => match us, hl with | [_, _], _ => rfl
  have F_is_next := L2.fun_mk (st := s_is_next) l_is_next c_is_next k_is_next
  have b_is_next := F_is_next.binds (ps := ["places", "value", "ahead"]) fun _ _ _ _ _ _ us hl => match us, hl with | [_, _, _], _ => rfl
  have F_wrong_meeting := L2.fun_mk (st := s_wrong_meeting) l_wrong_meeting c_wrong_meeting k_wrong_meeting
  have b_wrong_meeting := F_wrong_meeting.binds (ps := ["places", "value"]) fun _ _ _ _ _ _ us hl => match us, hl with | [_, _], _ => rfl
  have F_is_places := L2.fun_mk (st := s_is_places) l_is_places c_is_places k_is_places
  have b_is_places := F_is_places.binds (ps := ["value"]) fun _ _ _ _ _ _ us hl => match us, hl with | [_], _ => rfl
  have F_is_row := L2.fun_mk (st := s_is_row) l_is_row c_is_row k_is_row
  have b_is_row := F_is_row.binds (ps := ["value", "least", "most"]) fun _ _ _ _ _ _ us hl => match us, hl with | [_, _, _], _ => rfl
  have F_is_frame := L2.fun_mk (st := s_is_frame) l_is_frame c_is_frame k_is_frame
  have b_is_frame := F_is_frame.binds (ps := ["value"]) fun _ _ _ _ _ _ us hl => match us, hl with | [_], _ => rfl
  have F_check_web := L2.fun_mk (st := s_check_web) l_check_web c_check_web k_check_web
  have b_check_web := F_check_web.binds (ps := ["value"]) fun _ _ _ _ _ _ us hl => match us, hl with | [_], _ => rfl
  have F_is_string := L2.fun_mk (st := s_is_string) l_is_string c_is_string k_is_string
  have b_is_string := F_is_string.binds (ps := ["value"]) fun _ _ _ _ _ _ us hl => match us, hl with | [_], _ => rfl
  have F_is_kind := L2.fun_mk (st := s_is_kind) l_is_kind c_is_kind k_is_kind
  have b_is_kind := F_is_kind.binds (ps := ["value"]) fun _ _ _ _ _ _ us hl => match us, hl with | [_], _ => rfl
  have F_check_kind := L2.fun_mk (st := s_check_kind) l_check_kind c_check_kind k_check_kind
  have b_check_kind := F_check_kind.binds (ps := ["value"]) fun _ _ _ _ _ _ us hl => match us, hl with | [_], _ => rfl
  have F_check_kinded := L2.fun_mk (st := s_check_kinded) l_check_kinded c_check_kinded k_check_kinded
  have b_check_kinded := F_check_kinded.binds (ps := ["web", "kind"]) fun _ _ _ _ _ _ us hl => match us, hl with | [_, _], _ => rfl
  have F_is_meeting := L2.fun_mk (st := s_is_meeting) l_is_meeting c_is_meeting k_is_meeting
  have b_is_meeting := F_is_meeting.binds (ps := ["web", "value"]) fun _ _ _ _ _ _ us hl => match us, hl with | [_, _], _ => rfl
  have F_check_meeting := L2.fun_mk (st := s_check_meeting) l_check_meeting c_check_meeting k_check_meeting
  have b_check_meeting := F_check_meeting.binds (ps := ["web", "value"]) fun _ _ _ _ _ _ us hl => match us, hl with | [_, _], _ => rfl
  have F_check_roomed := L2.fun_mk (st := s_check_roomed) l_check_roomed c_check_roomed k_check_roomed
  have b_check_roomed := F_check_roomed.binds (ps := ["web", "kind", "meeting"]) fun _ _ _ _ _ _ us hl => match us, hl with | [_, _, _], _ => rfl
  have F_made_web := L2.fun_mk (st := s_made_web) l_made_web c_made_web k_made_web
  have b_made_web := F_made_web.binds (ps := ["places", "meetings"]) fun _ _ _ _ _ _ us hl => match us, hl with | [_, _], _ => rfl
  have F_without_by := L2.fun_mk (st := s_without_by) l_without_by c_without_by k_without_by
  have b_without_by := F_without_by.binds (ps := ["web", "lot"]) fun _ _ _ _ _ _ us hl => match us, hl with | [_, _], _ => rfl
  have F_later_by := L2.fun_mk (st := s_later_by) l_later_by c_later_by k_later_by
  have b_later_by := F_later_by.binds (ps := ["web", "meeting", "many"]) fun _ _ _ _ _ _ us hl => match us, hl with | [_, _, _], _ => rfl
  have F_led_at := L2.fun_mk (st := s_led_at) l_led_at c_led_at k_led_at
  have b_led_at := F_led_at.binds (ps := ["pairs", "had", "kind"]) fun _ _ _ _ _ _ us hl => match us, hl with | [_, _, _], _ => rfl
  have F_ends_of := L2.fun_mk (st := s_ends_of) l_ends_of c_ends_of k_ends_of
  have b_ends_of := F_ends_of.binds (ps := ["meeting"]) fun _ _ _ _ _ _ us hl => match us, hl with | [_], _ => rfl
  have F_arrivals_by := L2.fun_mk (st := s_arrivals_by) l_arrivals_by c_arrivals_by k_arrivals_by
  have b_arrivals_by := F_arrivals_by.binds (ps := ["web", "kind", "start", "time"]) fun _ _ _ _ _ _ us hl => match us, hl with | [_, _, _, _], _ => rfl
  have F_come_by := L2.fun_mk (st := s_come_by) l_come_by c_come_by k_come_by
  have b_come_by := F_come_by.binds (ps := ["web", "kind", "start", "time"]) fun _ _ _ _ _ _ us hl => match us, hl with | [_, _, _, _], _ => rfl
  have F_table_by := L2.fun_mk (st := s_table_by) l_table_by c_table_by k_table_by
  have b_table_by := F_table_by.binds (ps := ["web", "kind"]) fun _ _ _ _ _ _ us hl => match us, hl with | [_, _], _ => rfl
  have F_room_by := L2.fun_mk (st := s_room_by) l_room_by c_room_by k_room_by
  have b_room_by := F_room_by.binds (ps := ["web", "kind", "meeting"]) fun _ _ _ _ _ _ us hl => match us, hl with | [_, _, _], _ => rfl
  have F_room := L2.fun_mk (st := s_room) l_room c_room k_room
  have b_room := F_room.binds (ps := ["web", "kind", "meeting"]) fun _ _ _ _ _ _ us hl => match us, hl with | [_, _, _], _ => rfl
  have F__law_right := L2.fun_mk (st := s__law_right) l__law_right c__law_right k__law_right
  have b__law_right := F__law_right.binds (ps := ["pool", "most"]) fun _ _ _ _ _ _ us hl => match us, hl with | [_, _], _ => rfl
  have F_law := L2.fun_mk (st := s_law) l_law c_law k_law
  have b_law := F_law.binds (ps := ["script"]) fun _ _ _ _ _ _ us hl => match us, hl with | [_], _ => rfl
  refine ⟨PySem.W.fnOf "law" "law" (defArgs s_law) (defBody s_law) (defScope s_law) .none kV_law dc_law pm_law an_law cd_law ct_law, [(cc_wrong_meeting, P_wrong_meeting)], spM (Tbi := top0 ⟨[(P_wrong_meeting, lamQ "wrong_meeting")], F0⟩) K mg 1 [] p_law, fun p hp => ?_, fun p hp => ?_, fun s u => .of_eq rfl, fun H a ns hl _ hT hF hS => law_sp (fun p hp => ?_) hF hN hS (hm ns hl), fun base hK hN hTB => ?_⟩
  · simp only [List.mem_cons, List.not_mem_nil, or_false] at hp
    rcases hp with rfl
    · exact ⟨"wrong_meeting", by simp, t_wrong_meeting⟩
  · simp only [List.mem_cons, List.not_mem_nil, or_false] at hp
    rcases hp with rfl
    · exact u_wrong_meeting
  · simp only [List.mem_cons, List.not_mem_nil, or_false] at hp
    rcases hp with rfl
    · exact hT (cc_wrong_meeting, P_wrong_meeting) (by simp)
  · have hTb : ∀ {c Pt : Addr}, (c, Pt) ∈ ([(cc_wrong_meeting, P_wrong_meeting)] : List (Addr × Addr)) → LamX.TabB base mg c Pt := fun hp => hTB _ hp
    have hu_wrong_meeting : ∀ p ∈ ([(P_wrong_meeting, lamQ "wrong_meeting")] : List (Addr × Str)), p.1 = P_wrong_meeting → p.2 = lamQ "wrong_meeting" := fun p hp _ => by
      simp only [List.mem_cons, List.not_mem_nil, or_false] at hp; rw [hp]
    have g__law_pool := fun (t : Tabl) (hT : TopI ⟨[(P_wrong_meeting, lamQ "wrong_meeting")], F0⟩ t) (h0 : t.fx = []) => ok__law_pool (P := l.prog) (w := w) (base := base) (Tbi := t) h0 hT T  F__law_pool
    have d__law_pool : DefOk l.prog w K mg base ⟨[(P_wrong_meeting, lamQ "wrong_meeting")], F0⟩ "_law_pool" 1 2 [] p__law_pool := ⟨⟨f__law_pool, _, ["script", "k"], rfl, PySem.W.mg_of X G a__law_pool, k__law_pool, b__law_pool, g__law_pool⟩⟩
    have g__law_take := fun (t : Tabl) (hT : TopI ⟨[(P_wrong_meeting, lamQ "wrong_meeting")], F0⟩ t) (h0 : t.fx = []) => ok__law_take (P := l.prog) (w := w) (base := base) (Tbi := t) h0 hT T  F__law_take
    have d__law_take : DefOk l.prog w K mg base ⟨[(P_wrong_meeting, lamQ "wrong_meeting")], F0⟩ "_law_take" 1 2 [0] p__law_take := ⟨⟨f__law_take, _, ["pool", "many"], rfl, PySem.W.mg_of X G a__law_take, k__law_take, b__law_take, g__law_take⟩⟩
    have g__law_of := fun (t : Tabl) (hT : TopI ⟨[(P_wrong_meeting, lamQ "wrong_meeting")], F0⟩ t) (h0 : t.fx = []) => ok__law_of (P := l.prog) (w := w) (base := base) (Tbi := t) h0 hT T d__law_take F__law_of
    have d__law_of : DefOk l.prog w K mg base ⟨[(P_wrong_meeting, lamQ "wrong_meeting")], F0⟩ "_law_of" 2 2 [0] p__law_of := ⟨⟨f__law_of, _, ["pool", "some"], rfl, PySem.W.mg_of X G a__law_of, k__law_of, b__law_of, g__law_of⟩⟩
    have g__law_web := fun (t : Tabl) (hT : TopI ⟨[(P_wrong_meeting, lamQ "wrong_meeting")], F0⟩ t) (h0 : t.fx = []) => ok__law_web (P := l.prog) (w := w) (base := base) (Tbi := t) h0 hT T d__law_of d__law_take F__law_web
    have d__law_web : DefOk l.prog w K mg base ⟨[(P_wrong_meeting, lamQ "wrong_meeting")], F0⟩ "_law_web" 3 3 [0] p__law_web := ⟨⟨f__law_web, _, ["pool", "most", "many"], rfl, PySem.W.mg_of X G a__law_web, k__law_web, b__law_web, g__law_web⟩⟩
    have g__law_table := fun (t : Tabl) (hT : TopI ⟨[(P_wrong_meeting, lamQ "wrong_meeting")], F0⟩ t) (h0 : t.fx = []) => ok__law_table (P := l.prog) (w := w) (base := base) (Tbi := t) h0 hT T  F__law_table
    have d__law_table : DefOk l.prog w K mg base ⟨[(P_wrong_meeting, lamQ "wrong_meeting")], F0⟩ "_law_table" 1 3 [] p__law_table := ⟨⟨f__law_table, _, ["web", "kind", "patience"], rfl, PySem.W.mg_of X G a__law_table, k__law_table, b__law_table, g__law_table⟩⟩
    have d_first_wrong : DefOkH l.prog w K mg base ⟨[(P_wrong_meeting, lamQ "wrong_meeting")], F0⟩ "first_wrong" 7 5 2 1 p_first_wrong := ⟨⟨f_first_wrong, _, ["value", "is_right"], rfl, PySem.W.mg_of X G a_first_wrong, k_first_wrong, fun us hl => match us, hl with | [_, _], _ => rfl, fun t hT => ok_first_wrong (Tbi := t) hT T  F_first_wrong⟩⟩
    have g_is_tuple_of := fun (t : Tabl) (hT : TopI ⟨[(P_wrong_meeting, lamQ "wrong_meeting")], F0⟩ t) (h0 : t.fx = []) => ok_is_tuple_of (P := l.prog) (w := w) (base := base) (Tbi := t) h0 hT T  F_is_tuple_of
    have d_is_tuple_of : DefOk l.prog w K mg base ⟨[(P_wrong_meeting, lamQ "wrong_meeting")], F0⟩ "is_tuple_of" 1 2 [] p_is_tuple_of := ⟨⟨f_is_tuple_of, _, ["value", "many"], rfl, PySem.W.mg_of X G a_is_tuple_of, k_is_tuple_of, b_is_tuple_of, g_is_tuple_of⟩⟩
    have g_is_whole := fun (t : Tabl) (hT : TopI ⟨[(P_wrong_meeting, lamQ "wrong_meeting")], F0⟩ t) (h0 : t.fx = []) => ok_is_whole (P := l.prog) (w := w) (base := base) (Tbi := t) h0 hT T  F_is_whole
    have d_is_whole : DefOk l.prog w K mg base ⟨[(P_wrong_meeting, lamQ "wrong_meeting")], F0⟩ "is_whole" 1 1 [] p_is_whole := ⟨⟨f_is_whole, _, ["value"], rfl, PySem.W.mg_of X G a_is_whole, k_is_whole, b_is_whole, g_is_whole⟩⟩
    have g_is_between := fun (t : Tabl) (hT : TopI ⟨[(P_wrong_meeting, lamQ "wrong_meeting")], F0⟩ t) (h0 : t.fx = []) => ok_is_between (P := l.prog) (w := w) (base := base) (Tbi := t) h0 hT T d_is_whole F_is_between
    have d_is_between : DefOk l.prog w K mg base ⟨[(P_wrong_meeting, lamQ "wrong_meeting")], F0⟩ "is_between" 2 3 [] p_is_between := ⟨⟨f_is_between, _, ["value", "least", "most"], rfl, PySem.W.mg_of X G a_is_between, k_is_between, b_is_between, g_is_between⟩⟩
    have g_is_triple := fun (t : Tabl) (hT : TopI ⟨[(P_wrong_meeting, lamQ "wrong_meeting")], F0⟩ t) (h0 : t.fx = []) => ok_is_triple (P := l.prog) (w := w) (base := base) (Tbi := t) h0 hT T d_is_tuple_of d_is_between F_is_triple
    have d_is_triple : DefOk l.prog w K mg base ⟨[(P_wrong_meeting, lamQ "wrong_meeting")], F0⟩ "is_triple" 3 2 [] p_is_triple := ⟨⟨f_is_triple, _, ["places", "value"], rfl, PySem.W.mg_of X G a_is_triple, k_is_triple, b_is_triple, g_is_triple⟩⟩
    have g_is_next := fun (t : Tabl) (hT : TopI ⟨[(P_wrong_meeting, lamQ "wrong_meeting")], F0⟩ t) (h0 : t.fx = []) => ok_is_next (P := l.prog) (w := w) (base := base) (Tbi := t) h0 hT T d_is_triple F_is_next
    have d_is_next : DefOk l.prog w K mg base ⟨[(P_wrong_meeting, lamQ "wrong_meeting")], F0⟩ "is_next" 4 3 [] p_is_next := ⟨⟨f_is_next, _, ["places", "value", "ahead"], rfl, PySem.W.mg_of X G a_is_next, k_is_next, b_is_next, g_is_next⟩⟩
    have g_wrong_meeting := fun (t : Tabl) (hT : TopI ⟨[(P_wrong_meeting, lamQ "wrong_meeting")], F0⟩ t) (h0 : t.fx = []) => ok_wrong_meeting (P := l.prog) (w := w) (base := base) (Tbi := t) h0 hT T d_first_wrong d_is_next (hTb (by simp)) (by simp) hu_wrong_meeting F_wrong_meeting rfl
    have d_wrong_meeting : DefOk l.prog w K mg base ⟨[(P_wrong_meeting, lamQ "wrong_meeting")], F0⟩ "wrong_meeting" 8 2 [] p_wrong_meeting := ⟨⟨f_wrong_meeting, _, ["places", "value"], rfl, PySem.W.mg_of X G a_wrong_meeting, k_wrong_meeting, b_wrong_meeting, g_wrong_meeting⟩⟩
    have g_is_places := fun (t : Tabl) (hT : TopI ⟨[(P_wrong_meeting, lamQ "wrong_meeting")], F0⟩ t) (h0 : t.fx = []) => ok_is_places (P := l.prog) (w := w) (base := base) (Tbi := t) h0 hT T d_is_between F_is_places
    have d_is_places : DefOk l.prog w K mg base ⟨[(P_wrong_meeting, lamQ "wrong_meeting")], F0⟩ "is_places" 3 1 [] p_is_places := ⟨⟨f_is_places, _, ["value"], rfl, PySem.W.mg_of X G a_is_places, k_is_places, b_is_places, g_is_places⟩⟩
    have g_is_row := fun (t : Tabl) (hT : TopI ⟨[(P_wrong_meeting, lamQ "wrong_meeting")], F0⟩ t) (h0 : t.fx = []) => ok_is_row (P := l.prog) (w := w) (base := base) (Tbi := t) h0 hT T  F_is_row
    have d_is_row : DefOk l.prog w K mg base ⟨[(P_wrong_meeting, lamQ "wrong_meeting")], F0⟩ "is_row" 1 3 [] p_is_row := ⟨⟨f_is_row, _, ["value", "least", "most"], rfl, PySem.W.mg_of X G a_is_row, k_is_row, b_is_row, g_is_row⟩⟩
    have g_is_frame := fun (t : Tabl) (hT : TopI ⟨[(P_wrong_meeting, lamQ "wrong_meeting")], F0⟩ t) (h0 : t.fx = []) => ok_is_frame (P := l.prog) (w := w) (base := base) (Tbi := t) h0 hT T d_is_tuple_of d_is_places d_is_row F_is_frame
    have d_is_frame : DefOk l.prog w K mg base ⟨[(P_wrong_meeting, lamQ "wrong_meeting")], F0⟩ "is_frame" 4 1 [] p_is_frame := ⟨⟨f_is_frame, _, ["value"], rfl, PySem.W.mg_of X G a_is_frame, k_is_frame, b_is_frame, g_is_frame⟩⟩
    have g_check_web := fun (t : Tabl) (hT : TopI ⟨[(P_wrong_meeting, lamQ "wrong_meeting")], F0⟩ t) (h0 : t.fx = []) => ok_check_web (P := l.prog) (w := w) (base := base) (Tbi := t) h0 hT T d_wrong_meeting d_is_frame F_check_web
    have d_check_web : DefOk l.prog w K mg base ⟨[(P_wrong_meeting, lamQ "wrong_meeting")], F0⟩ "check_web" 9 1 [] p_check_web := ⟨⟨f_check_web, _, ["value"], rfl, PySem.W.mg_of X G a_check_web, k_check_web, b_check_web, g_check_web⟩⟩
    have g_is_string := fun (t : Tabl) (hT : TopI ⟨[(P_wrong_meeting, lamQ "wrong_meeting")], F0⟩ t) (h0 : t.fx = []) => ok_is_string (P := l.prog) (w := w) (base := base) (Tbi := t) h0 hT T  F_is_string
    have d_is_string : DefOk l.prog w K mg base ⟨[(P_wrong_meeting, lamQ "wrong_meeting")], F0⟩ "is_string" 1 1 [] p_is_string := ⟨⟨f_is_string, _, ["value"], rfl, PySem.W.mg_of X G a_is_string, k_is_string, b_is_string, g_is_string⟩⟩
    have g_is_kind := fun (t : Tabl) (hT : TopI ⟨[(P_wrong_meeting, lamQ "wrong_meeting")], F0⟩ t) (h0 : t.fx = []) => ok_is_kind (P := l.prog) (w := w) (base := base) (Tbi := t) h0 hT T d_is_string F_is_kind
    have d_is_kind : DefOk l.prog w K mg base ⟨[(P_wrong_meeting, lamQ "wrong_meeting")], F0⟩ "is_kind" 2 1 [] p_is_kind := ⟨⟨f_is_kind, _, ["value"], rfl, PySem.W.mg_of X G a_is_kind, k_is_kind, b_is_kind, g_is_kind⟩⟩
    have g_check_kind := fun (t : Tabl) (hT : TopI ⟨[(P_wrong_meeting, lamQ "wrong_meeting")], F0⟩ t) (h0 : t.fx = []) => ok_check_kind (P := l.prog) (w := w) (base := base) (Tbi := t) h0 hT T d_is_kind F_check_kind
    have d_check_kind : DefOk l.prog w K mg base ⟨[(P_wrong_meeting, lamQ "wrong_meeting")], F0⟩ "check_kind" 3 1 [] p_check_kind := ⟨⟨f_check_kind, _, ["value"], rfl, PySem.W.mg_of X G a_check_kind, k_check_kind, b_check_kind, g_check_kind⟩⟩
    have g_check_kinded := fun (t : Tabl) (hT : TopI ⟨[(P_wrong_meeting, lamQ "wrong_meeting")], F0⟩ t) (h0 : t.fx = []) => ok_check_kinded (P := l.prog) (w := w) (base := base) (Tbi := t) h0 hT T d_check_web d_check_kind F_check_kinded
    have d_check_kinded : DefOk l.prog w K mg base ⟨[(P_wrong_meeting, lamQ "wrong_meeting")], F0⟩ "check_kinded" 10 2 [] p_check_kinded := ⟨⟨f_check_kinded, _, ["web", "kind"], rfl, PySem.W.mg_of X G a_check_kinded, k_check_kinded, b_check_kinded, g_check_kinded⟩⟩
    have g_is_meeting := fun (t : Tabl) (hT : TopI ⟨[(P_wrong_meeting, lamQ "wrong_meeting")], F0⟩ t) (h0 : t.fx = []) => ok_is_meeting (P := l.prog) (w := w) (base := base) (Tbi := t) h0 hT T d_is_between F_is_meeting
    have d_is_meeting : DefOk l.prog w K mg base ⟨[(P_wrong_meeting, lamQ "wrong_meeting")], F0⟩ "is_meeting" 3 2 [] p_is_meeting := ⟨⟨f_is_meeting, _, ["web", "value"], rfl, PySem.W.mg_of X G a_is_meeting, k_is_meeting, b_is_meeting, g_is_meeting⟩⟩
    have g_check_meeting := fun (t : Tabl) (hT : TopI ⟨[(P_wrong_meeting, lamQ "wrong_meeting")], F0⟩ t) (h0 : t.fx = []) => ok_check_meeting (P := l.prog) (w := w) (base := base) (Tbi := t) h0 hT T d_is_meeting F_check_meeting
    have d_check_meeting : DefOk l.prog w K mg base ⟨[(P_wrong_meeting, lamQ "wrong_meeting")], F0⟩ "check_meeting" 4 2 [] p_check_meeting := ⟨⟨f_check_meeting, _, ["web", "value"], rfl, PySem.W.mg_of X G a_check_meeting, k_check_meeting, b_check_meeting, g_check_meeting⟩⟩
    have g_check_roomed := fun (t : Tabl) (hT : TopI ⟨[(P_wrong_meeting, lamQ "wrong_meeting")], F0⟩ t) (h0 : t.fx = []) => ok_check_roomed (P := l.prog) (w := w) (base := base) (Tbi := t) h0 hT T d_check_kinded d_check_meeting F_check_roomed
    have d_check_roomed : DefOk l.prog w K mg base ⟨[(P_wrong_meeting, lamQ "wrong_meeting")], F0⟩ "check_roomed" 11 3 [] p_check_roomed := ⟨⟨f_check_roomed, _, ["web", "kind", "meeting"], rfl, PySem.W.mg_of X G a_check_roomed, k_check_roomed, b_check_roomed, g_check_roomed⟩⟩
    have g_made_web := fun (t : Tabl) (hT : TopI ⟨[(P_wrong_meeting, lamQ "wrong_meeting")], F0⟩ t) (h0 : t.fx = []) => ok_made_web (P := l.prog) (w := w) (base := base) (Tbi := t) h0 hT T  F_made_web
    have d_made_web : DefOk l.prog w K mg base ⟨[(P_wrong_meeting, lamQ "wrong_meeting")], F0⟩ "made_web" 1 2 [] p_made_web := ⟨⟨f_made_web, _, ["places", "meetings"], rfl, PySem.W.mg_of X G a_made_web, k_made_web, b_made_web, g_made_web⟩⟩
    have g_without_by := fun (t : Tabl) (hT : TopI ⟨[(P_wrong_meeting, lamQ "wrong_meeting")], F0⟩ t) (h0 : t.fx = []) => ok_without_by (P := l.prog) (w := w) (base := base) (Tbi := t) h0 hT T  F_without_by
    have d_without_by : DefOk l.prog w K mg base ⟨[(P_wrong_meeting, lamQ "wrong_meeting")], F0⟩ "without_by" 1 2 [] p_without_by := ⟨⟨f_without_by, _, ["web", "lot"], rfl, PySem.W.mg_of X G a_without_by, k_without_by, b_without_by, g_without_by⟩⟩
    have g_later_by := fun (t : Tabl) (hT : TopI ⟨[(P_wrong_meeting, lamQ "wrong_meeting")], F0⟩ t) (h0 : t.fx = []) => ok_later_by (P := l.prog) (w := w) (base := base) (Tbi := t) h0 hT T d_made_web d_without_by F_later_by
    have d_later_by : DefOk l.prog w K mg base ⟨[(P_wrong_meeting, lamQ "wrong_meeting")], F0⟩ "later_by" 2 3 [] p_later_by := ⟨⟨f_later_by, _, ["web", "meeting", "many"], rfl, PySem.W.mg_of X G a_later_by, k_later_by, b_later_by, g_later_by⟩⟩
    have g_led_at := fun (t : Tabl) (hT : TopI ⟨[(P_wrong_meeting, lamQ "wrong_meeting")], F0⟩ t) (h0 : t.fx = []) => ok_led_at (P := l.prog) (w := w) (base := base) (Tbi := t) h0 hT T  F_led_at
    have d_led_at : DefOk l.prog w K mg base ⟨[(P_wrong_meeting, lamQ "wrong_meeting")], F0⟩ "led_at" 1 3 [] p_led_at := ⟨⟨f_led_at, _, ["pairs", "had", "kind"], rfl, PySem.W.mg_of X G a_led_at, k_led_at, b_led_at, g_led_at⟩⟩
    have g_ends_of := fun (t : Tabl) (hT : TopI ⟨[(P_wrong_meeting, lamQ "wrong_meeting")], F0⟩ t) (h0 : t.fx = []) => ok_ends_of (P := l.prog) (w := w) (base := base) (Tbi := t) h0 hT T  F_ends_of
    have d_ends_of : DefOk l.prog w K mg base ⟨[(P_wrong_meeting, lamQ "wrong_meeting")], F0⟩ "ends_of" 1 1 [] p_ends_of := ⟨⟨f_ends_of, _, ["meeting"], rfl, PySem.W.mg_of X G a_ends_of, k_ends_of, b_ends_of, g_ends_of⟩⟩
    have g_arrivals_by := fun (t : Tabl) (hT : TopI ⟨[(P_wrong_meeting, lamQ "wrong_meeting")], F0⟩ t) (h0 : t.fx = []) => ok_arrivals_by (P := l.prog) (w := w) (base := base) (Tbi := t) h0 hT T d_led_at d_ends_of F_arrivals_by
    have d_arrivals_by : DefOk l.prog w K mg base ⟨[(P_wrong_meeting, lamQ "wrong_meeting")], F0⟩ "arrivals_by" 2 4 [] p_arrivals_by := ⟨⟨f_arrivals_by, _, ["web", "kind", "start", "time"], rfl, PySem.W.mg_of X G a_arrivals_by, k_arrivals_by, b_arrivals_by, g_arrivals_by⟩⟩
    have g_come_by := fun (t : Tabl) (hT : TopI ⟨[(P_wrong_meeting, lamQ "wrong_meeting")], F0⟩ t) (h0 : t.fx = []) => ok_come_by (P := l.prog) (w := w) (base := base) (Tbi := t) h0 hT T d_arrivals_by F_come_by
    have d_come_by : DefOk l.prog w K mg base ⟨[(P_wrong_meeting, lamQ "wrong_meeting")], F0⟩ "come_by" 3 4 [] p_come_by := ⟨⟨f_come_by, _, ["web", "kind", "start", "time"], rfl, PySem.W.mg_of X G a_come_by, k_come_by, b_come_by, g_come_by⟩⟩
    have g_table_by := fun (t : Tabl) (hT : TopI ⟨[(P_wrong_meeting, lamQ "wrong_meeting")], F0⟩ t) (h0 : t.fx = []) => ok_table_by (P := l.prog) (w := w) (base := base) (Tbi := t) h0 hT T d_come_by F_table_by
    have d_table_by : DefOk l.prog w K mg base ⟨[(P_wrong_meeting, lamQ "wrong_meeting")], F0⟩ "table_by" 4 2 [] p_table_by := ⟨⟨f_table_by, _, ["web", "kind"], rfl, PySem.W.mg_of X G a_table_by, k_table_by, b_table_by, g_table_by⟩⟩
    have g_room_by := fun (t : Tabl) (hT : TopI ⟨[(P_wrong_meeting, lamQ "wrong_meeting")], F0⟩ t) (h0 : t.fx = []) => ok_room_by (P := l.prog) (w := w) (base := base) (Tbi := t) h0 hT T d_later_by d_table_by F_room_by
    have d_room_by : DefOk l.prog w K mg base ⟨[(P_wrong_meeting, lamQ "wrong_meeting")], F0⟩ "room_by" 5 3 [] p_room_by := ⟨⟨f_room_by, _, ["web", "kind", "meeting"], rfl, PySem.W.mg_of X G a_room_by, k_room_by, b_room_by, g_room_by⟩⟩
    have g_room := fun (t : Tabl) (hT : TopI ⟨[(P_wrong_meeting, lamQ "wrong_meeting")], F0⟩ t) (h0 : t.fx = []) => ok_room (P := l.prog) (w := w) (base := base) (Tbi := t) h0 hT T d_check_roomed d_room_by F_room
    have d_room : DefOk l.prog w K mg base ⟨[(P_wrong_meeting, lamQ "wrong_meeting")], F0⟩ "room" 12 3 [] p_room := ⟨⟨f_room, _, ["web", "kind", "meeting"], rfl, PySem.W.mg_of X G a_room, k_room, b_room, g_room⟩⟩
    have dk_room : DefOkK l.prog w K mg base ⟨[(P_wrong_meeting, lamQ "wrong_meeting")], F0⟩ "room" 12 3 [] p_room ["meeting", "kind", "web"] 0 [2, 1, 0] := ⟨⟨f_room, _, ["web", "kind", "meeting"], rfl, PySem.W.mg_of X G a_room, k_room, fun us ws h1 h2 => match us, ws, h1, h2 with | [], [_, _, _], _, _ => rfl, g_room⟩⟩
    have g__law_right := fun (t : Tabl) (hT : TopI ⟨[(P_wrong_meeting, lamQ "wrong_meeting")], F0⟩ t) (h0 : t.fx = []) => ok__law_right (P := l.prog) (w := w) (base := base) (Tbi := t) h0 hT T d__law_web d__law_table d_room d__law_take dk_room F__law_right
    have d__law_right : DefOk l.prog w K mg base ⟨[(P_wrong_meeting, lamQ "wrong_meeting")], F0⟩ "_law_right" 13 2 [0] p__law_right := ⟨⟨f__law_right, _, ["pool", "most"], rfl, PySem.W.mg_of X G a__law_right, k__law_right, b__law_right, g__law_right⟩⟩
    exact ok_law (Tbi := top0 ⟨[(P_wrong_meeting, lamQ "wrong_meeting")], F0⟩) rfl (topI0 _) T d__law_pool d__law_right F_law
end K44
set_option maxHeartbeats 1000000
namespace K44
open PySem Ev Way
theorem whole_int (i : Int) : p_is_whole [.d (.int i)] = .ok (.d (.bool true)) [] := rfl
theorem string_str (x : Str) : p_is_string [.d (.str x)] = .ok (.d (.bool true)) [] := rfl
theorem between_int (i a b : Int) : p_is_between [.d (.int i), .d (.int a), .d (.int b)] = .ok (.d (.bool (decide (a ≤ i) && decide (i ≤ b)))) [] := by
  cases h : decide (i < a) <;> simp [Ev.runD, Ev.startE, Ev.outsOf, Ev.retR, Ev.isN, Ev.notN, Ev.chainF, Ev.callY, Ev.permL, Ev.prep, Ev.prep1, Ev.asD, Ev.asDs, Ev.frzI, Ev.rdRs, Ev.rdR, Ev.lentP, Ev.setAllE, Ev.noB, Ev.argI, Ev.seqI, Ev.forS, Ev.unpS, Ev.setS, Ev.settle, Ev.storeM, Ev.putI, Ev.settles, Ev.storeAll, Ev.asgT, Ev.asgTs, Ev.updC, Ev.setC, Ev.tyM, Ev.tyR, Ev.appM, Ev.popM, Ev.appC, Ev.popC, Ev.dat, Ev.lst, Ev.lstOf, Ev.seqOf, Ev.isaF, Ev.isaD, Ev.lenR, Ev.allR, Ev.anyR, Ev.boolsOf, Ev.intsOf, Ev.sumR, Ev.absR, Ev.tupleR, Ev.listR, Ev.reprR, Ev.intR, Ev.divmodR, Ev.min2R, Ev.max2R, Ev.mulR, Ev.addR, Ev.subF, Ev.modF, Ev.divF, Ev.powF, Ev.i2, Ev.i2c, Ev.ixF, Ev.ixR, Ev.partM, Ev.cutF, Ev.cutR, Ev.inF, Ev.inR', Ev.dict1V, Ev.bi2, Ev.ca, Ev.negR, Ev.dKey, Ev.dKeys, Ev.truth, Ev.truM, Ev.bM, Ev.isNone, Ev.starM, Ev.sortSetR, PyData.isTuple, PyData.isInt, PyData.isBool, PyData.isStr, PyData.isList, PyData.isDict, PySem.sizeLine_eq, cond, p_is_between, f_is_between, whole_int, h]
  · simp at h
    rw [Bool.eq_iff_iff]; simp; omega
  · simp at h; omega
theorem tuple_of (ds : List PyData) (n : Int) : p_is_tuple_of [.d (.tuple ds), .d (.int n)] = .ok (.d (.bool (decide ((ds.length : Int) = n)))) [] := by
  simp [Ev.runD, Ev.startE, Ev.outsOf, Ev.retR, Ev.isN, Ev.notN, Ev.chainF, Ev.callY, Ev.permL, Ev.prep, Ev.prep1, Ev.asD, Ev.asDs, Ev.frzI, Ev.rdRs, Ev.rdR, Ev.lentP, Ev.setAllE, Ev.noB, Ev.argI, Ev.seqI, Ev.forS, Ev.unpS, Ev.setS, Ev.settle, Ev.storeM, Ev.putI, Ev.settles, Ev.storeAll, Ev.asgT, Ev.asgTs, Ev.updC, Ev.setC, Ev.tyM, Ev.tyR, Ev.appM, Ev.popM, Ev.appC, Ev.popC, Ev.dat, Ev.lst, Ev.lstOf, Ev.seqOf, Ev.isaF, Ev.isaD, Ev.lenR, Ev.allR, Ev.anyR, Ev.boolsOf, Ev.intsOf, Ev.sumR, Ev.absR, Ev.tupleR, Ev.listR, Ev.reprR, Ev.intR, Ev.divmodR, Ev.min2R, Ev.max2R, Ev.mulR, Ev.addR, Ev.subF, Ev.modF, Ev.divF, Ev.powF, Ev.i2, Ev.i2c, Ev.ixF, Ev.ixR, Ev.partM, Ev.cutF, Ev.cutR, Ev.inF, Ev.inR', Ev.dict1V, Ev.bi2, Ev.ca, Ev.negR, Ev.dKey, Ev.dKeys, Ev.truth, Ev.truM, Ev.bM, Ev.isNone, Ev.starM, Ev.sortSetR, PyData.isTuple, PyData.isInt, PyData.isBool, PyData.isStr, PyData.isList, PyData.isDict, PySem.sizeLine_eq, cond, p_is_tuple_of, f_is_tuple_of]
def mD (m : Mt) : PyData := .tuple [.int m.1, .int m.2.1, .int m.2.2]
theorem triple {P t a b : Int} (h1 : 1 ≤ t) (h2 : t ≤ 20) (h3 : 0 ≤ a) (h4 : a < b) (h5 : b < P) : p_is_triple [.d (.int P), .d (mD (t, a, b))] = .ok (.d (.bool true)) [] := by
  have e1 : decide (1 ≤ t) = true := decide_eq_true h1
  have e2 : decide (t ≤ 20) = true := decide_eq_true h2
  have e3 : decide (0 ≤ a) = true := decide_eq_true h3
  have e4 : decide (a ≤ P - 1) = true := decide_eq_true (by omega)
  have e5 : decide (0 ≤ b) = true := decide_eq_true (by omega)
  have e6 : decide (b ≤ P - 1) = true := decide_eq_true (by omega)
  have e7 : decide (a < b) = true := decide_eq_true h4
  simp [Ev.runD, Ev.startE, Ev.outsOf, Ev.retR, Ev.isN, Ev.notN, Ev.chainF, Ev.callY, Ev.permL, Ev.prep, Ev.prep1, Ev.asD, Ev.asDs, Ev.frzI, Ev.rdRs, Ev.rdR, Ev.lentP, Ev.setAllE, Ev.noB, Ev.argI, Ev.seqI, Ev.forS, Ev.unpS, Ev.setS, Ev.settle, Ev.storeM, Ev.putI, Ev.settles, Ev.storeAll, Ev.asgT, Ev.asgTs, Ev.updC, Ev.setC, Ev.tyM, Ev.tyR, Ev.appM, Ev.popM, Ev.appC, Ev.popC, Ev.dat, Ev.lst, Ev.lstOf, Ev.seqOf, Ev.isaF, Ev.isaD, Ev.lenR, Ev.allR, Ev.anyR, Ev.boolsOf, Ev.intsOf, Ev.sumR, Ev.absR, Ev.tupleR, Ev.listR, Ev.reprR, Ev.intR, Ev.divmodR, Ev.min2R, Ev.max2R, Ev.mulR, Ev.addR, Ev.subF, Ev.modF, Ev.divF, Ev.powF, Ev.i2, Ev.i2c, Ev.ixF, Ev.ixR, Ev.partM, Ev.cutF, Ev.cutR, Ev.inF, Ev.inR', Ev.dict1V, Ev.bi2, Ev.ca, Ev.negR, Ev.dKey, Ev.dKeys, Ev.truth, Ev.truM, Ev.bM, Ev.isNone, Ev.starM, Ev.sortSetR, PyData.isTuple, PyData.isInt, PyData.isBool, PyData.isStr, PyData.isList, PyData.isDict, PySem.sizeLine_eq, cond, p_is_triple, f_is_triple, c_is_triple_3, t_is_triple_1, e_is_triple_2, mD, tuple_of, between_int, lcM, lcL, clean, wipeE, restE, outer, e1, e2, e3, e4, e5, e6, e7]
/-- a web of the law: meetings in order, inside -/
structure Fit (P : Int) (m : Mt) : Prop where
  t1 : 1 ≤ m.1
  t20 : m.1 ≤ 20
  a0 : 0 ≤ m.2.1
  ab : m.2.1 < m.2.2
  bP : m.2.2 < P
/-- the order of meetings -/
def mlt (m n : Mt) : Prop := m.1 < n.1 ∨ (m.1 = n.1 ∧ (m.2.1 < n.2.1 ∨ (m.2.1 = n.2.1 ∧ m.2.2 < n.2.2)))
theorem ord_m (m n : Mt) : ordR PySem.W.dataLt (.d (mD m)) (.d (mD n)) = some (.bool (PySem.W.dataLt (mD m) (mD n))) := by
  obtain ⟨t, a, b⟩ := m
  obtain ⟨t', a', b'⟩ := n
  simp [ordR, dat, mD]
  exact ⟨rfl, rfl, by simp [PyData.depth, PyData.depthAll]⟩
theorem dlt_m (m n : Mt) : PySem.W.dataLt (mD m) (mD n) = true ↔ mlt m n := by
  obtain ⟨t, a, b⟩ := m
  obtain ⟨t', a', b'⟩ := n
  simp [PySem.W.dataLt, mD, PySem.W.keyToks, PySem.W.keyToksAll, mlt, PyProof.Rows.lexLt, PyProof.Rows.itemOrd, PyProof.Rows.itemLt]
  omega
theorem lay_ms : ∀ ms : List Mt, PyData.canLayAll0 (ms.map mD) = true
  | [] => rfl
  | m :: ms => by simp [PyData.canLayAll0, mD, PyData.canLay0, lay_ms ms]
theorem dep_ms : ∀ ms : List Mt, PyData.depthAll (ms.map mD) ≤ 2
  | [] => by simp [PyData.depthAll]
  | m :: ms => by
    have := dep_ms ms
    simp [PyData.depthAll, mD, PyData.depth]
    omega
theorem shaped_ms (ms : List Mt) : SeqAt.shaped (.tuple (ms.map mD)) = true := by
  have := dep_ms ms
  simp [SeqAt.shaped, PyData.canLay0, lay_ms, PyData.depth]
  omega
theorem shaped_nil : SeqAt.shaped (.tuple []) = true := shaped_ms []
/-- the last of those ahead -/
theorem next_ok {P : Int} {m : Mt} (hm : Fit P m) {ah : List Mt} (h : ∀ l, ah.getLast? = some l → mlt l m) : p_is_next [.d (.int P), .d (mD m), .d (.tuple (ah.map mD))] = .ok (.d (.bool true)) [] := by
  have ht := triple hm.t1 hm.t20 hm.a0 hm.ab hm.bP
  have ht : p_is_triple [.d (.int P), .d (mD m)] = .ok (.d (.bool true)) [] := ht
  have s0 := shaped_nil
  have s1 := shaped_ms ah
  cases hl : ah with
  | nil => simp [Ev.runD, Ev.startE, Ev.outsOf, Ev.retR, Ev.isN, Ev.notN, Ev.chainF, Ev.callY, Ev.permL, Ev.prep, Ev.prep1, Ev.asD, Ev.asDs, Ev.frzI, Ev.rdRs, Ev.rdR, Ev.lentP, Ev.setAllE, Ev.noB, Ev.argI, Ev.seqI, Ev.forS, Ev.unpS, Ev.setS, Ev.settle, Ev.storeM, Ev.putI, Ev.settles, Ev.storeAll, Ev.asgT, Ev.asgTs, Ev.updC, Ev.setC, Ev.tyM, Ev.tyR, Ev.appM, Ev.popM, Ev.appC, Ev.popC, Ev.dat, Ev.lst, Ev.lstOf, Ev.seqOf, Ev.isaF, Ev.isaD, Ev.lenR, Ev.allR, Ev.anyR, Ev.boolsOf, Ev.intsOf, Ev.sumR, Ev.absR, Ev.tupleR, Ev.listR, Ev.reprR, Ev.intR, Ev.divmodR, Ev.min2R, Ev.max2R, Ev.mulR, Ev.addR, Ev.subF, Ev.modF, Ev.divF, Ev.powF, Ev.i2, Ev.i2c, Ev.ixF, Ev.ixR, Ev.partM, Ev.cutF, Ev.cutR, Ev.inF, Ev.inR', Ev.dict1V, Ev.bi2, Ev.ca, Ev.negR, Ev.dKey, Ev.dKeys, Ev.truth, Ev.truM, Ev.bM, Ev.isNone, Ev.starM, Ev.sortSetR, PyData.isTuple, PyData.isInt, PyData.isBool, PyData.isStr, PyData.isList, PyData.isDict, PySem.sizeLine_eq, cond, p_is_next, f_is_next, ht, eqR, s0, PyData.eqv, PyData.eqvAll]
  | cons x xs =>
    rw [hl] at s1 h
    simp only [List.map_cons] at s1
    obtain ⟨l, hlast⟩ : ∃ l, (x :: xs).getLast? = some l := ⟨_, List.getLast?_cons⟩
    have hq := h l hlast
    have hix : ((x :: xs).map mD)[(x :: xs).length - 1]? = some (mD l) := by
      rw [List.getElem?_map, ← List.getLast?_eq_getElem?, hlast]; rfl
    have hat : L2.atI (mD x :: List.map mD xs) (-1) = some (mD l) := by
      rw [atI_last, ← List.map_cons, List.getLast?_map, hlast]; rfl
    have hlt := (dlt_m l m).mpr hq
    simp [Ev.runD, Ev.startE, Ev.outsOf, Ev.retR, Ev.isN, Ev.notN, Ev.chainF, Ev.callY, Ev.permL, Ev.prep, Ev.prep1, Ev.asD, Ev.asDs, Ev.frzI, Ev.rdRs, Ev.rdR, Ev.lentP, Ev.setAllE, Ev.noB, Ev.argI, Ev.seqI, Ev.forS, Ev.unpS, Ev.setS, Ev.settle, Ev.storeM, Ev.putI, Ev.settles, Ev.storeAll, Ev.asgT, Ev.asgTs, Ev.updC, Ev.setC, Ev.tyM, Ev.tyR, Ev.appM, Ev.popM, Ev.appC, Ev.popC, Ev.dat, Ev.lst, Ev.lstOf, Ev.seqOf, Ev.isaF, Ev.isaD, Ev.lenR, Ev.allR, Ev.anyR, Ev.boolsOf, Ev.intsOf, Ev.sumR, Ev.absR, Ev.tupleR, Ev.listR, Ev.reprR, Ev.intR, Ev.divmodR, Ev.min2R, Ev.max2R, Ev.mulR, Ev.addR, Ev.subF, Ev.modF, Ev.divF, Ev.powF, Ev.i2, Ev.i2c, Ev.ixF, Ev.ixR, Ev.partM, Ev.cutF, Ev.cutR, Ev.inF, Ev.inR', Ev.dict1V, Ev.bi2, Ev.ca, Ev.negR, Ev.dKey, Ev.dKeys, Ev.truth, Ev.truM, Ev.bM, Ev.isNone, Ev.starM, Ev.sortSetR, PyData.isTuple, PyData.isInt, PyData.isBool, PyData.isStr, PyData.isList, PyData.isDict, PySem.sizeLine_eq, cond, p_is_next, f_is_next, ht, eqR, s0, s1, PyData.eqv, PyData.eqvAll, hat, ord_m, hlt]
theorem first_loop {lam : Fn} {ds : List PyData} (h : ∀ i d, ds[i]? = some d → lam [.d d, .d (.tuple (ds.take i))] = .ok (.d (.bool true)) []) : ∀ (rest : List PyData) (i : Nat) (o2 o3 : Option R), ds.drop i = rest →
    ∃ o2' o3', forL [1] (.t [.n 2, .n 3]) (b_first_wrong_1 lam)
      (enumD i rest) [some (.d (.tuple ds)), none, o2, o3] = .ok .nx [some (.d (.tuple ds)), none, o2', o3']
  | [], i, o2, o3, _ => ⟨o2, o3, rfl⟩
  | d :: rest, i, o2, o3, hd => by
    have hi : i < ds.length := by
      by_cases z : i < ds.length
      · exact z
      · rw [List.drop_eq_nil_of_le (by omega)] at hd; cases hd
    have hg : ds[i]? = some d := by
      rw [List.drop_eq_getElem_cons hi] at hd
      cases hd
      exact List.getElem?_eq_getElem hi
    have hr : ds.drop (i + 1) = rest := by
      rw [List.drop_eq_getElem_cons hi] at hd
      cases hd; rfl
    obtain ⟨p, q, e⟩ := first_loop h rest (i + 1) (some (.d (.int (i : Int)))) (some (.d d)) hr
    refine ⟨p, q, ?_⟩
    have hl := h i d hg
    have hc : cutD ds none (some (i : Int)) = ds.take i := cutD_to (by omega)
    rw [enumD, forL_nx (env1 := [some (.d (.tuple ds)), none, some (.d (.int (i : Int))), some (.d d)]) (by simp [Ev.runD, Ev.startE, Ev.outsOf, Ev.retR, Ev.isN, Ev.notN, Ev.chainF, Ev.callY, Ev.permL, Ev.prep, Ev.prep1, Ev.asD, Ev.asDs, Ev.frzI, Ev.rdRs, Ev.rdR, Ev.lentP, Ev.setAllE, Ev.noB, Ev.argI, Ev.seqI, Ev.forS, Ev.unpS, Ev.setS, Ev.settle, Ev.storeM, Ev.putI, Ev.settles, Ev.storeAll, Ev.asgT, Ev.asgTs, Ev.updC, Ev.setC, Ev.tyM, Ev.tyR, Ev.appM, Ev.popM, Ev.appC, Ev.popC, Ev.dat, Ev.lst, Ev.lstOf, Ev.seqOf, Ev.isaF, Ev.isaD, Ev.lenR, Ev.allR, Ev.anyR, Ev.boolsOf, Ev.intsOf, Ev.sumR, Ev.absR, Ev.tupleR, Ev.listR, Ev.reprR, Ev.intR, Ev.divmodR, Ev.min2R, Ev.max2R, Ev.mulR, Ev.addR, Ev.subF, Ev.modF, Ev.divF, Ev.powF, Ev.i2, Ev.i2c, Ev.ixF, Ev.ixR, Ev.partM, Ev.cutF, Ev.cutR, Ev.inF, Ev.inR', Ev.dict1V, Ev.bi2, Ev.ca, Ev.negR, Ev.dKey, Ev.dKeys, Ev.truth, Ev.truM, Ev.bM, Ev.isNone, Ev.starM, Ev.sortSetR, PyData.isTuple, PyData.isInt, PyData.isBool, PyData.isStr, PyData.isList, PyData.isDict, PySem.sizeLine_eq, cond]) (env2 := [some (.d (.tuple ds)), none, some (.d (.int (i : Int))), some (.d d)]) (by simp [Ev.runD, Ev.startE, Ev.outsOf, Ev.retR, Ev.isN, Ev.notN, Ev.chainF, Ev.callY, Ev.permL, Ev.prep, Ev.prep1, Ev.asD, Ev.asDs, Ev.frzI, Ev.rdRs, Ev.rdR, Ev.lentP, Ev.setAllE, Ev.noB, Ev.argI, Ev.seqI, Ev.forS, Ev.unpS, Ev.setS, Ev.settle, Ev.storeM, Ev.putI, Ev.settles, Ev.storeAll, Ev.asgT, Ev.asgTs, Ev.updC, Ev.setC, Ev.tyM, Ev.tyR, Ev.appM, Ev.popM, Ev.appC, Ev.popC, Ev.dat, Ev.lst, Ev.lstOf, Ev.seqOf, Ev.isaF, Ev.isaD, Ev.lenR, Ev.allR, Ev.anyR, Ev.boolsOf, Ev.intsOf, Ev.sumR, Ev.absR, Ev.tupleR, Ev.listR, Ev.reprR, Ev.intR, Ev.divmodR, Ev.min2R, Ev.max2R, Ev.mulR, Ev.addR, Ev.subF, Ev.modF, Ev.divF, Ev.powF, Ev.i2, Ev.i2c, Ev.ixF, Ev.ixR, Ev.partM, Ev.cutF, Ev.cutR, Ev.inF, Ev.inR', Ev.dict1V, Ev.bi2, Ev.ca, Ev.negR, Ev.dKey, Ev.dKeys, Ev.truth, Ev.truM, Ev.bM, Ev.isNone, Ev.starM, Ev.sortSetR, PyData.isTuple, PyData.isInt, PyData.isBool, PyData.isStr, PyData.isList, PyData.isDict, PySem.sizeLine_eq, cond, b_first_wrong_1, hl, hc])]
    exact e
theorem first_wrong_none {lam : Fn} {ds : List PyData} (h : ∀ i d, ds[i]? = some d → lam [.d d, .d (.tuple (ds.take i))] = .ok (.d (.bool true)) []) : p_first_wrong lam [.d (.tuple ds)] = .ok (.d .none) [] := by
  obtain ⟨p, q, e⟩ := first_loop h ds 0 none none rfl
  have e2 : f_first_wrong lam [some (.d (.tuple ds)), none, none, none] = .ok (.rt (.d .none)) [some (.d (.tuple ds)), none, p, q] := by
    unfold f_first_wrong
    rw [seqS_nx (env1 := [some (.d (.tuple ds)), none, p, q])]
    · simp
    · rw [forS_ok (ds := enumD 0 ds) (env1 := [some (.d (.tuple ds)), none, none, none]) (by simp [Ev.runD, Ev.startE, Ev.outsOf, Ev.retR, Ev.isN, Ev.notN, Ev.chainF, Ev.callY, Ev.permL, Ev.prep, Ev.prep1, Ev.asD, Ev.asDs, Ev.frzI, Ev.rdRs, Ev.rdR, Ev.lentP, Ev.setAllE, Ev.noB, Ev.argI, Ev.seqI, Ev.forS, Ev.unpS, Ev.setS, Ev.settle, Ev.storeM, Ev.putI, Ev.settles, Ev.storeAll, Ev.asgT, Ev.asgTs, Ev.updC, Ev.setC, Ev.tyM, Ev.tyR, Ev.appM, Ev.popM, Ev.appC, Ev.popC, Ev.dat, Ev.lst, Ev.lstOf, Ev.seqOf, Ev.isaF, Ev.isaD, Ev.lenR, Ev.allR, Ev.anyR, Ev.boolsOf, Ev.intsOf, Ev.sumR, Ev.absR, Ev.tupleR, Ev.listR, Ev.reprR, Ev.intR, Ev.divmodR, Ev.min2R, Ev.max2R, Ev.mulR, Ev.addR, Ev.subF, Ev.modF, Ev.divF, Ev.powF, Ev.i2, Ev.i2c, Ev.ixF, Ev.ixR, Ev.partM, Ev.cutF, Ev.cutR, Ev.inF, Ev.inR', Ev.dict1V, Ev.bi2, Ev.ca, Ev.negR, Ev.dKey, Ev.dKeys, Ev.truth, Ev.truM, Ev.bM, Ev.isNone, Ev.starM, Ev.sortSetR, PyData.isTuple, PyData.isInt, PyData.isBool, PyData.isStr, PyData.isList, PyData.isDict, PySem.sizeLine_eq, cond, enumK])]
      exact e
  unfold p_first_wrong runH
  show (match f_first_wrong lam [some (.d (.tuple ds)), none, none, none] with | .ok .nx _ => _ | .ok (.rt r) env => _ | .exc x _ => _ | _ => _) = _
  rw [e2]
  rfl
/-- meetings in order, inside -/
def Web (P : Int) (ms : List Mt) : Prop := (∀ m ∈ ms, Fit P m) ∧ ms.Pairwise mlt
theorem web_wrong {P : Int} {ms : List Mt} (h : Web P ms) : p_wrong_meeting [.d (.int P), .d (.tuple (ms.map mD))] = .ok (.d .none) [] := by
  have hl : ∀ i d, (ms.map mD)[i]? = some d → lamFn 3 [some (.d (.int P))] (callM p_is_next [] [false, false, false] (argsV [(vVar 2), (vVar 0), (vVar 1)])) [.d d, .d (.tuple ((ms.map mD).take i))] = .ok (.d (.bool true)) [] := fun i d hd => by
    rw [List.getElem?_map] at hd
    cases hm : ms[i]? with
    | none => rw [hm] at hd; cases hd
    | some m =>
      rw [hm] at hd; cases hd
      have hi : i < ms.length := (List.getElem?_eq_some_iff.mp hm).1
      have hn := next_ok (h.1 m (List.mem_of_getElem? hm)) (ah := ms.take i) fun l hl => by
        have hl := List.mem_of_getLast? hl
        obtain ⟨j, hj⟩ := List.getElem?_of_mem hl
        have hji : j < i := by
          have := (List.getElem?_eq_some_iff.mp hj).1
          rw [List.length_take] at this; omega
        rw [List.getElem?_take_of_lt hji] at hj
        have hjl : j < ms.length := by omega
        rw [List.getElem?_eq_getElem hjl] at hj
        rw [List.getElem?_eq_getElem hi] at hm
        cases hj; cases hm
        exact List.pairwise_iff_getElem.mp h.2 j i hjl hi hji
      rw [List.map_take] at hn
      simp [lamFn, startL, Ev.runD, Ev.startE, Ev.outsOf, Ev.retR, Ev.isN, Ev.notN, Ev.chainF, Ev.callY, Ev.permL, Ev.prep, Ev.prep1, Ev.asD, Ev.asDs, Ev.frzI, Ev.rdRs, Ev.rdR, Ev.lentP, Ev.setAllE, Ev.noB, Ev.argI, Ev.seqI, Ev.forS, Ev.unpS, Ev.setS, Ev.settle, Ev.storeM, Ev.putI, Ev.settles, Ev.storeAll, Ev.asgT, Ev.asgTs, Ev.updC, Ev.setC, Ev.tyM, Ev.tyR, Ev.appM, Ev.popM, Ev.appC, Ev.popC, Ev.dat, Ev.lst, Ev.lstOf, Ev.seqOf, Ev.isaF, Ev.isaD, Ev.lenR, Ev.allR, Ev.anyR, Ev.boolsOf, Ev.intsOf, Ev.sumR, Ev.absR, Ev.tupleR, Ev.listR, Ev.reprR, Ev.intR, Ev.divmodR, Ev.min2R, Ev.max2R, Ev.mulR, Ev.addR, Ev.subF, Ev.modF, Ev.divF, Ev.powF, Ev.i2, Ev.i2c, Ev.ixF, Ev.ixR, Ev.partM, Ev.cutF, Ev.cutR, Ev.inF, Ev.inR', Ev.dict1V, Ev.bi2, Ev.ca, Ev.negR, Ev.dKey, Ev.dKeys, Ev.truth, Ev.truM, Ev.bM, Ev.isNone, Ev.starM, Ev.sortSetR, PyData.isTuple, PyData.isInt, PyData.isBool, PyData.isStr, PyData.isList, PyData.isDict, PySem.sizeLine_eq, cond, hn]
  have hw := first_wrong_none hl
  simp [Ev.runD, Ev.startE, Ev.outsOf, Ev.retR, Ev.isN, Ev.notN, Ev.chainF, Ev.callY, Ev.permL, Ev.prep, Ev.prep1, Ev.asD, Ev.asDs, Ev.frzI, Ev.rdRs, Ev.rdR, Ev.lentP, Ev.setAllE, Ev.noB, Ev.argI, Ev.seqI, Ev.forS, Ev.unpS, Ev.setS, Ev.settle, Ev.storeM, Ev.putI, Ev.settles, Ev.storeAll, Ev.asgT, Ev.asgTs, Ev.updC, Ev.setC, Ev.tyM, Ev.tyR, Ev.appM, Ev.popM, Ev.appC, Ev.popC, Ev.dat, Ev.lst, Ev.lstOf, Ev.seqOf, Ev.isaF, Ev.isaD, Ev.lenR, Ev.allR, Ev.anyR, Ev.boolsOf, Ev.intsOf, Ev.sumR, Ev.absR, Ev.tupleR, Ev.listR, Ev.reprR, Ev.intR, Ev.divmodR, Ev.min2R, Ev.max2R, Ev.mulR, Ev.addR, Ev.subF, Ev.modF, Ev.divF, Ev.powF, Ev.i2, Ev.i2c, Ev.ixF, Ev.ixR, Ev.partM, Ev.cutF, Ev.cutR, Ev.inF, Ev.inR', Ev.dict1V, Ev.bi2, Ev.ca, Ev.negR, Ev.dKey, Ev.dKeys, Ev.truth, Ev.truM, Ev.bM, Ev.isNone, Ev.starM, Ev.sortSetR, PyData.isTuple, PyData.isInt, PyData.isBool, PyData.isStr, PyData.isList, PyData.isDict, PySem.sizeLine_eq, cond, p_wrong_meeting, f_wrong_meeting, callLM, capt, hw]
def webD (P : Int) (ms : List Mt) : PyData := .tuple [.int P, .tuple (ms.map mD)]
def kindD (loose : Bool) : PyData := .str (if loose = true then "loose" else "strict")
theorem row_ok (ds : List PyData) (a b : Int) : p_is_row [.d (.tuple ds), .d (.int a), .d (.int b)] = .ok (.d (.bool (decide (a ≤ (ds.length : Int)) && decide ((ds.length : Int) ≤ b)))) [] := by
  cases h : decide ((ds.length : Int) < a) <;> simp [Ev.runD, Ev.startE, Ev.outsOf, Ev.retR, Ev.isN, Ev.notN, Ev.chainF, Ev.callY, Ev.permL, Ev.prep, Ev.prep1, Ev.asD, Ev.asDs, Ev.frzI, Ev.rdRs, Ev.rdR, Ev.lentP, Ev.setAllE, Ev.noB, Ev.argI, Ev.seqI, Ev.forS, Ev.unpS, Ev.setS, Ev.settle, Ev.storeM, Ev.putI, Ev.settles, Ev.storeAll, Ev.asgT, Ev.asgTs, Ev.updC, Ev.setC, Ev.tyM, Ev.tyR, Ev.appM, Ev.popM, Ev.appC, Ev.popC, Ev.dat, Ev.lst, Ev.lstOf, Ev.seqOf, Ev.isaF, Ev.isaD, Ev.lenR, Ev.allR, Ev.anyR, Ev.boolsOf, Ev.intsOf, Ev.sumR, Ev.absR, Ev.tupleR, Ev.listR, Ev.reprR, Ev.intR, Ev.divmodR, Ev.min2R, Ev.max2R, Ev.mulR, Ev.addR, Ev.subF, Ev.modF, Ev.divF, Ev.powF, Ev.i2, Ev.i2c, Ev.ixF, Ev.ixR, Ev.partM, Ev.cutF, Ev.cutR, Ev.inF, Ev.inR', Ev.dict1V, Ev.bi2, Ev.ca, Ev.negR, Ev.dKey, Ev.dKeys, Ev.truth, Ev.truM, Ev.bM, Ev.isNone, Ev.starM, Ev.sortSetR, PyData.isTuple, PyData.isInt, PyData.isBool, PyData.isStr, PyData.isList, PyData.isDict, PySem.sizeLine_eq, cond, p_is_row, f_is_row, h]
  · simp at h
    rw [Bool.eq_iff_iff]; simp; omega
  · simp at h; omega
theorem places_ok (P : Int) : p_is_places [.d (.int P)] = .ok (.d (.bool (decide (2 ≤ P) && decide (P ≤ 6)))) [] := by
  simp [Ev.runD, Ev.startE, Ev.outsOf, Ev.retR, Ev.isN, Ev.notN, Ev.chainF, Ev.callY, Ev.permL, Ev.prep, Ev.prep1, Ev.asD, Ev.asDs, Ev.frzI, Ev.rdRs, Ev.rdR, Ev.lentP, Ev.setAllE, Ev.noB, Ev.argI, Ev.seqI, Ev.forS, Ev.unpS, Ev.setS, Ev.settle, Ev.storeM, Ev.putI, Ev.settles, Ev.storeAll, Ev.asgT, Ev.asgTs, Ev.updC, Ev.setC, Ev.tyM, Ev.tyR, Ev.appM, Ev.popM, Ev.appC, Ev.popC, Ev.dat, Ev.lst, Ev.lstOf, Ev.seqOf, Ev.isaF, Ev.isaD, Ev.lenR, Ev.allR, Ev.anyR, Ev.boolsOf, Ev.intsOf, Ev.sumR, Ev.absR, Ev.tupleR, Ev.listR, Ev.reprR, Ev.intR, Ev.divmodR, Ev.min2R, Ev.max2R, Ev.mulR, Ev.addR, Ev.subF, Ev.modF, Ev.divF, Ev.powF, Ev.i2, Ev.i2c, Ev.ixF, Ev.ixR, Ev.partM, Ev.cutF, Ev.cutR, Ev.inF, Ev.inR', Ev.dict1V, Ev.bi2, Ev.ca, Ev.negR, Ev.dKey, Ev.dKeys, Ev.truth, Ev.truM, Ev.bM, Ev.isNone, Ev.starM, Ev.sortSetR, PyData.isTuple, PyData.isInt, PyData.isBool, PyData.isStr, PyData.isList, PyData.isDict, PySem.sizeLine_eq, cond, p_is_places, f_is_places, between_int]
theorem frame_ok {P : Int} {ms : List Mt} (h1 : 2 ≤ P) (h2 : P ≤ 6) (h3 : ms.length ≤ 12) : p_is_frame [.d (webD P ms)] = .ok (.d (.bool true)) [] := by
  have e1 : decide (2 ≤ P) = true := decide_eq_true h1
  have e2 : decide (P ≤ 6) = true := decide_eq_true h2
  have e3 : decide ((ms.length : Int) ≤ 12) = true := decide_eq_true (by omega)
  simp [Ev.runD, Ev.startE, Ev.outsOf, Ev.retR, Ev.isN, Ev.notN, Ev.chainF, Ev.callY, Ev.permL, Ev.prep, Ev.prep1, Ev.asD, Ev.asDs, Ev.frzI, Ev.rdRs, Ev.rdR, Ev.lentP, Ev.setAllE, Ev.noB, Ev.argI, Ev.seqI, Ev.forS, Ev.unpS, Ev.setS, Ev.settle, Ev.storeM, Ev.putI, Ev.settles, Ev.storeAll, Ev.asgT, Ev.asgTs, Ev.updC, Ev.setC, Ev.tyM, Ev.tyR, Ev.appM, Ev.popM, Ev.appC, Ev.popC, Ev.dat, Ev.lst, Ev.lstOf, Ev.seqOf, Ev.isaF, Ev.isaD, Ev.lenR, Ev.allR, Ev.anyR, Ev.boolsOf, Ev.intsOf, Ev.sumR, Ev.absR, Ev.tupleR, Ev.listR, Ev.reprR, Ev.intR, Ev.divmodR, Ev.min2R, Ev.max2R, Ev.mulR, Ev.addR, Ev.subF, Ev.modF, Ev.divF, Ev.powF, Ev.i2, Ev.i2c, Ev.ixF, Ev.ixR, Ev.partM, Ev.cutF, Ev.cutR, Ev.inF, Ev.inR', Ev.dict1V, Ev.bi2, Ev.ca, Ev.negR, Ev.dKey, Ev.dKeys, Ev.truth, Ev.truM, Ev.bM, Ev.isNone, Ev.starM, Ev.sortSetR, PyData.isTuple, PyData.isInt, PyData.isBool, PyData.isStr, PyData.isList, PyData.isDict, PySem.sizeLine_eq, cond, p_is_frame, f_is_frame, webD, tuple_of, places_ok, row_ok, e1, e2, e3]
theorem check_ok {P : Int} {ms : List Mt} (h1 : 2 ≤ P) (h2 : P ≤ 6) (h3 : ms.length ≤ 12) (hw : Web P ms) : p_check_web [.d (webD P ms)] = .ok (.d .none) [] := by
  have e1 : p_is_frame [.d (.tuple [.int P, .tuple (ms.map mD)])] = .ok (.d (.bool true)) [] := frame_ok h1 h2 h3
  have e2 := web_wrong hw
  simp [Ev.runD, Ev.startE, Ev.outsOf, Ev.retR, Ev.isN, Ev.notN, Ev.chainF, Ev.callY, Ev.permL, Ev.prep, Ev.prep1, Ev.asD, Ev.asDs, Ev.frzI, Ev.rdRs, Ev.rdR, Ev.lentP, Ev.setAllE, Ev.noB, Ev.argI, Ev.seqI, Ev.forS, Ev.unpS, Ev.setS, Ev.settle, Ev.storeM, Ev.putI, Ev.settles, Ev.storeAll, Ev.asgT, Ev.asgTs, Ev.updC, Ev.setC, Ev.tyM, Ev.tyR, Ev.appM, Ev.popM, Ev.appC, Ev.popC, Ev.dat, Ev.lst, Ev.lstOf, Ev.seqOf, Ev.isaF, Ev.isaD, Ev.lenR, Ev.allR, Ev.anyR, Ev.boolsOf, Ev.intsOf, Ev.sumR, Ev.absR, Ev.tupleR, Ev.listR, Ev.reprR, Ev.intR, Ev.divmodR, Ev.min2R, Ev.max2R, Ev.mulR, Ev.addR, Ev.subF, Ev.modF, Ev.divF, Ev.powF, Ev.i2, Ev.i2c, Ev.ixF, Ev.ixR, Ev.partM, Ev.cutF, Ev.cutR, Ev.inF, Ev.inR', Ev.dict1V, Ev.bi2, Ev.ca, Ev.negR, Ev.dKey, Ev.dKeys, Ev.truth, Ev.truM, Ev.bM, Ev.isNone, Ev.starM, Ev.sortSetR, PyData.isTuple, PyData.isInt, PyData.isBool, PyData.isStr, PyData.isList, PyData.isDict, PySem.sizeLine_eq, cond, p_check_web, f_check_web, webD, e1, e2]
theorem so_s : PyData.strOk ("strict" : Str) = true := by decide +kernel
theorem so_l : PyData.strOk ("loose" : Str) = true := by decide +kernel
theorem kind_ok (loose : Bool) : p_is_kind [.d (kindD loose)] = .ok (.d (.bool true)) [] := by
  cases loose <;> simp [Ev.runD, Ev.startE, Ev.outsOf, Ev.retR, Ev.isN, Ev.notN, Ev.chainF, Ev.callY, Ev.permL, Ev.prep, Ev.prep1, Ev.asD, Ev.asDs, Ev.frzI, Ev.rdRs, Ev.rdR, Ev.lentP, Ev.setAllE, Ev.noB, Ev.argI, Ev.seqI, Ev.forS, Ev.unpS, Ev.setS, Ev.settle, Ev.storeM, Ev.putI, Ev.settles, Ev.storeAll, Ev.asgT, Ev.asgTs, Ev.updC, Ev.setC, Ev.tyM, Ev.tyR, Ev.appM, Ev.popM, Ev.appC, Ev.popC, Ev.dat, Ev.lst, Ev.lstOf, Ev.seqOf, Ev.isaF, Ev.isaD, Ev.lenR, Ev.allR, Ev.anyR, Ev.boolsOf, Ev.intsOf, Ev.sumR, Ev.absR, Ev.tupleR, Ev.listR, Ev.reprR, Ev.intR, Ev.divmodR, Ev.min2R, Ev.max2R, Ev.mulR, Ev.addR, Ev.subF, Ev.modF, Ev.divF, Ev.powF, Ev.i2, Ev.i2c, Ev.ixF, Ev.ixR, Ev.partM, Ev.cutF, Ev.cutR, Ev.inF, Ev.inR', Ev.dict1V, Ev.bi2, Ev.ca, Ev.negR, Ev.dKey, Ev.dKeys, Ev.truth, Ev.truM, Ev.bM, Ev.isNone, Ev.starM, Ev.sortSetR, PyData.isTuple, PyData.isInt, PyData.isBool, PyData.isStr, PyData.isList, PyData.isDict, PySem.sizeLine_eq, cond, p_is_kind, f_is_kind, kindD, string_str, inR, SeqAt.shaped, PyData.canLay0, PyData.canLayAll0, PyData.depth, PyData.depthAll, PyData.eqv, so_s, so_l]
theorem ckind_ok (loose : Bool) : p_check_kind [.d (kindD loose)] = .ok (.d .none) [] := by
  simp [Ev.runD, Ev.startE, Ev.outsOf, Ev.retR, Ev.isN, Ev.notN, Ev.chainF, Ev.callY, Ev.permL, Ev.prep, Ev.prep1, Ev.asD, Ev.asDs, Ev.frzI, Ev.rdRs, Ev.rdR, Ev.lentP, Ev.setAllE, Ev.noB, Ev.argI, Ev.seqI, Ev.forS, Ev.unpS, Ev.setS, Ev.settle, Ev.storeM, Ev.putI, Ev.settles, Ev.storeAll, Ev.asgT, Ev.asgTs, Ev.updC, Ev.setC, Ev.tyM, Ev.tyR, Ev.appM, Ev.popM, Ev.appC, Ev.popC, Ev.dat, Ev.lst, Ev.lstOf, Ev.seqOf, Ev.isaF, Ev.isaD, Ev.lenR, Ev.allR, Ev.anyR, Ev.boolsOf, Ev.intsOf, Ev.sumR, Ev.absR, Ev.tupleR, Ev.listR, Ev.reprR, Ev.intR, Ev.divmodR, Ev.min2R, Ev.max2R, Ev.mulR, Ev.addR, Ev.subF, Ev.modF, Ev.divF, Ev.powF, Ev.i2, Ev.i2c, Ev.ixF, Ev.ixR, Ev.partM, Ev.cutF, Ev.cutR, Ev.inF, Ev.inR', Ev.dict1V, Ev.bi2, Ev.ca, Ev.negR, Ev.dKey, Ev.dKeys, Ev.truth, Ev.truM, Ev.bM, Ev.isNone, Ev.starM, Ev.sortSetR, PyData.isTuple, PyData.isInt, PyData.isBool, PyData.isStr, PyData.isList, PyData.isDict, PySem.sizeLine_eq, cond, p_check_kind, f_check_kind, kind_ok]
theorem checked {P : Int} {ms : List Mt} {loose : Bool} (h1 : 2 ≤ P) (h2 : P ≤ 6) (h3 : ms.length ≤ 12) (hw : Web P ms) : p_check_kinded [.d (webD P ms), .d (kindD loose)] = .ok (.d .none) [] := by
  simp [Ev.runD, Ev.startE, Ev.outsOf, Ev.retR, Ev.isN, Ev.notN, Ev.chainF, Ev.callY, Ev.permL, Ev.prep, Ev.prep1, Ev.asD, Ev.asDs, Ev.frzI, Ev.rdRs, Ev.rdR, Ev.lentP, Ev.setAllE, Ev.noB, Ev.argI, Ev.seqI, Ev.forS, Ev.unpS, Ev.setS, Ev.settle, Ev.storeM, Ev.putI, Ev.settles, Ev.storeAll, Ev.asgT, Ev.asgTs, Ev.updC, Ev.setC, Ev.tyM, Ev.tyR, Ev.appM, Ev.popM, Ev.appC, Ev.popC, Ev.dat, Ev.lst, Ev.lstOf, Ev.seqOf, Ev.isaF, Ev.isaD, Ev.lenR, Ev.allR, Ev.anyR, Ev.boolsOf, Ev.intsOf, Ev.sumR, Ev.absR, Ev.tupleR, Ev.listR, Ev.reprR, Ev.intR, Ev.divmodR, Ev.min2R, Ev.max2R, Ev.mulR, Ev.addR, Ev.subF, Ev.modF, Ev.divF, Ev.powF, Ev.i2, Ev.i2c, Ev.ixF, Ev.ixR, Ev.partM, Ev.cutF, Ev.cutR, Ev.inF, Ev.inR', Ev.dict1V, Ev.bi2, Ev.ca, Ev.negR, Ev.dKey, Ev.dKeys, Ev.truth, Ev.truM, Ev.bM, Ev.isNone, Ev.starM, Ev.sortSetR, PyData.isTuple, PyData.isInt, PyData.isBool, PyData.isStr, PyData.isList, PyData.isDict, PySem.sizeLine_eq, cond, p_check_kinded, f_check_kinded, check_ok h1 h2 h3 hw, ckind_ok]
/-! ### a web without a meeting -/
def wo (k : Nat) (i : Nat) : List PyData → List PyData
  | [] => []
  | d :: ds => if i = k then wo k (i + 1) ds else d :: wo k (i + 1) ds
theorem wo_lt {k : Nat} : ∀ {ds : List PyData} {i : Nat}, k < i → wo k i ds = ds
  | [], _, _ => rfl
  | d :: ds, i, h => by rw [wo, if_neg (by omega), wo_lt (by omega)]
theorem wo_erase {k : Nat} : ∀ {ds : List PyData} {i : Nat}, i ≤ k → wo k i ds = ds.eraseIdx (k - i)
  | [], _, _ => by simp [wo]
  | d :: ds, i, h => by
    rw [wo]
    by_cases e : i = k
    · rw [if_pos e, wo_lt (by omega), e, Nat.sub_self]; rfl
    · rw [if_neg e, wo_erase (by omega)]
      have : k - i = (k - (i + 1)) + 1 := by omega
      rw [this]; rfl
theorem sh_int (k : Int) : SeqAt.shaped (.int k) = true := rfl
theorem sh_one (k : Int) : SeqAt.shaped (.tuple [.int k]) = true := rfl
theorem wo_test (W : PyData) (k i : Nat) (d : PyData) : t_without_by_1 [some (.d W), some (.d (.tuple [.int k])), some (.d (.int i)), some (.d d)] = .ok (!decide (i = k)) [some (.d W), some (.d (.tuple [.int k])), some (.d (.int i)), some (.d d)] := by
  have e : decide ((k : Int) = i) = decide (i = k) := by rw [Bool.eq_iff_iff]; simp; omega
  simp [Ev.runD, Ev.startE, Ev.outsOf, Ev.retR, Ev.isN, Ev.notN, Ev.chainF, Ev.callY, Ev.permL, Ev.prep, Ev.prep1, Ev.asD, Ev.asDs, Ev.frzI, Ev.rdRs, Ev.rdR, Ev.lentP, Ev.setAllE, Ev.noB, Ev.argI, Ev.seqI, Ev.forS, Ev.unpS, Ev.setS, Ev.settle, Ev.storeM, Ev.putI, Ev.settles, Ev.storeAll, Ev.asgT, Ev.asgTs, Ev.updC, Ev.setC, Ev.tyM, Ev.tyR, Ev.appM, Ev.popM, Ev.appC, Ev.popC, Ev.dat, Ev.lst, Ev.lstOf, Ev.seqOf, Ev.isaF, Ev.isaD, Ev.lenR, Ev.allR, Ev.anyR, Ev.boolsOf, Ev.intsOf, Ev.sumR, Ev.absR, Ev.tupleR, Ev.listR, Ev.reprR, Ev.intR, Ev.divmodR, Ev.min2R, Ev.max2R, Ev.mulR, Ev.addR, Ev.subF, Ev.modF, Ev.divF, Ev.powF, Ev.i2, Ev.i2c, Ev.ixF, Ev.ixR, Ev.partM, Ev.cutF, Ev.cutR, Ev.inF, Ev.inR', Ev.dict1V, Ev.bi2, Ev.ca, Ev.negR, Ev.dKey, Ev.dKeys, Ev.truth, Ev.truM, Ev.bM, Ev.isNone, Ev.starM, Ev.sortSetR, PyData.isTuple, PyData.isInt, PyData.isBool, PyData.isStr, PyData.isList, PyData.isDict, PySem.sizeLine_eq, cond, t_without_by_1, inR, sh_int, sh_one, e]
theorem wo_loop (W : PyData) (k : Nat) : ∀ (rest : List PyData) (i : Nat) (acc : List PyData) (o2 o3 : Option R), acc.length + rest.length < 1000 →
    ∃ o2' o3', lcL 4 [2, 3] (.t [.n 2, .n 3]) t_without_by_1 e_without_by_2 (enumD i rest) acc [some (.d W), some (.d (.tuple [.int k])), o2, o3] = .ok (acc ++ wo k i rest) [some (.d W), some (.d (.tuple [.int k])), o2', o3']
  | [], i, acc, o2, o3, _ => ⟨o2, o3, by simp [enumD, lcL, wo]⟩
  | d :: rest, i, acc, o2, o3, hz => by
    rw [List.length_cons] at hz
    have ht := wo_test W k i d
    have ha : asgT (outer 4 [2, 3]) (.t [.n 2, .n 3]) (.tuple [.int (i : Int), d]) (wipeE [some (.d W), some (.d (.tuple [.int k])), o2, o3] [2, 3]) = some [some (.d W), some (.d (.tuple [.int k])), some (.d (.int i)), some (.d d)] := by
      simp [Ev.runD, Ev.startE, Ev.outsOf, Ev.retR, Ev.isN, Ev.notN, Ev.chainF, Ev.callY, Ev.permL, Ev.prep, Ev.prep1, Ev.asD, Ev.asDs, Ev.frzI, Ev.rdRs, Ev.rdR, Ev.lentP, Ev.setAllE, Ev.noB, Ev.argI, Ev.seqI, Ev.forS, Ev.unpS, Ev.setS, Ev.settle, Ev.storeM, Ev.putI, Ev.settles, Ev.storeAll, Ev.asgT, Ev.asgTs, Ev.updC, Ev.setC, Ev.tyM, Ev.tyR, Ev.appM, Ev.popM, Ev.appC, Ev.popC, Ev.dat, Ev.lst, Ev.lstOf, Ev.seqOf, Ev.isaF, Ev.isaD, Ev.lenR, Ev.allR, Ev.anyR, Ev.boolsOf, Ev.intsOf, Ev.sumR, Ev.absR, Ev.tupleR, Ev.listR, Ev.reprR, Ev.intR, Ev.divmodR, Ev.min2R, Ev.max2R, Ev.mulR, Ev.addR, Ev.subF, Ev.modF, Ev.divF, Ev.powF, Ev.i2, Ev.i2c, Ev.ixF, Ev.ixR, Ev.partM, Ev.cutF, Ev.cutR, Ev.inF, Ev.inR', Ev.dict1V, Ev.bi2, Ev.ca, Ev.negR, Ev.dKey, Ev.dKeys, Ev.truth, Ev.truM, Ev.bM, Ev.isNone, Ev.starM, Ev.sortSetR, PyData.isTuple, PyData.isInt, PyData.isBool, PyData.isStr, PyData.isList, PyData.isDict, PySem.sizeLine_eq, cond, outer, wipeE]
    by_cases e : i = k
    · rw [decide_eq_true e, Bool.not_true] at ht
      obtain ⟨p, q, h⟩ := wo_loop W k rest (i + 1) acc (some (.d (.int i))) (some (.d d)) (by omega)
      refine ⟨p, q, ?_⟩
      rw [enumD, lcL_not ha ht, h, wo, if_pos e]
    · rw [decide_eq_false e, Bool.not_false] at ht
      obtain ⟨p, q, h⟩ := wo_loop W k rest (i + 1) (acc ++ [d]) (some (.d (.int i))) (some (.d d)) (by simp; omega)
      refine ⟨p, q, ?_⟩
      rw [enumD, lcL_add (y := d) (env3 := [some (.d W), some (.d (.tuple [.int k])), some (.d (.int i)), some (.d d)]) ha ht (by simp [Ev.runD, Ev.startE, Ev.outsOf, Ev.retR, Ev.isN, Ev.notN, Ev.chainF, Ev.callY, Ev.permL, Ev.prep, Ev.prep1, Ev.asD, Ev.asDs, Ev.frzI, Ev.rdRs, Ev.rdR, Ev.lentP, Ev.setAllE, Ev.noB, Ev.argI, Ev.seqI, Ev.forS, Ev.unpS, Ev.setS, Ev.settle, Ev.storeM, Ev.putI, Ev.settles, Ev.storeAll, Ev.asgT, Ev.asgTs, Ev.updC, Ev.setC, Ev.tyM, Ev.tyR, Ev.appM, Ev.popM, Ev.appC, Ev.popC, Ev.dat, Ev.lst, Ev.lstOf, Ev.seqOf, Ev.isaF, Ev.isaD, Ev.lenR, Ev.allR, Ev.anyR, Ev.boolsOf, Ev.intsOf, Ev.sumR, Ev.absR, Ev.tupleR, Ev.listR, Ev.reprR, Ev.intR, Ev.divmodR, Ev.min2R, Ev.max2R, Ev.mulR, Ev.addR, Ev.subF, Ev.modF, Ev.divF, Ev.powF, Ev.i2, Ev.i2c, Ev.ixF, Ev.ixR, Ev.partM, Ev.cutF, Ev.cutR, Ev.inF, Ev.inR', Ev.dict1V, Ev.bi2, Ev.ca, Ev.negR, Ev.dKey, Ev.dKeys, Ev.truth, Ev.truM, Ev.bM, Ev.isNone, Ev.starM, Ev.sortSetR, PyData.isTuple, PyData.isInt, PyData.isBool, PyData.isStr, PyData.isList, PyData.isDict, PySem.sizeLine_eq, cond, e_without_by_2]) (by rw [sizeLine_eq]; omega), h, wo, if_neg e]
      simp
theorem map_erase {α β : Type} (f : α → β) : ∀ (l : List α) (k : Nat), (l.eraseIdx k).map f = (l.map f).eraseIdx k
  | [], _ => by simp
  | a :: l, 0 => rfl
  | a :: l, k + 1 => by simp [map_erase f l k]
theorem without_eq {P : Int} {ms : List Mt} {k : Nat} (hz : ms.length < 1000) : p_without_by [.d (webD P ms), .d (.tuple [.int k])] = .ok (.t [.int P, .tuple ((ms.eraseIdx k).map mD)]) [] := by
  obtain ⟨p, q, h⟩ := wo_loop (webD P ms) k (ms.map mD) 0 [] none none (by simp; omega)
  rw [wo_erase (Nat.zero_le _), Nat.sub_zero, ← map_erase] at h
  have hl : c_without_by_3 [some (.d (webD P ms)), some (.d (.tuple [.int k])), none, none] = .ok (.n (.l ((ms.eraseIdx k).map mD))) [some (.d (webD P ms)), some (.d (.tuple [.int k])), none, none] := by
    unfold c_without_by_3
    rw [lcM_ok (ds := enumD 0 (ms.map mD)) (env0 := [some (.d (webD P ms)), some (.d (.tuple [.int k])), none, none]) (by simp [Ev.runD, Ev.startE, Ev.outsOf, Ev.retR, Ev.isN, Ev.notN, Ev.chainF, Ev.callY, Ev.permL, Ev.prep, Ev.prep1, Ev.asD, Ev.asDs, Ev.frzI, Ev.rdRs, Ev.rdR, Ev.lentP, Ev.setAllE, Ev.noB, Ev.argI, Ev.seqI, Ev.forS, Ev.unpS, Ev.setS, Ev.settle, Ev.storeM, Ev.putI, Ev.settles, Ev.storeAll, Ev.asgT, Ev.asgTs, Ev.updC, Ev.setC, Ev.tyM, Ev.tyR, Ev.appM, Ev.popM, Ev.appC, Ev.popC, Ev.dat, Ev.lst, Ev.lstOf, Ev.seqOf, Ev.isaF, Ev.isaD, Ev.lenR, Ev.allR, Ev.anyR, Ev.boolsOf, Ev.intsOf, Ev.sumR, Ev.absR, Ev.tupleR, Ev.listR, Ev.reprR, Ev.intR, Ev.divmodR, Ev.min2R, Ev.max2R, Ev.mulR, Ev.addR, Ev.subF, Ev.modF, Ev.divF, Ev.powF, Ev.i2, Ev.i2c, Ev.ixF, Ev.ixR, Ev.partM, Ev.cutF, Ev.cutR, Ev.inF, Ev.inR', Ev.dict1V, Ev.bi2, Ev.ca, Ev.negR, Ev.dKey, Ev.dKeys, Ev.truth, Ev.truM, Ev.bM, Ev.isNone, Ev.starM, Ev.sortSetR, PyData.isTuple, PyData.isInt, PyData.isBool, PyData.isStr, PyData.isList, PyData.isDict, PySem.sizeLine_eq, cond, webD, enumK]) rfl h]
    simp [restE]
  have hz2 : (ms.eraseIdx k).length ≤ 16777216 := by
    have := List.length_eraseIdx_le ms k
    omega
  refine runD_rt (env := [some (.d (webD P ms)), some (.d (.tuple [.int k])), none, none]) (r := .t [.int P, .tuple ((ms.eraseIdx k).map mD)]) ?_ rfl rfl
  show f_without_by [some (.d (webD P ms)), some (.d (.tuple [.int k])), none, none] = _
  simp only [webD] at hl ⊢
  simp [Ev.runD, Ev.startE, Ev.outsOf, Ev.retR, Ev.isN, Ev.notN, Ev.chainF, Ev.callY, Ev.permL, Ev.prep, Ev.prep1, Ev.asD, Ev.asDs, Ev.frzI, Ev.rdRs, Ev.rdR, Ev.lentP, Ev.setAllE, Ev.noB, Ev.argI, Ev.seqI, Ev.forS, Ev.unpS, Ev.setS, Ev.settle, Ev.storeM, Ev.putI, Ev.settles, Ev.storeAll, Ev.asgT, Ev.asgTs, Ev.updC, Ev.setC, Ev.tyM, Ev.tyR, Ev.appM, Ev.popM, Ev.appC, Ev.popC, Ev.dat, Ev.lst, Ev.lstOf, Ev.seqOf, Ev.isaF, Ev.isaD, Ev.lenR, Ev.allR, Ev.anyR, Ev.boolsOf, Ev.intsOf, Ev.sumR, Ev.absR, Ev.tupleR, Ev.listR, Ev.reprR, Ev.intR, Ev.divmodR, Ev.min2R, Ev.max2R, Ev.mulR, Ev.addR, Ev.subF, Ev.modF, Ev.divF, Ev.powF, Ev.i2, Ev.i2c, Ev.ixF, Ev.ixR, Ev.partM, Ev.cutF, Ev.cutR, Ev.inF, Ev.inR', Ev.dict1V, Ev.bi2, Ev.ca, Ev.negR, Ev.dKey, Ev.dKeys, Ev.truth, Ev.truM, Ev.bM, Ev.isNone, Ev.starM, Ev.sortSetR, PyData.isTuple, PyData.isInt, PyData.isBool, PyData.isStr, PyData.isList, PyData.isDict, PySem.sizeLine_eq, cond, f_without_by, hl]
/-! ### led_at -/
def intsD (ns : List Int) : List PyData := ns.map .int
def pairD (p : Int × Int) : PyData := .tuple [.int p.1, .int p.2]
theorem lay_ints : ∀ ns : List Int, PyData.canLayAll0 (intsD ns) = true
  | [] => rfl
  | n :: ns => by
    have := lay_ints ns
    simpa [intsD, PyData.canLayAll0, PyData.canLay0] using this
theorem dep_ints : ∀ ns : List Int, PyData.depthAll (intsD ns) = 0
  | [] => rfl
  | n :: ns => by
    have := dep_ints ns
    simpa [intsD, PyData.depthAll, PyData.depth] using this
theorem sh_ints (ns : List Int) : SeqAt.shaped (.list (intsD ns)) = true := by
  simp [SeqAt.shaped, PyData.canLay0, lay_ints, PyData.depth, dep_ints]
theorem any_ints (x : Int) : ∀ ns : List Int, ((intsD ns).any fun z => PyData.eqv z (.int x)) = decide (x ∈ ns)
  | [] => by simp [intsD]
  | n :: ns => by
    have := any_ints x ns
    rw [intsD, List.map_cons, List.any_cons, eqv_int]
    rw [intsD] at this
    rw [this, Bool.eq_iff_iff]
    simp only [Bool.or_eq_true, decide_eq_true_eq, List.mem_cons]
    constructor
    · rintro (h | h)
      · exact .inl h.symm
      · exact .inr h
    · rintro (h | h)
      · exact .inl h.symm
      · exact .inr h
theorem in_d (x : Int) (ns : List Int) : inR' (.d (.int x)) (.d (.list (intsD ns))) = some (decide (x ∈ ns)) := by
  simp [inR', inR, dat, sh_int, sh_ints, any_ints]
theorem in_c (x : Int) (ns : List Int) : inR' (.d (.int x)) (.c (.l (intsD ns))) = some (decide (x ∈ ns)) := by
  simp [inR', inR, dat, sh_int, sh_ints, any_ints]
/-- the frame of led_at: base is data or the frame's own -/
def ledE (W : List (Option R)) (B : R) (o7 o8 o9 : Option R) : Ev.Env := W ++ [some B, none, o7, o8, o9]
def isBase (B : R) (base : List Int) : Prop := B = .d (.list (intsD base)) ∨ B = .c (.l (intsD base))
def nbA (base : List Int) (ps : List (Int × Int)) : List Int := (ps.filter fun p => decide (p.1 ∈ base)).map (·.2)
def nbB (base : List Int) (ps : List (Int × Int)) : List Int := (ps.filter fun p => decide (p.2 ∈ base)).map (·.1)
theorem nbA_loop {base : List Int} {B r0 r1 r2 r3 r4 r6 : Option R} (hB : ∃ b, B = some b ∧ isBase b base) : ∀ (ps : List (Int × Int)) (acc : List Int) (o7 o8 o9 : Option R), acc.length + ps.length < 1000 →
    ∃ o7' o8', lcL 10 [7, 8] (.t [(.n 7), (.n 8)]) t_led_at_1 e_led_at_2 (ps.map pairD) (intsD acc) [r0, r1, r2, r3, r4, B, r6, o7, o8, o9] = .ok (intsD (acc ++ nbA base ps)) [r0, r1, r2, r3, r4, B, r6, o7', o8', o9]
  | [], acc, o7, o8, o9, _ => ⟨o7, o8, by simp [lcL, nbA]⟩
  | (x, y) :: ps, acc, o7, o8, o9, hz => by
    rw [List.length_cons] at hz
    obtain ⟨b, rfl, hb⟩ := hB
    have hB : ∃ b', some b = some b' ∧ isBase b' base := ⟨b, rfl, hb⟩
    have ha : asgT (outer 10 [7, 8]) (.t [(.n 7), (.n 8)]) (pairD (x, y)) (wipeE [r0, r1, r2, r3, r4, some b, r6, o7, o8, o9] [7, 8]) = some [r0, r1, r2, r3, r4, some b, r6, some (.d (.int x)), some (.d (.int y)), o9] := by
      simp [Ev.runD, Ev.startE, Ev.outsOf, Ev.retR, Ev.isN, Ev.notN, Ev.chainF, Ev.callY, Ev.permL, Ev.prep, Ev.prep1, Ev.asD, Ev.asDs, Ev.frzI, Ev.rdRs, Ev.rdR, Ev.lentP, Ev.setAllE, Ev.noB, Ev.argI, Ev.seqI, Ev.forS, Ev.unpS, Ev.setS, Ev.settle, Ev.storeM, Ev.putI, Ev.settles, Ev.storeAll, Ev.asgT, Ev.asgTs, Ev.updC, Ev.setC, Ev.tyM, Ev.tyR, Ev.appM, Ev.popM, Ev.appC, Ev.popC, Ev.dat, Ev.lst, Ev.lstOf, Ev.seqOf, Ev.isaF, Ev.isaD, Ev.lenR, Ev.allR, Ev.anyR, Ev.boolsOf, Ev.intsOf, Ev.sumR, Ev.absR, Ev.tupleR, Ev.listR, Ev.reprR, Ev.intR, Ev.divmodR, Ev.min2R, Ev.max2R, Ev.mulR, Ev.addR, Ev.subF, Ev.modF, Ev.divF, Ev.powF, Ev.i2, Ev.i2c, Ev.ixF, Ev.ixR, Ev.partM, Ev.cutF, Ev.cutR, Ev.inF, Ev.inR', Ev.dict1V, Ev.bi2, Ev.ca, Ev.negR, Ev.dKey, Ev.dKeys, Ev.truth, Ev.truM, Ev.bM, Ev.isNone, Ev.starM, Ev.sortSetR, PyData.isTuple, PyData.isInt, PyData.isBool, PyData.isStr, PyData.isList, PyData.isDict, PySem.sizeLine_eq, cond, outer, wipeE, pairD]
    have ht : t_led_at_1 [r0, r1, r2, r3, r4, some b, r6, some (.d (.int x)), some (.d (.int y)), o9] = .ok (decide (x ∈ base)) [r0, r1, r2, r3, r4, some b, r6, some (.d (.int x)), some (.d (.int y)), o9] := by
      have e1 := in_d x base
      have e2 := in_c x base
      rcases hb with rfl | rfl <;> simp [t_led_at_1, inF, e1, e2]
    have he : M.bind e_led_at_2 asD [r0, r1, r2, r3, r4, some b, r6, some (.d (.int x)), some (.d (.int y)), o9] = .ok (.int y) [r0, r1, r2, r3, r4, some b, r6, some (.d (.int x)), some (.d (.int y)), o9] := by
      simp [Ev.runD, Ev.startE, Ev.outsOf, Ev.retR, Ev.isN, Ev.notN, Ev.chainF, Ev.callY, Ev.permL, Ev.prep, Ev.prep1, Ev.asD, Ev.asDs, Ev.frzI, Ev.rdRs, Ev.rdR, Ev.lentP, Ev.setAllE, Ev.noB, Ev.argI, Ev.seqI, Ev.forS, Ev.unpS, Ev.setS, Ev.settle, Ev.storeM, Ev.putI, Ev.settles, Ev.storeAll, Ev.asgT, Ev.asgTs, Ev.updC, Ev.setC, Ev.tyM, Ev.tyR, Ev.appM, Ev.popM, Ev.appC, Ev.popC, Ev.dat, Ev.lst, Ev.lstOf, Ev.seqOf, Ev.isaF, Ev.isaD, Ev.lenR, Ev.allR, Ev.anyR, Ev.boolsOf, Ev.intsOf, Ev.sumR, Ev.absR, Ev.tupleR, Ev.listR, Ev.reprR, Ev.intR, Ev.divmodR, Ev.min2R, Ev.max2R, Ev.mulR, Ev.addR, Ev.subF, Ev.modF, Ev.divF, Ev.powF, Ev.i2, Ev.i2c, Ev.ixF, Ev.ixR, Ev.partM, Ev.cutF, Ev.cutR, Ev.inF, Ev.inR', Ev.dict1V, Ev.bi2, Ev.ca, Ev.negR, Ev.dKey, Ev.dKeys, Ev.truth, Ev.truM, Ev.bM, Ev.isNone, Ev.starM, Ev.sortSetR, PyData.isTuple, PyData.isInt, PyData.isBool, PyData.isStr, PyData.isList, PyData.isDict, PySem.sizeLine_eq, cond, e_led_at_2]
    by_cases h : x ∈ base
    · rw [decide_eq_true h] at ht
      obtain ⟨p, q, hl⟩ := nbA_loop (r0 := r0) (r1 := r1) (r2 := r2) (r3 := r3) (r4 := r4) (r6 := r6) hB ps (acc ++ [y]) (some (.d (.int x))) (some (.d (.int y))) o9 (by simp; omega)
      refine ⟨p, q, ?_⟩
      rw [List.map_cons, lcL_add ha ht he (by rw [sizeLine_eq, intsD, List.length_map]; omega)]
      have e3 : intsD acc ++ [PyData.int y] = intsD (acc ++ [y]) := by simp [intsD]
      rw [e3, hl]
      simp [nbA, h]
    · rw [decide_eq_false h] at ht
      obtain ⟨p, q, hl⟩ := nbA_loop (r0 := r0) (r1 := r1) (r2 := r2) (r3 := r3) (r4 := r4) (r6 := r6) hB ps acc (some (.d (.int x))) (some (.d (.int y))) o9 (by omega)
      refine ⟨p, q, ?_⟩
      rw [List.map_cons, lcL_not ha ht, hl]
      simp [nbA, h]
theorem nbB_loop {base : List Int} {B r0 r1 r2 r3 r4 r6 : Option R} (hB : ∃ b, B = some b ∧ isBase b base) : ∀ (ps : List (Int × Int)) (acc : List Int) (o7 o8 o9 : Option R), acc.length + ps.length < 1000 →
    ∃ o7' o8', lcL 10 [7, 8] (.t [(.n 7), (.n 8)]) t_led_at_4 e_led_at_5 (ps.map pairD) (intsD acc) [r0, r1, r2, r3, r4, B, r6, o7, o8, o9] = .ok (intsD (acc ++ nbB base ps)) [r0, r1, r2, r3, r4, B, r6, o7', o8', o9]
  | [], acc, o7, o8, o9, _ => ⟨o7, o8, by simp [lcL, nbB]⟩
  | (x, y) :: ps, acc, o7, o8, o9, hz => by
    rw [List.length_cons] at hz
    obtain ⟨b, rfl, hb⟩ := hB
    have hB : ∃ b', some b = some b' ∧ isBase b' base := ⟨b, rfl, hb⟩
    have ha : asgT (outer 10 [7, 8]) (.t [(.n 7), (.n 8)]) (pairD (x, y)) (wipeE [r0, r1, r2, r3, r4, some b, r6, o7, o8, o9] [7, 8]) = some [r0, r1, r2, r3, r4, some b, r6, some (.d (.int x)), some (.d (.int y)), o9] := by
      simp [Ev.runD, Ev.startE, Ev.outsOf, Ev.retR, Ev.isN, Ev.notN, Ev.chainF, Ev.callY, Ev.permL, Ev.prep, Ev.prep1, Ev.asD, Ev.asDs, Ev.frzI, Ev.rdRs, Ev.rdR, Ev.lentP, Ev.setAllE, Ev.noB, Ev.argI, Ev.seqI, Ev.forS, Ev.unpS, Ev.setS, Ev.settle, Ev.storeM, Ev.putI, Ev.settles, Ev.storeAll, Ev.asgT, Ev.asgTs, Ev.updC, Ev.setC, Ev.tyM, Ev.tyR, Ev.appM, Ev.popM, Ev.appC, Ev.popC, Ev.dat, Ev.lst, Ev.lstOf, Ev.seqOf, Ev.isaF, Ev.isaD, Ev.lenR, Ev.allR, Ev.anyR, Ev.boolsOf, Ev.intsOf, Ev.sumR, Ev.absR, Ev.tupleR, Ev.listR, Ev.reprR, Ev.intR, Ev.divmodR, Ev.min2R, Ev.max2R, Ev.mulR, Ev.addR, Ev.subF, Ev.modF, Ev.divF, Ev.powF, Ev.i2, Ev.i2c, Ev.ixF, Ev.ixR, Ev.partM, Ev.cutF, Ev.cutR, Ev.inF, Ev.inR', Ev.dict1V, Ev.bi2, Ev.ca, Ev.negR, Ev.dKey, Ev.dKeys, Ev.truth, Ev.truM, Ev.bM, Ev.isNone, Ev.starM, Ev.sortSetR, PyData.isTuple, PyData.isInt, PyData.isBool, PyData.isStr, PyData.isList, PyData.isDict, PySem.sizeLine_eq, cond, outer, wipeE, pairD]
    have ht : t_led_at_4 [r0, r1, r2, r3, r4, some b, r6, some (.d (.int x)), some (.d (.int y)), o9] = .ok (decide (y ∈ base)) [r0, r1, r2, r3, r4, some b, r6, some (.d (.int x)), some (.d (.int y)), o9] := by
      have e1 := in_d y base
      have e2 := in_c y base
      rcases hb with rfl | rfl <;> simp [t_led_at_4, inF, e1, e2]
    have he : M.bind e_led_at_5 asD [r0, r1, r2, r3, r4, some b, r6, some (.d (.int x)), some (.d (.int y)), o9] = .ok (.int x) [r0, r1, r2, r3, r4, some b, r6, some (.d (.int x)), some (.d (.int y)), o9] := by
      simp [Ev.runD, Ev.startE, Ev.outsOf, Ev.retR, Ev.isN, Ev.notN, Ev.chainF, Ev.callY, Ev.permL, Ev.prep, Ev.prep1, Ev.asD, Ev.asDs, Ev.frzI, Ev.rdRs, Ev.rdR, Ev.lentP, Ev.setAllE, Ev.noB, Ev.argI, Ev.seqI, Ev.forS, Ev.unpS, Ev.setS, Ev.settle, Ev.storeM, Ev.putI, Ev.settles, Ev.storeAll, Ev.asgT, Ev.asgTs, Ev.updC, Ev.setC, Ev.tyM, Ev.tyR, Ev.appM, Ev.popM, Ev.appC, Ev.popC, Ev.dat, Ev.lst, Ev.lstOf, Ev.seqOf, Ev.isaF, Ev.isaD, Ev.lenR, Ev.allR, Ev.anyR, Ev.boolsOf, Ev.intsOf, Ev.sumR, Ev.absR, Ev.tupleR, Ev.listR, Ev.reprR, Ev.intR, Ev.divmodR, Ev.min2R, Ev.max2R, Ev.mulR, Ev.addR, Ev.subF, Ev.modF, Ev.divF, Ev.powF, Ev.i2, Ev.i2c, Ev.ixF, Ev.ixR, Ev.partM, Ev.cutF, Ev.cutR, Ev.inF, Ev.inR', Ev.dict1V, Ev.bi2, Ev.ca, Ev.negR, Ev.dKey, Ev.dKeys, Ev.truth, Ev.truM, Ev.bM, Ev.isNone, Ev.starM, Ev.sortSetR, PyData.isTuple, PyData.isInt, PyData.isBool, PyData.isStr, PyData.isList, PyData.isDict, PySem.sizeLine_eq, cond, e_led_at_5]
    by_cases h : y ∈ base
    · rw [decide_eq_true h] at ht
      obtain ⟨p, q, hl⟩ := nbB_loop (r0 := r0) (r1 := r1) (r2 := r2) (r3 := r3) (r4 := r4) (r6 := r6) hB ps (acc ++ [x]) (some (.d (.int x))) (some (.d (.int y))) o9 (by simp; omega)
      refine ⟨p, q, ?_⟩
      rw [List.map_cons, lcL_add ha ht he (by rw [sizeLine_eq, intsD, List.length_map]; omega)]
      have e3 : intsD acc ++ [PyData.int x] = intsD (acc ++ [x]) := by simp [intsD]
      rw [e3, hl]
      simp [nbB, h]
    · rw [decide_eq_false h] at ht
      obtain ⟨p, q, hl⟩ := nbB_loop (r0 := r0) (r1 := r1) (r2 := r2) (r3 := r3) (r4 := r4) (r6 := r6) hB ps acc (some (.d (.int x))) (some (.d (.int y))) o9 (by omega)
      refine ⟨p, q, ?_⟩
      rw [List.map_cons, lcL_not ha ht, hl]
      simp [nbB, h]
theorem sub_loop {fd : List Int} {B r0 r1 r2 r4 r5 r6 : Option R} (hB : ∃ b, B = some b ∧ isBase b fd) : ∀ (ns : List Int) (acc : List Int) (o7 o8 o9 : Option R), acc.length + ns.length < 1000 →
    ∃ o9', lcL 10 [9] (.n 9) t_led_at_7 e_led_at_8 (intsD ns) (intsD acc) [r0, r1, r2, B, r4, r5, r6, o7, o8, o9] = .ok (intsD (acc ++ ns.filter fun x => !decide (x ∈ fd))) [r0, r1, r2, B, r4, r5, r6, o7, o8, o9']
  | [], acc, o7, o8, o9, _ => ⟨o9, by simp [lcL, intsD]⟩
  | x :: ns, acc, o7, o8, o9, hz => by
    rw [List.length_cons] at hz
    obtain ⟨b, rfl, hb⟩ := hB
    have hB : ∃ b', some b = some b' ∧ isBase b' fd := ⟨b, rfl, hb⟩
    have ha : asgT (outer 10 [9]) (.n 9) (.int x) (wipeE [r0, r1, r2, some b, r4, r5, r6, o7, o8, o9] [9]) = some [r0, r1, r2, some b, r4, r5, r6, o7, o8, some (.d (.int x))] := by
      simp [Ev.runD, Ev.startE, Ev.outsOf, Ev.retR, Ev.isN, Ev.notN, Ev.chainF, Ev.callY, Ev.permL, Ev.prep, Ev.prep1, Ev.asD, Ev.asDs, Ev.frzI, Ev.rdRs, Ev.rdR, Ev.lentP, Ev.setAllE, Ev.noB, Ev.argI, Ev.seqI, Ev.forS, Ev.unpS, Ev.setS, Ev.settle, Ev.storeM, Ev.putI, Ev.settles, Ev.storeAll, Ev.asgT, Ev.asgTs, Ev.updC, Ev.setC, Ev.tyM, Ev.tyR, Ev.appM, Ev.popM, Ev.appC, Ev.popC, Ev.dat, Ev.lst, Ev.lstOf, Ev.seqOf, Ev.isaF, Ev.isaD, Ev.lenR, Ev.allR, Ev.anyR, Ev.boolsOf, Ev.intsOf, Ev.sumR, Ev.absR, Ev.tupleR, Ev.listR, Ev.reprR, Ev.intR, Ev.divmodR, Ev.min2R, Ev.max2R, Ev.mulR, Ev.addR, Ev.subF, Ev.modF, Ev.divF, Ev.powF, Ev.i2, Ev.i2c, Ev.ixF, Ev.ixR, Ev.partM, Ev.cutF, Ev.cutR, Ev.inF, Ev.inR', Ev.dict1V, Ev.bi2, Ev.ca, Ev.negR, Ev.dKey, Ev.dKeys, Ev.truth, Ev.truM, Ev.bM, Ev.isNone, Ev.starM, Ev.sortSetR, PyData.isTuple, PyData.isInt, PyData.isBool, PyData.isStr, PyData.isList, PyData.isDict, PySem.sizeLine_eq, cond, outer, wipeE]
    have ht : t_led_at_7 [r0, r1, r2, some b, r4, r5, r6, o7, o8, some (.d (.int x))] = .ok (!decide (x ∈ fd)) [r0, r1, r2, some b, r4, r5, r6, o7, o8, some (.d (.int x))] := by
      have e1 := in_d x fd
      have e2 := in_c x fd
      rcases hb with rfl | rfl <;> simp [t_led_at_7, inF, e1, e2]
    have he : M.bind e_led_at_8 asD [r0, r1, r2, some b, r4, r5, r6, o7, o8, some (.d (.int x))] = .ok (.int x) [r0, r1, r2, some b, r4, r5, r6, o7, o8, some (.d (.int x))] := by
      simp [Ev.runD, Ev.startE, Ev.outsOf, Ev.retR, Ev.isN, Ev.notN, Ev.chainF, Ev.callY, Ev.permL, Ev.prep, Ev.prep1, Ev.asD, Ev.asDs, Ev.frzI, Ev.rdRs, Ev.rdR, Ev.lentP, Ev.setAllE, Ev.noB, Ev.argI, Ev.seqI, Ev.forS, Ev.unpS, Ev.setS, Ev.settle, Ev.storeM, Ev.putI, Ev.settles, Ev.storeAll, Ev.asgT, Ev.asgTs, Ev.updC, Ev.setC, Ev.tyM, Ev.tyR, Ev.appM, Ev.popM, Ev.appC, Ev.popC, Ev.dat, Ev.lst, Ev.lstOf, Ev.seqOf, Ev.isaF, Ev.isaD, Ev.lenR, Ev.allR, Ev.anyR, Ev.boolsOf, Ev.intsOf, Ev.sumR, Ev.absR, Ev.tupleR, Ev.listR, Ev.reprR, Ev.intR, Ev.divmodR, Ev.min2R, Ev.max2R, Ev.mulR, Ev.addR, Ev.subF, Ev.modF, Ev.divF, Ev.powF, Ev.i2, Ev.i2c, Ev.ixF, Ev.ixR, Ev.partM, Ev.cutF, Ev.cutR, Ev.inF, Ev.inR', Ev.dict1V, Ev.bi2, Ev.ca, Ev.negR, Ev.dKey, Ev.dKeys, Ev.truth, Ev.truM, Ev.bM, Ev.isNone, Ev.starM, Ev.sortSetR, PyData.isTuple, PyData.isInt, PyData.isBool, PyData.isStr, PyData.isList, PyData.isDict, PySem.sizeLine_eq, cond, e_led_at_8]
    by_cases h : x ∈ fd
    · rw [decide_eq_true h, Bool.not_true] at ht
      obtain ⟨p, hl⟩ := sub_loop (r0 := r0) (r1 := r1) (r2 := r2) (r4 := r4) (r5 := r5) (r6 := r6) hB ns acc o7 o8 (some (.d (.int x))) (by omega)
      refine ⟨p, ?_⟩
      rw [show intsD (x :: ns) = PyData.int x :: intsD ns from rfl, lcL_not ha ht, hl]
      simp [h]
    · rw [decide_eq_false h, Bool.not_false] at ht
      obtain ⟨p, hl⟩ := sub_loop (r0 := r0) (r1 := r1) (r2 := r2) (r4 := r4) (r5 := r5) (r6 := r6) hB ns (acc ++ [x]) o7 o8 (some (.d (.int x))) (by simp; omega)
      refine ⟨p, ?_⟩
      rw [show intsD (x :: ns) = PyData.int x :: intsD ns from rfl, lcL_add ha ht he (by rw [sizeLine_eq, intsD, List.length_map]; omega)]
      have e3 : intsD acc ++ [PyData.int x] = intsD (acc ++ [x]) := by simp [intsD]
      rw [e3, hl]
      simp [h]
def frOf (ps : List (Int × Int)) (base fd : List Int) : List Int := (ascSet (nbA base ps ++ nbB base ps)).filter fun x => !decide (x ∈ fd)
theorem cA {base : List Int} {B r1 r2 r3 r4 r6 o7 o8 o9 : Option R} {ps : List (Int × Int)} (hB : ∃ b, B = some b ∧ isBase b base) (hz : ps.length < 1000) (hc : clean [7, 8] [some (.d (.list (ps.map pairD))), r1, r2, r3, r4, B, r6, o7, o8, o9] = true) :
    c_led_at_3 [some (.d (.list (ps.map pairD))), r1, r2, r3, r4, B, r6, o7, o8, o9] = .ok (.n (.l (intsD (nbA base ps)))) [some (.d (.list (ps.map pairD))), r1, r2, r3, r4, B, r6, o7, o8, o9] := by
  obtain ⟨p, q, h⟩ := nbA_loop (r0 := some (.d (.list (ps.map pairD)))) (r1 := r1) (r2 := r2) (r3 := r3) (r4 := r4) (r6 := r6) hB ps [] o7 o8 o9 (by simp; omega)
  unfold c_led_at_3
  rw [lcM_ok (ds := ps.map pairD) (env0 := [some (.d (.list (ps.map pairD))), r1, r2, r3, r4, B, r6, o7, o8, o9]) (by simp [Ev.runD, Ev.startE, Ev.outsOf, Ev.retR, Ev.isN, Ev.notN, Ev.chainF, Ev.callY, Ev.permL, Ev.prep, Ev.prep1, Ev.asD, Ev.asDs, Ev.frzI, Ev.rdRs, Ev.rdR, Ev.lentP, Ev.setAllE, Ev.noB, Ev.argI, Ev.seqI, Ev.forS, Ev.unpS, Ev.setS, Ev.settle, Ev.storeM, Ev.putI, Ev.settles, Ev.storeAll, Ev.asgT, Ev.asgTs, Ev.updC, Ev.setC, Ev.tyM, Ev.tyR, Ev.appM, Ev.popM, Ev.appC, Ev.popC, Ev.dat, Ev.lst, Ev.lstOf, Ev.seqOf, Ev.isaF, Ev.isaD, Ev.lenR, Ev.allR, Ev.anyR, Ev.boolsOf, Ev.intsOf, Ev.sumR, Ev.absR, Ev.tupleR, Ev.listR, Ev.reprR, Ev.intR, Ev.divmodR, Ev.min2R, Ev.max2R, Ev.mulR, Ev.addR, Ev.subF, Ev.modF, Ev.divF, Ev.powF, Ev.i2, Ev.i2c, Ev.ixF, Ev.ixR, Ev.partM, Ev.cutF, Ev.cutR, Ev.inF, Ev.inR', Ev.dict1V, Ev.bi2, Ev.ca, Ev.negR, Ev.dKey, Ev.dKeys, Ev.truth, Ev.truM, Ev.bM, Ev.isNone, Ev.starM, Ev.sortSetR, PyData.isTuple, PyData.isInt, PyData.isBool, PyData.isStr, PyData.isList, PyData.isDict, PySem.sizeLine_eq, cond]) hc h]
  cases o7 <;> cases o8 <;> simp [restE]
theorem cB {base : List Int} {B r1 r2 r3 r4 r6 o7 o8 o9 : Option R} {ps : List (Int × Int)} (hB : ∃ b, B = some b ∧ isBase b base) (hz : ps.length < 1000) (hc : clean [7, 8] [some (.d (.list (ps.map pairD))), r1, r2, r3, r4, B, r6, o7, o8, o9] = true) :
    c_led_at_6 [some (.d (.list (ps.map pairD))), r1, r2, r3, r4, B, r6, o7, o8, o9] = .ok (.n (.l (intsD (nbB base ps)))) [some (.d (.list (ps.map pairD))), r1, r2, r3, r4, B, r6, o7, o8, o9] := by
  obtain ⟨p, q, h⟩ := nbB_loop (r0 := some (.d (.list (ps.map pairD)))) (r1 := r1) (r2 := r2) (r3 := r3) (r4 := r4) (r6 := r6) hB ps [] o7 o8 o9 (by simp; omega)
  unfold c_led_at_6
  rw [lcM_ok (ds := ps.map pairD) (env0 := [some (.d (.list (ps.map pairD))), r1, r2, r3, r4, B, r6, o7, o8, o9]) (by simp [Ev.runD, Ev.startE, Ev.outsOf, Ev.retR, Ev.isN, Ev.notN, Ev.chainF, Ev.callY, Ev.permL, Ev.prep, Ev.prep1, Ev.asD, Ev.asDs, Ev.frzI, Ev.rdRs, Ev.rdR, Ev.lentP, Ev.setAllE, Ev.noB, Ev.argI, Ev.seqI, Ev.forS, Ev.unpS, Ev.setS, Ev.settle, Ev.storeM, Ev.putI, Ev.settles, Ev.storeAll, Ev.asgT, Ev.asgTs, Ev.updC, Ev.setC, Ev.tyM, Ev.tyR, Ev.appM, Ev.popM, Ev.appC, Ev.popC, Ev.dat, Ev.lst, Ev.lstOf, Ev.seqOf, Ev.isaF, Ev.isaD, Ev.lenR, Ev.allR, Ev.anyR, Ev.boolsOf, Ev.intsOf, Ev.sumR, Ev.absR, Ev.tupleR, Ev.listR, Ev.reprR, Ev.intR, Ev.divmodR, Ev.min2R, Ev.max2R, Ev.mulR, Ev.addR, Ev.subF, Ev.modF, Ev.divF, Ev.powF, Ev.i2, Ev.i2c, Ev.ixF, Ev.ixR, Ev.partM, Ev.cutF, Ev.cutR, Ev.inF, Ev.inR', Ev.dict1V, Ev.bi2, Ev.ca, Ev.negR, Ev.dKey, Ev.dKeys, Ev.truth, Ev.truM, Ev.bM, Ev.isNone, Ev.starM, Ev.sortSetR, PyData.isTuple, PyData.isInt, PyData.isBool, PyData.isStr, PyData.isList, PyData.isDict, PySem.sizeLine_eq, cond]) hc h]
  cases o7 <;> cases o8 <;> simp [restE]
theorem ints_of : ∀ ns : List Int, intsOf (intsD ns) = some ns
  | [] => rfl
  | n :: ns => by
    have := ints_of ns
    rw [show intsD (n :: ns) = PyData.int n :: intsD ns from rfl, intsOf, this]
    rfl
end K44
set_option maxHeartbeats 1000000
namespace K44
open PySem Ev Way
theorem sort_n {ns : List Int} (h1 : ns.length < 4000) (h2 : (ascSet ns).length < 64) : sortSetR (.c (.l (intsD ns))) = some (.n (.l (intsD (ascSet ns)))) := by
  have := ints_of ns
  unfold sortSetR
  simp only [show lstOf (.c (.l (intsD ns))) = some (intsD ns) from rfl, Option.bind_some, this, h1, h2, and_self, if_true]
  rfl
theorem cC {fr fd : List Int} {B r0 r1 r2 r4 r5 o7 o8 o9 : Option R} (hB : ∃ b, B = some b ∧ isBase b fd) (h1 : fr.length < 4000) (h2 : (ascSet fr).length < 64) (hc : clean [9] [r0, r1, r2, B, r4, r5, some (.c (.l (intsD fr))), o7, o8, o9] = true) :
    c_led_at_9 [r0, r1, r2, B, r4, r5, some (.c (.l (intsD fr))), o7, o8, o9] = .ok (.n (.l (intsD ((ascSet fr).filter fun x => !decide (x ∈ fd))))) [r0, r1, r2, B, r4, r5, some (.c (.l (intsD fr))), o7, o8, o9] := by
  obtain ⟨p, h⟩ := sub_loop (r0 := r0) (r1 := r1) (r2 := r2) (r4 := r4) (r5 := r5) (r6 := some (.c (.l (intsD fr)))) hB (ascSet fr) [] o7 o8 o9 (by simp; omega)
  have hs := sort_n h1 h2
  unfold c_led_at_9
  rw [lcM_ok (ds := intsD (ascSet fr)) (env0 := [r0, r1, r2, B, r4, r5, some (.c (.l (intsD fr))), o7, o8, o9]) (by simp [Ev.runD, Ev.startE, Ev.outsOf, Ev.retR, Ev.isN, Ev.notN, Ev.chainF, Ev.callY, Ev.permL, Ev.prep, Ev.prep1, Ev.asD, Ev.asDs, Ev.frzI, Ev.rdRs, Ev.rdR, Ev.lentP, Ev.setAllE, Ev.noB, Ev.argI, Ev.seqI, Ev.forS, Ev.setS, Ev.settle, Ev.storeM, Ev.putI, Ev.settles, Ev.storeAll, Ev.asgT, Ev.asgTs, Ev.updC, Ev.setC, Ev.tyM, Ev.tyR, Ev.appM, Ev.popM, Ev.appC, Ev.popC, Ev.dat, Ev.lst, Ev.lstOf, Ev.seqOf, Ev.isaF, Ev.isaD, Ev.lenR, Ev.allR, Ev.anyR, Ev.boolsOf, Ev.intsOf, Ev.sumR, Ev.absR, Ev.tupleR, Ev.listR, Ev.reprR, Ev.intR, Ev.divmodR, Ev.min2R, Ev.max2R, Ev.mulR, Ev.subF, Ev.modF, Ev.divF, Ev.powF, Ev.i2, Ev.i2c, Ev.ixF, Ev.ixR, Ev.partM, Ev.cutF, Ev.cutR, Ev.inF, Ev.inR', Ev.dict1V, Ev.bi2, Ev.ca, Ev.negR, Ev.dKey, Ev.dKeys, Ev.truth, Ev.truM, Ev.bM, Ev.isNone, Ev.starM, PyData.isTuple, PyData.isInt, PyData.isBool, PyData.isStr, PyData.isList, PyData.isDict, PySem.sizeLine_eq, cond, hs]) hc h]
  cases o9 <;> simp [restE]
theorem l_ne_s : ¬ (("loose" : Str) = "strict") := by decide +kernel
theorem kd_eq (loose : Bool) : eqR (.d (kindD loose)) (.d (.str "strict")) = some (.bool (!loose)) := by
  cases loose <;> simp [eqR, kindD, dat, SeqAt.shaped, PyData.canLay0, PyData.depth, PyData.eqv, so_s, so_l, l_ne_s]
theorem kd_ne (loose : Bool) : neR (.d (kindD loose)) (.d (.str "strict")) = some (.bool loose) := by
  cases loose <;> simp [neR, eqR, kindD, dat, SeqAt.shaped, PyData.canLay0, PyData.depth, PyData.eqv, so_s, so_l, l_ne_s]
theorem ne_nil (xs : List Int) : neR (.c (.l (intsD xs))) (.c (.l [])) = some (.bool (!xs.isEmpty)) := by
  have h := sh_ints xs
  have h0 := sh_ints []
  unfold neR
  simp only [dat, h, show SeqAt.shaped (.list []) = true from h0, and_self, if_true]
  cases xs <;> simp [intsD, PyData.eqv, PyData.eqvAll]
theorem add_ll {A B : R} {x y : List Int} (ha : isBase A x) (hb : isBase B y) (hz : x.length + y.length < 10000) : addR A B = some (.n (.l (intsD (x ++ y)))) := by
  have e : intsD x ++ intsD y = intsD (x ++ y) := by simp [intsD]
  have hl : (intsD x).length + (intsD y).length ≤ 16777216 := by simp [intsD]; omega
  rcases ha with rfl | rfl <;> rcases hb with rfl | rfl <;> simp [addR, lst, sizeLine_eq, hl, e]
theorem unpS_ok {gd : List Nat} {t : Tg} {f : M Rv} {env env1 env2 : Ev.Env} {d : PyData} (h : M.bind f asD env = .ok d env1) (h2 : asgT gd t d env1 = some env2) : unpS gd t f env = .ok .nx env2 := by
  unfold unpS
  unfold M.bind at h ⊢
  revert h
  cases f env with
  | ok r e => simp only; intro h; simp only [bind_eq, h, h2]
  | exc x e => intro h; cases h
  | no => intro h; cases h
theorem body_strict {ps : List (Int × Int)} {hd fd : List Int} {B r4 o5 o6 : Option R} (hB : ∃ b, B = some b ∧ isBase b fd) (hz : ps.length < 500) (hf : fd.length < 500) (h6 : (ascSet (nbA hd ps ++ nbB hd ps)).length < 64) (hl : (nbA hd ps ++ nbB hd ps).length < 4000) :
    b_led_at_11 [some (.d (.list (ps.map pairD))), some (.d (.list (intsD hd))), some (.d (kindD false)), B, r4, o5, o6, none, none, none]
      = .ok .nx [some (.d (.list (ps.map pairD))), some (.d (.list (intsD hd))), some (.d (kindD false)), some (.d (.list (intsD (fd ++ frOf ps hd fd)))), some (.d (.bool false)), some (.d (.list (intsD hd))), some (.c (.l (intsD (frOf ps hd fd)))), none, none, none] := by
  have k1 := kd_eq false
  have k2 := kd_ne false
  have a := cA (base := hd) (B := some (.d (.list (intsD hd)))) (r1 := some (.d (.list (intsD hd)))) (r2 := some (.d (kindD false))) (r3 := B) (r4 := r4) (r6 := o6) (o7 := none) (o8 := none) (o9 := none) (ps := ps) ⟨_, rfl, .inl rfl⟩ (by omega) rfl
  have b := cB (base := hd) (B := some (.d (.list (intsD hd)))) (r1 := some (.d (.list (intsD hd)))) (r2 := some (.d (kindD false))) (r3 := B) (r4 := r4) (r6 := o6) (o7 := none) (o8 := none) (o9 := none) (ps := ps) ⟨_, rfl, .inl rfl⟩ (by omega) rfl
  have c := cC (fr := nbA hd ps ++ nbB hd ps) (r0 := some (.d (.list (ps.map pairD)))) (r1 := some (.d (.list (intsD hd)))) (r2 := some (.d (kindD false))) (r4 := r4) (r5 := some (.d (.list (intsD hd)))) (o7 := none) (o8 := none) (o9 := none) hB hl h6 rfl
  obtain ⟨bb, rfl, hb⟩ := hB
  have n := ne_nil (frOf ps hd fd)
  have e : intsD (nbA hd ps) ++ intsD (nbB hd ps) = intsD (nbA hd ps ++ nbB hd ps) := by simp [intsD]
  have e2 : intsD fd ++ intsD (frOf ps hd fd) = intsD (fd ++ frOf ps hd fd) := by simp [intsD]
  rw [List.length_append] at hl
  have hq : (frOf ps hd fd).length < 64 := Nat.lt_of_le_of_lt (List.length_filter_le _ _) h6
  have d1 := add_ll (A := .c (.l (intsD (nbA hd ps)))) (B := .c (.l (intsD (nbB hd ps)))) (.inr rfl) (.inr rfl) (by omega)
  have d2 := add_ll (B := .c (.l (intsD (frOf ps hd fd)))) hb (.inr rfl) (by omega)
  unfold b_led_at_11
  change _ = Out.ok (Rv.n (C.l (intsD (frOf ps hd fd)))) _ at c
  generalize hz0 : (frOf ps hd fd).isEmpty = z at n
  rcases hb with rfl | rfl <;> cases z <;> simp [Ev.runD, Ev.startE, Ev.outsOf, Ev.retR, Ev.isN, Ev.notN, Ev.chainF, Ev.callY, Ev.permL, Ev.prep, Ev.prep1, Ev.asD, Ev.asDs, Ev.frzI, Ev.rdRs, Ev.rdR, Ev.lentP, Ev.setAllE, Ev.noB, Ev.argI, Ev.seqI, Ev.forS, Ev.setS, Ev.settle, Ev.storeM, Ev.putI, Ev.settles, Ev.storeAll, Ev.asgT, Ev.asgTs, Ev.updC, Ev.setC, Ev.tyM, Ev.tyR, Ev.appM, Ev.popM, Ev.appC, Ev.popC, Ev.dat, Ev.lst, Ev.lstOf, Ev.seqOf, Ev.isaF, Ev.isaD, Ev.lenR, Ev.allR, Ev.anyR, Ev.boolsOf, Ev.intsOf, Ev.sumR, Ev.absR, Ev.tupleR, Ev.listR, Ev.reprR, Ev.intR, Ev.divmodR, Ev.min2R, Ev.max2R, Ev.mulR, Ev.subF, Ev.modF, Ev.divF, Ev.powF, Ev.i2, Ev.i2c, Ev.ixF, Ev.ixR, Ev.partM, Ev.cutF, Ev.cutR, Ev.inF, Ev.inR', Ev.dict1V, Ev.bi2, Ev.ca, Ev.negR, Ev.dKey, Ev.dKeys, Ev.truth, Ev.truM, Ev.bM, Ev.isNone, Ev.starM, PyData.isTuple, PyData.isInt, PyData.isBool, PyData.isStr, PyData.isList, PyData.isDict, PySem.sizeLine_eq, cond, k1, k2, a, b, c, d1, d2, n]
  all_goals
    rw [unpS_ok (d := .tuple [.list (intsD (fd ++ frOf ps hd fd)), .bool false]) (env2 := [some (.d (.list (ps.map pairD))), some (.d (.list (intsD hd))), some (.d (kindD false)), some (.d (.list (intsD (fd ++ frOf ps hd fd)))), some (.d (.bool false)), some (.d (.list (intsD hd))), some (.c (.l (intsD (frOf ps hd fd)))), none, none, none]) (by simp [Ev.runD, Ev.startE, Ev.outsOf, Ev.retR, Ev.isN, Ev.notN, Ev.chainF, Ev.callY, Ev.permL, Ev.prep, Ev.prep1, Ev.asD, Ev.asDs, Ev.frzI, Ev.rdRs, Ev.rdR, Ev.lentP, Ev.setAllE, Ev.noB, Ev.argI, Ev.seqI, Ev.forS, Ev.setS, Ev.settle, Ev.storeM, Ev.putI, Ev.settles, Ev.storeAll, Ev.asgT, Ev.asgTs, Ev.updC, Ev.setC, Ev.tyM, Ev.tyR, Ev.appM, Ev.popM, Ev.appC, Ev.popC, Ev.dat, Ev.lst, Ev.lstOf, Ev.seqOf, Ev.isaF, Ev.isaD, Ev.lenR, Ev.allR, Ev.anyR, Ev.boolsOf, Ev.intsOf, Ev.sumR, Ev.absR, Ev.tupleR, Ev.listR, Ev.reprR, Ev.intR, Ev.divmodR, Ev.min2R, Ev.max2R, Ev.mulR, Ev.subF, Ev.modF, Ev.divF, Ev.powF, Ev.i2, Ev.i2c, Ev.ixF, Ev.ixR, Ev.partM, Ev.cutF, Ev.cutR, Ev.inF, Ev.inR', Ev.dict1V, Ev.bi2, Ev.ca, Ev.negR, Ev.dKey, Ev.dKeys, Ev.truth, Ev.truM, Ev.bM, Ev.isNone, Ev.starM, PyData.isTuple, PyData.isInt, PyData.isBool, PyData.isStr, PyData.isList, PyData.isDict, PySem.sizeLine_eq, cond, k1, k2, d1, d2, n]; rfl) (by simp [Ev.runD, Ev.startE, Ev.outsOf, Ev.retR, Ev.isN, Ev.notN, Ev.chainF, Ev.callY, Ev.permL, Ev.prep, Ev.prep1, Ev.asD, Ev.asDs, Ev.frzI, Ev.rdRs, Ev.rdR, Ev.lentP, Ev.setAllE, Ev.noB, Ev.argI, Ev.seqI, Ev.forS, Ev.setS, Ev.settle, Ev.storeM, Ev.putI, Ev.settles, Ev.storeAll, Ev.asgT, Ev.asgTs, Ev.updC, Ev.setC, Ev.tyM, Ev.tyR, Ev.appM, Ev.popM, Ev.appC, Ev.popC, Ev.dat, Ev.lst, Ev.lstOf, Ev.seqOf, Ev.isaF, Ev.isaD, Ev.lenR, Ev.allR, Ev.anyR, Ev.boolsOf, Ev.intsOf, Ev.sumR, Ev.absR, Ev.tupleR, Ev.listR, Ev.reprR, Ev.intR, Ev.divmodR, Ev.min2R, Ev.max2R, Ev.mulR, Ev.subF, Ev.modF, Ev.divF, Ev.powF, Ev.i2, Ev.i2c, Ev.ixF, Ev.ixR, Ev.partM, Ev.cutF, Ev.cutR, Ev.inF, Ev.inR', Ev.dict1V, Ev.bi2, Ev.ca, Ev.negR, Ev.dKey, Ev.dKeys, Ev.truth, Ev.truM, Ev.bM, Ev.isNone, Ev.starM, PyData.isTuple, PyData.isInt, PyData.isBool, PyData.isStr, PyData.isList, PyData.isDict, PySem.sizeLine_eq, cond])]
theorem body_loose {ps : List (Int × Int)} {hd fd : List Int} {B r4 o5 o6 : Option R} (hB : ∃ b, B = some b ∧ isBase b fd) (hz : ps.length < 500) (hf : fd.length < 500) (h6 : (ascSet (nbA fd ps ++ nbB fd ps)).length < 64) (hl : (nbA fd ps ++ nbB fd ps).length < 4000) :
    b_led_at_11 [some (.d (.list (ps.map pairD))), some (.d (.list (intsD hd))), some (.d (kindD true)), B, r4, o5, o6, none, none, none]
      = .ok .nx [some (.d (.list (ps.map pairD))), some (.d (.list (intsD hd))), some (.d (kindD true)), some (.d (.list (intsD (fd ++ frOf ps fd fd)))), some (.d (.bool (!(frOf ps fd fd).isEmpty))), some (.c (.l (intsD fd))), some (.c (.l (intsD (frOf ps fd fd)))), none, none, none] := by
  have k1 := kd_eq true
  have k2 := kd_ne true
  have a := cA (base := fd) (B := some (.c (.l (intsD fd)))) (r1 := some (.d (.list (intsD hd)))) (r2 := some (.d (kindD true))) (r3 := B) (r4 := r4) (r6 := o6) (o7 := none) (o8 := none) (o9 := none) (ps := ps) ⟨_, rfl, .inr rfl⟩ (by omega) rfl
  have b := cB (base := fd) (B := some (.c (.l (intsD fd)))) (r1 := some (.d (.list (intsD hd)))) (r2 := some (.d (kindD true))) (r3 := B) (r4 := r4) (r6 := o6) (o7 := none) (o8 := none) (o9 := none) (ps := ps) ⟨_, rfl, .inr rfl⟩ (by omega) rfl
  have c := cC (fr := nbA fd ps ++ nbB fd ps) (r0 := some (.d (.list (ps.map pairD)))) (r1 := some (.d (.list (intsD hd)))) (r2 := some (.d (kindD true))) (r4 := r4) (r5 := some (.c (.l (intsD fd)))) (o7 := none) (o8 := none) (o9 := none) hB hl h6 rfl
  obtain ⟨bb, rfl, hb⟩ := hB
  have n := ne_nil (frOf ps fd fd)
  rw [List.length_append] at hl
  have hq : (frOf ps fd fd).length < 64 := Nat.lt_of_le_of_lt (List.length_filter_le _ _) h6
  have d1 := add_ll (A := .c (.l (intsD (nbA fd ps)))) (B := .c (.l (intsD (nbB fd ps)))) (.inr rfl) (.inr rfl) (by omega)
  have d2 := add_ll (B := .c (.l (intsD (frOf ps fd fd)))) hb (.inr rfl) (by omega)
  unfold b_led_at_11
  change _ = Out.ok (Rv.n (C.l (intsD (frOf ps fd fd)))) _ at c
  generalize hz0 : (frOf ps fd fd).isEmpty = z at n
  rcases hb with rfl | rfl <;> cases z <;> simp [Ev.runD, Ev.startE, Ev.outsOf, Ev.retR, Ev.isN, Ev.notN, Ev.chainF, Ev.callY, Ev.permL, Ev.prep, Ev.prep1, Ev.asD, Ev.asDs, Ev.frzI, Ev.rdRs, Ev.rdR, Ev.lentP, Ev.setAllE, Ev.noB, Ev.argI, Ev.seqI, Ev.forS, Ev.setS, Ev.settle, Ev.storeM, Ev.putI, Ev.settles, Ev.storeAll, Ev.asgT, Ev.asgTs, Ev.updC, Ev.setC, Ev.tyM, Ev.tyR, Ev.appM, Ev.popM, Ev.appC, Ev.popC, Ev.dat, Ev.lst, Ev.lstOf, Ev.seqOf, Ev.isaF, Ev.isaD, Ev.lenR, Ev.allR, Ev.anyR, Ev.boolsOf, Ev.intsOf, Ev.sumR, Ev.absR, Ev.tupleR, Ev.listR, Ev.reprR, Ev.intR, Ev.divmodR, Ev.min2R, Ev.max2R, Ev.mulR, Ev.subF, Ev.modF, Ev.divF, Ev.powF, Ev.i2, Ev.i2c, Ev.ixF, Ev.ixR, Ev.partM, Ev.cutF, Ev.cutR, Ev.inF, Ev.inR', Ev.dict1V, Ev.bi2, Ev.ca, Ev.negR, Ev.dKey, Ev.dKeys, Ev.truth, Ev.truM, Ev.bM, Ev.isNone, Ev.starM, PyData.isTuple, PyData.isInt, PyData.isBool, PyData.isStr, PyData.isList, PyData.isDict, PySem.sizeLine_eq, cond, k1, k2, a, b, c, d1, d2, n]
  all_goals
    rw [unpS_ok (d := .tuple [.list (intsD (fd ++ frOf ps fd fd)), .bool (!(frOf ps fd fd).isEmpty)]) (env2 := [some (.d (.list (ps.map pairD))), some (.d (.list (intsD hd))), some (.d (kindD true)), some (.d (.list (intsD (fd ++ frOf ps fd fd)))), some (.d (.bool (!(frOf ps fd fd).isEmpty))), some (.c (.l (intsD fd))), some (.c (.l (intsD (frOf ps fd fd)))), none, none, none]) (by simp [Ev.runD, Ev.startE, Ev.outsOf, Ev.retR, Ev.isN, Ev.notN, Ev.chainF, Ev.callY, Ev.permL, Ev.prep, Ev.prep1, Ev.asD, Ev.asDs, Ev.frzI, Ev.rdRs, Ev.rdR, Ev.lentP, Ev.setAllE, Ev.noB, Ev.argI, Ev.seqI, Ev.forS, Ev.setS, Ev.settle, Ev.storeM, Ev.putI, Ev.settles, Ev.storeAll, Ev.asgT, Ev.asgTs, Ev.updC, Ev.setC, Ev.tyM, Ev.tyR, Ev.appM, Ev.popM, Ev.appC, Ev.popC, Ev.dat, Ev.lst, Ev.lstOf, Ev.seqOf, Ev.isaF, Ev.isaD, Ev.lenR, Ev.allR, Ev.anyR, Ev.boolsOf, Ev.intsOf, Ev.sumR, Ev.absR, Ev.tupleR, Ev.listR, Ev.reprR, Ev.intR, Ev.divmodR, Ev.min2R, Ev.max2R, Ev.mulR, Ev.subF, Ev.modF, Ev.divF, Ev.powF, Ev.i2, Ev.i2c, Ev.ixF, Ev.ixR, Ev.partM, Ev.cutF, Ev.cutR, Ev.inF, Ev.inR', Ev.dict1V, Ev.bi2, Ev.ca, Ev.negR, Ev.dKey, Ev.dKeys, Ev.truth, Ev.truM, Ev.bM, Ev.isNone, Ev.starM, PyData.isTuple, PyData.isInt, PyData.isBool, PyData.isStr, PyData.isList, PyData.isDict, PySem.sizeLine_eq, cond, k1, k2, d1, d2, n, hz0]; rfl) (by simp [Ev.runD, Ev.startE, Ev.outsOf, Ev.retR, Ev.isN, Ev.notN, Ev.chainF, Ev.callY, Ev.permL, Ev.prep, Ev.prep1, Ev.asD, Ev.asDs, Ev.frzI, Ev.rdRs, Ev.rdR, Ev.lentP, Ev.setAllE, Ev.noB, Ev.argI, Ev.seqI, Ev.forS, Ev.setS, Ev.settle, Ev.storeM, Ev.putI, Ev.settles, Ev.storeAll, Ev.asgT, Ev.asgTs, Ev.updC, Ev.setC, Ev.tyM, Ev.tyR, Ev.appM, Ev.popM, Ev.appC, Ev.popC, Ev.dat, Ev.lst, Ev.lstOf, Ev.seqOf, Ev.isaF, Ev.isaD, Ev.lenR, Ev.allR, Ev.anyR, Ev.boolsOf, Ev.intsOf, Ev.sumR, Ev.absR, Ev.tupleR, Ev.listR, Ev.reprR, Ev.intR, Ev.divmodR, Ev.min2R, Ev.max2R, Ev.mulR, Ev.subF, Ev.modF, Ev.divF, Ev.powF, Ev.i2, Ev.i2c, Ev.ixF, Ev.ixR, Ev.partM, Ev.cutF, Ev.cutR, Ev.inF, Ev.inR', Ev.dict1V, Ev.bi2, Ev.ca, Ev.negR, Ev.dKey, Ev.dKeys, Ev.truth, Ev.truM, Ev.bM, Ev.isNone, Ev.starM, PyData.isTuple, PyData.isInt, PyData.isBool, PyData.isStr, PyData.isList, PyData.isDict, PySem.sizeLine_eq, cond, hz0])]
    try simp [hz0]
end K44
set_option maxHeartbeats 1000000
namespace K44
open PySem Ev Way
def tb0 : Tabl := ⟨[], [], fun _ => .non, [], fun _ => none⟩
theorem mem_asc {k : Int} {ns : List Int} : k ∈ ascSet ns ↔ k ∈ ns := @mem_ascSet tb0 k ns
theorem asc_asc {ns : List Int} : (ascSet ns).Pairwise (· < ·) := @asc_ascSet tb0 ns
theorem asc_uni {l m : List Int} (hl : l.Pairwise (· < ·)) (hm : m.Pairwise (· < ·)) (h : ∀ k, k ∈ l ↔ k ∈ m) : l = m := @asc_unique tb0 l m hl hm h
theorem asc_nd {l : List Int} (h : l.Pairwise (· < ·)) : l.Nodup := @asc_nodup tb0 l h
theorem nd_le {l m : List Int} (h : l.Nodup) (hs : ∀ k, k ∈ l → k ∈ m) : l.length ≤ m.length := @nodup_le tb0 Int _ l m h hs
/-- joined to one of those had, by pairs of ps -/
inductive Con (ps : List (Int × Int)) (h : List Int) : Int → Prop
  | at {p : Int} : p ∈ h → Con ps h p
  | to {x y : Int} : (x, y) ∈ ps → Con ps h x → Con ps h y
  | fr {x y : Int} : (x, y) ∈ ps → Con ps h y → Con ps h x
theorem mem_nbA {base : List Int} {ps : List (Int × Int)} {p : Int} : p ∈ nbA base ps ↔ ∃ x, (x, p) ∈ ps ∧ x ∈ base := by
  simp only [nbA, List.mem_map, List.mem_filter, decide_eq_true_eq]
  constructor
  · rintro ⟨⟨x, y⟩, ⟨h1, h2⟩, rfl⟩; exact ⟨x, h1, h2⟩
  · rintro ⟨x, h1, h2⟩; exact ⟨(x, p), ⟨h1, h2⟩, rfl⟩
theorem mem_nbB {base : List Int} {ps : List (Int × Int)} {p : Int} : p ∈ nbB base ps ↔ ∃ y, (p, y) ∈ ps ∧ y ∈ base := by
  simp only [nbB, List.mem_map, List.mem_filter, decide_eq_true_eq]
  constructor
  · rintro ⟨⟨x, y⟩, ⟨h1, h2⟩, rfl⟩; exact ⟨y, h1, h2⟩
  · rintro ⟨y, h1, h2⟩; exact ⟨(p, y), ⟨h1, h2⟩, rfl⟩
theorem mem_frOf {ps : List (Int × Int)} {base fd : List Int} {p : Int} : p ∈ frOf ps base fd ↔ ((∃ x, (x, p) ∈ ps ∧ x ∈ base) ∨ ∃ y, (p, y) ∈ ps ∧ y ∈ base) ∧ p ∉ fd := by
  rw [frOf, List.mem_filter, mem_asc, List.mem_append, mem_nbA, mem_nbB]
  simp
theorem nodup_frOf {ps : List (Int × Int)} {base fd : List Int} (h : fd.Nodup) : (fd ++ frOf ps base fd).Nodup := by
  refine List.nodup_append.mpr ⟨h, ?_, fun a ha b hb e => (mem_frOf.mp hb).2 (e ▸ ha)⟩
  exact (asc_nd asc_asc).sublist List.filter_sublist
end K44
set_option maxHeartbeats 1000000
namespace K44
open PySem Ev Way
/-! ### led_at as a whole -/
def Ins (P : Int) (l : List Int) : Prop := ∀ p ∈ l, 0 ≤ p ∧ p < P
def InsP (P : Int) (l : List (Int × Int)) : Prop := ∀ p ∈ l, (0 ≤ p.1 ∧ p.1 < P) ∧ 0 ≤ p.2 ∧ p.2 < P
theorem ins_le {P : Int} {l : List Int} (h : Ins P l) (hn : l.Nodup) (hP : 0 ≤ P) : l.length ≤ P.toNat := by
  have := nd_le (m := (List.range P.toNat).map Int.ofNat) hn fun k hk => by
    obtain ⟨h1, h2⟩ := h k hk
    exact List.mem_map.mpr ⟨k.toNat, List.mem_range.mpr (by omega), by simp; omega⟩
  simpa using this
theorem ins_fr {P : Int} {ps : List (Int × Int)} {base fd : List Int} (h : InsP P ps) : Ins P (frOf ps base fd) := fun p hp => by
  rcases (mem_frOf.mp hp).1 with ⟨x, h1, _⟩ | ⟨x, h1, _⟩
  · exact (h _ h1).2
  · exact (h _ h1).1
theorem ins_asc {P : Int} {ps : List (Int × Int)} {base : List Int} (h : InsP P ps) : Ins P (ascSet (nbA base ps ++ nbB base ps)) := fun p hp => by
  rw [mem_asc, List.mem_append, mem_nbA, mem_nbB] at hp
  rcases hp with ⟨x, h1, _⟩ | ⟨x, h1, _⟩
  · exact (h _ h1).2
  · exact (h _ h1).1
theorem len_nb (base : List Int) (ps : List (Int × Int)) : (nbA base ps ++ nbB base ps).length ≤ 2 * ps.length := by
  have h1 := List.length_filter_le (fun p : Int × Int => decide (p.1 ∈ base)) ps
  have h2 := List.length_filter_le (fun p : Int × Int => decide (p.2 ∈ base)) ps
  simp only [List.length_append, nbA, nbB, List.length_map]
  omega
/-- who is had behind the pairs of one time -/
def Led (loose : Bool) (ps : List (Int × Int)) (hd : List Int) (p : Int) : Prop :=
  if loose = true then Con ps hd p else p ∈ hd ∨ (∃ x, (x, p) ∈ ps ∧ x ∈ hd) ∨ ∃ y, (p, y) ∈ ps ∧ y ∈ hd
theorem con_closed {ps : List (Int × Int)} {hd fd : List Int} (h0 : ∀ p ∈ hd, p ∈ fd) (h : frOf ps fd fd = []) {p : Int} (hp : Con ps hd p) : p ∈ fd := by
  have cl : ∀ q, ((∃ x, (x, q) ∈ ps ∧ x ∈ fd) ∨ ∃ y, (q, y) ∈ ps ∧ y ∈ fd) → q ∈ fd := fun q hq => Classical.byContradiction fun hn => by
    have : q ∈ frOf ps fd fd := mem_frOf.mpr ⟨hq, hn⟩
    rw [h] at this
    cases this
  induction hp with
  | «at» h => exact h0 _ h
  | to h _ ih => exact cl _ (.inl ⟨_, h, ih⟩)
  | fr h _ ih => exact cl _ (.inr ⟨_, h, ih⟩)
theorem w_led (b : Bool) {r0 r1 r2 r3 r5 r6 r7 r8 r9 : Option R} : w_led_at_10 [r0, r1, r2, r3, some (.d (.bool b)), r5, r6, r7, r8, r9] = .ok b [r0, r1, r2, r3, some (.d (.bool b)), r5, r6, r7, r8, r9] := by
  simp [w_led_at_10]
theorem led_ok {P : Int} {ps : List (Int × Int)} {hd : List Int} (loose : Bool) (hP : 0 ≤ P) (hP6 : P ≤ 6) (hps : InsP P ps) (hz : ps.length < 500) (hh : Ins P hd) (hn : hd.Nodup) :
    ∃ out, p_led_at [.d (.list (ps.map pairD)), .d (.list (intsD hd)), .d (kindD loose)] = .ok (.d (.list (intsD out))) [] ∧ out.Nodup ∧ Ins P out ∧ ∀ p, p ∈ out ↔ Led loose ps hd p := by
  have h6 : ∀ base, (ascSet (nbA base ps ++ nbB base ps)).length < 64 := fun base => by
    have := ins_le (ins_asc (base := base) hps) (asc_nd asc_asc) hP
    omega
  have hl : ∀ base, (nbA base ps ++ nbB base ps).length < 4000 := fun base => by
    have := len_nb base ps
    omega
  have hfd := ins_le hh hn hP
  suffices hw : ∃ out env', whileW w_led_at_10 b_led_at_11 [some (.d (.list (ps.map pairD))), some (.d (.list (intsD hd))), some (.d (kindD loose)), some (.c (.l (intsD hd))), some (.d (.bool true)), none, none, none, none, none] = .ok .nx env' ∧
      env'[3]? = some (some (.d (.list (intsD out)))) ∧ out.Nodup ∧ Ins P out ∧ ∀ p, p ∈ out ↔ Led loose ps hd p by
    obtain ⟨out, env', e1, e2, h1, h2, h3⟩ := hw
    refine ⟨out, ?_, h1, h2, h3⟩
    refine runD_rt (env := env') (r := .d (.list (intsD out))) ?_ rfl rfl
    show f_led_at [some (.d (.list (ps.map pairD))), some (.d (.list (intsD hd))), some (.d (kindD loose)), none, none, none, none, none, none, none] = _
    simp [Ev.runD, Ev.startE, Ev.outsOf, Ev.retR, Ev.isN, Ev.notN, Ev.chainF, Ev.callY, Ev.permL, Ev.prep, Ev.prep1, Ev.asD, Ev.asDs, Ev.frzI, Ev.rdRs, Ev.rdR, Ev.lentP, Ev.setAllE, Ev.noB, Ev.argI, Ev.seqI, Ev.forS, Ev.unpS, Ev.setS, Ev.settle, Ev.storeM, Ev.putI, Ev.settles, Ev.storeAll, Ev.asgT, Ev.asgTs, Ev.updC, Ev.setC, Ev.tyM, Ev.tyR, Ev.appM, Ev.popM, Ev.appC, Ev.popC, Ev.dat, Ev.lst, Ev.lstOf, Ev.seqOf, Ev.isaF, Ev.isaD, Ev.lenR, Ev.allR, Ev.anyR, Ev.boolsOf, Ev.intsOf, Ev.sumR, Ev.absR, Ev.tupleR, Ev.listR, Ev.reprR, Ev.intR, Ev.divmodR, Ev.min2R, Ev.max2R, Ev.mulR, Ev.addR, Ev.subF, Ev.modF, Ev.divF, Ev.powF, Ev.i2, Ev.i2c, Ev.ixF, Ev.ixR, Ev.partM, Ev.cutF, Ev.cutR, Ev.inF, Ev.inR', Ev.dict1V, Ev.bi2, Ev.ca, Ev.negR, Ev.dKey, Ev.dKeys, Ev.truth, Ev.truM, Ev.bM, Ev.isNone, Ev.starM, Ev.sortSetR, PyData.isTuple, PyData.isInt, PyData.isBool, PyData.isStr, PyData.isList, PyData.isDict, PySem.sizeLine_eq, cond, f_led_at, e1, e2]
  cases loose with
  | false =>
    have b1 := body_strict (ps := ps) (hd := hd) (fd := hd) (B := some (.c (.l (intsD hd)))) (r4 := some (.d (.bool true))) (o5 := none) (o6 := none) ⟨_, rfl, .inr rfl⟩ hz (by omega) (h6 hd) (hl hd)
    refine ⟨hd ++ frOf ps hd hd, [some (.d (.list (ps.map pairD))), some (.d (.list (intsD hd))), some (.d (kindD false)), some (.d (.list (intsD (hd ++ frOf ps hd hd)))), some (.d (.bool false)), some (.d (.list (intsD hd))), some (.c (.l (intsD (frOf ps hd hd)))), none, none, none], ?_, rfl, nodup_frOf hn, ?_, fun p => ?_⟩
    · rw [whileQ]
      unfold whileB M.bind
      rw [w_led]
      simp only [cond, b1]
      rw [whileQ]
      unfold whileB M.bind
      rw [w_led]
      simp only [cond, skipS_eq]
    · intro p hp
      rcases List.mem_append.mp hp with hp | hp
      · exact hh p hp
      · exact ins_fr hps p hp
    · rw [List.mem_append, mem_frOf]
      unfold Led
      simp only [Bool.false_eq_true, if_false]
      by_cases hp : p ∈ hd <;> simp [hp]
  | true =>
    obtain ⟨env', e1, out, e2, h1, h2, h3, h4⟩ := whileW_ind (c := w_led_at_10) (f := b_led_at_11)
      (Inv := fun k env => ∃ fd B b o5 o6, env = [some (.d (.list (ps.map pairD))), some (.d (.list (intsD hd))), some (.d (kindD true)), some B, some (.d (.bool b)), o5, o6, none, none, none] ∧ isBase B fd ∧ fd.Nodup ∧ Ins P fd ∧ (∀ p ∈ hd, p ∈ fd) ∧ (∀ p ∈ fd, Con ps hd p) ∧
        ((b = true ∧ k + fd.length = 8) ∨ (b = false ∧ k = 0 ∧ B = .d (.list (intsD fd)) ∧ frOf ps fd fd = [])))
      (Q := fun env => ∃ out, env[3]? = some (some (.d (.list (intsD out)))) ∧ out.Nodup ∧ Ins P out ∧ (∀ p, p ∈ out → Con ps hd p) ∧ ∀ p, Con ps hd p → p ∈ out)
      (fun k env hI => by
        obtain ⟨fd, B, b, o5, o6, rfl, hB, h1, h2, h3, h4, h5⟩ := hI
        have hfl := ins_le h2 h1 hP
        rcases h5 with ⟨rfl, hk⟩ | ⟨rfl, rfl, rfl, h6⟩
        · right
          have b1 := body_loose (ps := ps) (hd := hd) (fd := fd) (B := some B) (r4 := some (.d (.bool true))) (o5 := o5) (o6 := o6) ⟨_, rfl, hB⟩ hz (by omega) (h6 fd) (hl fd)
          by_cases hf : frOf ps fd fd = []
          · refine ⟨_, _, 0, w_led true, b1, by omega, fd, _, _, _, _, rfl, ?_, h1, h2, h3, h4, .inr ⟨?_, rfl, ?_, hf⟩⟩
            · left; rw [hf, List.append_nil]
            · rw [hf]; rfl
            · rw [hf, List.append_nil]
          · have hpos : 0 < (frOf ps fd fd).length := List.length_pos_iff.mpr hf
            have hI2 : Ins P (fd ++ frOf ps fd fd) := fun p hp => (List.mem_append.mp hp).elim (h2 p) (ins_fr hps p)
            have hlen := ins_le hI2 (nodup_frOf h1) hP
            rw [List.length_append] at hlen
            refine ⟨_, _, 8 - (fd ++ frOf ps fd fd).length, w_led true, b1, by rw [List.length_append]; omega, fd ++ frOf ps fd fd, _, _, _, _, rfl, .inl rfl, nodup_frOf h1, hI2, fun p hp => List.mem_append_left _ (h3 p hp), fun p hp => ?_, .inl ⟨?_, by rw [List.length_append]; omega⟩⟩
            · rcases List.mem_append.mp hp with hp | hp
              · exact h4 p hp
              · rcases (mem_frOf.mp hp).1 with ⟨x, q1, q2⟩ | ⟨x, q1, q2⟩
                · exact .to q1 (h4 x q2)
                · exact .fr q1 (h4 x q2)
            · cases hq : frOf ps fd fd with
              | nil => exact absurd hq hf
              | cons a l => rfl
        · left
          exact ⟨_, w_led false, fd, rfl, h1, h2, h4, fun p hp => con_closed h3 h6 hp⟩)
      (8 - hd.length) _ ⟨hd, .c (.l (intsD hd)), true, none, none, rfl, .inr rfl, hn, hh, fun p hp => hp, fun p hp => .at hp, .inl ⟨rfl, by omega⟩⟩
    exact ⟨out, env', e1, e2, h1, h2, fun p => by unfold Led; rw [if_pos rfl]; exact ⟨h3 p, h4 p⟩⟩
end K44
set_option maxHeartbeats 1000000
namespace K44
open PySem Ev Way
/-! ### arrivals_by -/
def kvD (q : Int × Int) : L2.Key × PyData := (.inl q.1, .int q.2)
theorem keys_kv : ∀ fd : List (Int × Int), keysL (fd.map kvD) = intsD (fd.map (·.1))
  | [] => rfl
  | q :: fd => by
    have := keys_kv fd
    simp only [keysL, intsD, List.map_cons, List.map_map] at this ⊢
    rw [this]; rfl
theorem find_kv (p : Int) : ∀ fd : List (Int × Int), (valD (fd.map kvD) (.inl p)).isSome = decide (p ∈ fd.map (·.1))
  | [] => by simp [valD]
  | q :: fd => by
    have ih := find_kv p fd
    unfold valD at ih ⊢
    rw [List.map_cons]
    by_cases h : q.1 = p
    · rw [List.find?_cons_of_pos (by simp [kvD, h])]
      simp [h]
    · rw [List.find?_cons_of_neg (by simp [kvD, h]), ih]
      simp only [List.map_cons, List.mem_cons]
      congr 1
      simp
      intro e
      exact absurd e.symm h
theorem in_kv (p : Int) (fd : List (Int × Int)) : inR' (.d (.int p)) (.c (.k (fd.map kvD))) = some (decide (p ∈ fd.map (·.1))) := by
  have := find_kv p fd
  simp only [inR', askR, dKey, Option.map_some, this]
theorem any_kv (p : Int) : ∀ fd : List (Int × Int), ((fd.map kvD).any fun q => decide (q.1 = .inl p)) = decide (p ∈ fd.map (·.1))
  | [] => by simp
  | q :: fd => by
    have ih := any_kv p fd
    rw [List.map_cons, List.any_cons, ih, Bool.eq_iff_iff]
    have e : (kvD q).1 = Sum.inl p ↔ p = q.1 := ⟨fun h => (Sum.inl.inj h).symm, fun h => by rw [h]; rfl⟩
    rw [Bool.or_eq_true, decide_eq_true_eq, decide_eq_true_eq, decide_eq_true_eq, List.map_cons, List.mem_cons, e]
theorem put_kv {p t : Int} {fd : List (Int × Int)} (h : p ∉ fd.map (·.1)) : putD (fd.map kvD) (.inl p) (.int t) = (fd ++ [(p, t)]).map kvD := by
  unfold putD
  rw [any_kv, decide_eq_false h]
  simp [kvD]
/-- the pairs that meet at one time -/
def pairsAt (ms : List Mt) (now : Int) : List (Int × Int) := (ms.filter fun m => decide (m.1 = now)).map fun m => (m.2.1, m.2.2)
theorem ends_eq (m : Mt) : p_ends_of [.d (mD m)] = .ok (.d (pairD (m.2.1, m.2.2))) [] := by
  simp [Ev.runD, Ev.startE, Ev.outsOf, Ev.retR, Ev.isN, Ev.notN, Ev.chainF, Ev.callY, Ev.permL, Ev.prep, Ev.prep1, Ev.asD, Ev.asDs, Ev.frzI, Ev.rdRs, Ev.rdR, Ev.lentP, Ev.setAllE, Ev.noB, Ev.argI, Ev.seqI, Ev.forS, Ev.unpS, Ev.setS, Ev.settle, Ev.storeM, Ev.putI, Ev.settles, Ev.storeAll, Ev.asgT, Ev.asgTs, Ev.updC, Ev.setC, Ev.tyM, Ev.tyR, Ev.appM, Ev.popM, Ev.appC, Ev.popC, Ev.dat, Ev.lst, Ev.lstOf, Ev.seqOf, Ev.isaF, Ev.isaD, Ev.lenR, Ev.allR, Ev.anyR, Ev.boolsOf, Ev.intsOf, Ev.sumR, Ev.absR, Ev.tupleR, Ev.listR, Ev.reprR, Ev.intR, Ev.divmodR, Ev.min2R, Ev.max2R, Ev.mulR, Ev.addR, Ev.subF, Ev.modF, Ev.divF, Ev.powF, Ev.i2, Ev.i2c, Ev.ixF, Ev.ixR, Ev.partM, Ev.cutF, Ev.cutR, Ev.inF, Ev.inR', Ev.dict1V, Ev.bi2, Ev.ca, Ev.negR, Ev.dKey, Ev.dKeys, Ev.truth, Ev.truM, Ev.bM, Ev.isNone, Ev.starM, Ev.sortSetR, PyData.isTuple, PyData.isInt, PyData.isBool, PyData.isStr, PyData.isList, PyData.isDict, PySem.sizeLine_eq, cond, p_ends_of, f_ends_of, mD, pairD]
theorem c_pairs {P now : Int} {ms : List Mt} {r1 r2 r3 r4 o6 o8 : Option R} (hz : ms.length ≤ 1000) :
    c_arrivals_by_3 [some (.d (webD P ms)), r1, r2, r3, r4, some (.d (.int now)), o6, none, o8] = .ok (.n (.l ((pairsAt ms now).map pairD))) [some (.d (webD P ms)), r1, r2, r3, r4, some (.d (.int now)), o6, none, o8] := by
  unfold c_arrivals_by_3
  rw [lcM_pure (xs := ms) (enc := mD) (p := fun m => decide (m.1 = now)) (g := fun m => pairD (m.2.1, m.2.2)) (env0 := [some (.d (webD P ms)), r1, r2, r3, r4, some (.d (.int now)), o6, none, o8])]
  · simp [pairsAt]
  · simp [Ev.runD, Ev.startE, Ev.outsOf, Ev.retR, Ev.isN, Ev.notN, Ev.chainF, Ev.callY, Ev.permL, Ev.prep, Ev.prep1, Ev.asD, Ev.asDs, Ev.frzI, Ev.rdRs, Ev.rdR, Ev.lentP, Ev.setAllE, Ev.noB, Ev.argI, Ev.seqI, Ev.forS, Ev.unpS, Ev.setS, Ev.settle, Ev.storeM, Ev.putI, Ev.settles, Ev.storeAll, Ev.asgT, Ev.asgTs, Ev.updC, Ev.setC, Ev.tyM, Ev.tyR, Ev.appM, Ev.popM, Ev.appC, Ev.popC, Ev.dat, Ev.lst, Ev.lstOf, Ev.seqOf, Ev.isaF, Ev.isaD, Ev.lenR, Ev.allR, Ev.anyR, Ev.boolsOf, Ev.intsOf, Ev.sumR, Ev.absR, Ev.tupleR, Ev.listR, Ev.reprR, Ev.intR, Ev.divmodR, Ev.min2R, Ev.max2R, Ev.mulR, Ev.addR, Ev.subF, Ev.modF, Ev.divF, Ev.powF, Ev.i2, Ev.i2c, Ev.ixF, Ev.ixR, Ev.partM, Ev.cutF, Ev.cutR, Ev.inF, Ev.inR', Ev.dict1V, Ev.bi2, Ev.ca, Ev.negR, Ev.dKey, Ev.dKeys, Ev.truth, Ev.truM, Ev.bM, Ev.isNone, Ev.starM, Ev.sortSetR, PyData.isTuple, PyData.isInt, PyData.isBool, PyData.isStr, PyData.isList, PyData.isDict, PySem.sizeLine_eq, cond, webD]
  · rfl
  · intro m _
    refine ⟨[some (.d (webD P ms)), r1, r2, r3, r4, some (.d (.int now)), o6, some (.d (mD m)), o8], ?_, ?_, ?_, ?_⟩
    · simp [Ev.runD, Ev.startE, Ev.outsOf, Ev.retR, Ev.isN, Ev.notN, Ev.chainF, Ev.callY, Ev.permL, Ev.prep, Ev.prep1, Ev.asD, Ev.asDs, Ev.frzI, Ev.rdRs, Ev.rdR, Ev.lentP, Ev.setAllE, Ev.noB, Ev.argI, Ev.seqI, Ev.forS, Ev.unpS, Ev.setS, Ev.settle, Ev.storeM, Ev.putI, Ev.settles, Ev.storeAll, Ev.asgT, Ev.asgTs, Ev.updC, Ev.setC, Ev.tyM, Ev.tyR, Ev.appM, Ev.popM, Ev.appC, Ev.popC, Ev.dat, Ev.lst, Ev.lstOf, Ev.seqOf, Ev.isaF, Ev.isaD, Ev.lenR, Ev.allR, Ev.anyR, Ev.boolsOf, Ev.intsOf, Ev.sumR, Ev.absR, Ev.tupleR, Ev.listR, Ev.reprR, Ev.intR, Ev.divmodR, Ev.min2R, Ev.max2R, Ev.mulR, Ev.addR, Ev.subF, Ev.modF, Ev.divF, Ev.powF, Ev.i2, Ev.i2c, Ev.ixF, Ev.ixR, Ev.partM, Ev.cutF, Ev.cutR, Ev.inF, Ev.inR', Ev.dict1V, Ev.bi2, Ev.ca, Ev.negR, Ev.dKey, Ev.dKeys, Ev.truth, Ev.truM, Ev.bM, Ev.isNone, Ev.starM, Ev.sortSetR, PyData.isTuple, PyData.isInt, PyData.isBool, PyData.isStr, PyData.isList, PyData.isDict, PySem.sizeLine_eq, cond, outer, wipeE]
    · simp [Ev.runD, Ev.startE, Ev.outsOf, Ev.retR, Ev.isN, Ev.notN, Ev.chainF, Ev.callY, Ev.permL, Ev.prep, Ev.prep1, Ev.asD, Ev.asDs, Ev.frzI, Ev.rdRs, Ev.rdR, Ev.lentP, Ev.setAllE, Ev.noB, Ev.argI, Ev.seqI, Ev.forS, Ev.unpS, Ev.setS, Ev.settle, Ev.storeM, Ev.putI, Ev.settles, Ev.storeAll, Ev.asgT, Ev.asgTs, Ev.updC, Ev.setC, Ev.tyM, Ev.tyR, Ev.appM, Ev.popM, Ev.appC, Ev.popC, Ev.dat, Ev.lst, Ev.lstOf, Ev.seqOf, Ev.isaF, Ev.isaD, Ev.lenR, Ev.allR, Ev.anyR, Ev.boolsOf, Ev.intsOf, Ev.sumR, Ev.absR, Ev.tupleR, Ev.listR, Ev.reprR, Ev.intR, Ev.divmodR, Ev.min2R, Ev.max2R, Ev.mulR, Ev.addR, Ev.subF, Ev.modF, Ev.divF, Ev.powF, Ev.i2, Ev.i2c, Ev.ixF, Ev.ixR, Ev.partM, Ev.cutF, Ev.cutR, Ev.inF, Ev.inR', Ev.dict1V, Ev.bi2, Ev.ca, Ev.negR, Ev.dKey, Ev.dKeys, Ev.truth, Ev.truM, Ev.bM, Ev.isNone, Ev.starM, Ev.sortSetR, PyData.isTuple, PyData.isInt, PyData.isBool, PyData.isStr, PyData.isList, PyData.isDict, PySem.sizeLine_eq, cond, t_arrivals_by_1, mD]
    · intro _
      simp [Ev.runD, Ev.startE, Ev.outsOf, Ev.retR, Ev.isN, Ev.notN, Ev.chainF, Ev.callY, Ev.permL, Ev.prep, Ev.prep1, Ev.asD, Ev.asDs, Ev.frzI, Ev.rdRs, Ev.rdR, Ev.lentP, Ev.setAllE, Ev.noB, Ev.argI, Ev.seqI, Ev.forS, Ev.unpS, Ev.setS, Ev.settle, Ev.storeM, Ev.putI, Ev.settles, Ev.storeAll, Ev.asgT, Ev.asgTs, Ev.updC, Ev.setC, Ev.tyM, Ev.tyR, Ev.appM, Ev.popM, Ev.appC, Ev.popC, Ev.dat, Ev.lst, Ev.lstOf, Ev.seqOf, Ev.isaF, Ev.isaD, Ev.lenR, Ev.allR, Ev.anyR, Ev.boolsOf, Ev.intsOf, Ev.sumR, Ev.absR, Ev.tupleR, Ev.listR, Ev.reprR, Ev.intR, Ev.divmodR, Ev.min2R, Ev.max2R, Ev.mulR, Ev.addR, Ev.subF, Ev.modF, Ev.divF, Ev.powF, Ev.i2, Ev.i2c, Ev.ixF, Ev.ixR, Ev.partM, Ev.cutF, Ev.cutR, Ev.inF, Ev.inR', Ev.dict1V, Ev.bi2, Ev.ca, Ev.negR, Ev.dKey, Ev.dKeys, Ev.truth, Ev.truM, Ev.bM, Ev.isNone, Ev.starM, Ev.sortSetR, PyData.isTuple, PyData.isInt, PyData.isBool, PyData.isStr, PyData.isList, PyData.isDict, PySem.sizeLine_eq, cond, e_arrivals_by_2, ends_eq]
    · simp [wipeE]
  · rw [sizeLine_eq]; omega
/-- what a time's loop adds -/
def addN (now : Int) (fd : List (Int × Int)) (p : Int) : List (Int × Int) := if p ∈ fd.map (·.1) then fd else fd ++ [(p, now)]
/-- keys once each, inside -/
def Good (P : Int) (fd : List (Int × Int)) : Prop := (fd.map (·.1)).Nodup ∧ Ins P (fd.map (·.1))
theorem good_add {P now p : Int} {fd : List (Int × Int)} (h : Good P fd) (hp : 0 ≤ p ∧ p < P) : Good P (addN now fd p) := by
  unfold addN
  split
  · exact h
  · rename_i hn
    refine ⟨?_, fun q hq => ?_⟩
    · rw [List.map_append, List.nodup_append]
      refine ⟨h.1, by simp, fun a ha b hb e => ?_⟩
      simp at hb
      subst hb; subst e
      exact hn ha
    · rw [List.map_append, List.mem_append] at hq
      rcases hq with hq | hq
      · exact h.2 q hq
      · simp at hq; subst hq; exact hp
theorem good_len {P : Int} {fd : List (Int × Int)} (h : Good P fd) (hP : 0 ≤ P) (hP6 : P ≤ 6) : fd.length ≤ 6 := by
  have := ins_le h.2 h.1 hP
  rw [List.length_map] at this
  omega
theorem add_loop {P now : Int} {r0 r1 r2 r3 o6 o7 : Option R} (hP : 0 ≤ P) (hP6 : P ≤ 6) {out : List Int} (ho : Ins P out) (fd : List (Int × Int)) (o8 : Option R) (hg : Good P fd) :
    ∃ env', forL [] (.n 8) b_arrivals_by_4 (intsD out) [r0, r1, r2, r3, some (.c (.k (fd.map kvD))), some (.d (.int now)), o6, o7, o8] = .ok .nx env' ∧
      Good P (out.foldl (addN now) fd) ∧ ∃ o8', env' = [r0, r1, r2, r3, some (.c (.k ((out.foldl (addN now) fd).map kvD))), some (.d (.int now)), o6, o7, o8'] := by
  refine forL_inv (enc := PyData.int) (fun s env => Good P s ∧ ∃ o8, env = [r0, r1, r2, r3, some (.c (.k (s.map kvD))), some (.d (.int now)), o6, o7, o8]) (addN now) out (fun p hp s env hI => ?_) fd _ ⟨hg, o8, rfl⟩
  obtain ⟨hs, o8, rfl⟩ := hI
  have hl := good_len hs hP hP6
  have hi := in_kv p s
  refine ⟨[r0, r1, r2, r3, some (.c (.k (s.map kvD))), some (.d (.int now)), o6, o7, some (.d (.int p))], [r0, r1, r2, r3, some (.c (.k ((addN now s p).map kvD))), some (.d (.int now)), o6, o7, some (.d (.int p))], ?_, ?_, good_add hs (ho p hp), _, rfl⟩
  · simp [Ev.runD, Ev.startE, Ev.outsOf, Ev.retR, Ev.isN, Ev.notN, Ev.chainF, Ev.callY, Ev.permL, Ev.prep, Ev.prep1, Ev.asD, Ev.asDs, Ev.frzI, Ev.rdRs, Ev.rdR, Ev.lentP, Ev.setAllE, Ev.noB, Ev.argI, Ev.seqI, Ev.forS, Ev.unpS, Ev.setS, Ev.settle, Ev.storeM, Ev.putI, Ev.settles, Ev.storeAll, Ev.asgT, Ev.asgTs, Ev.updC, Ev.setC, Ev.tyM, Ev.tyR, Ev.appM, Ev.popM, Ev.appC, Ev.popC, Ev.dat, Ev.lst, Ev.lstOf, Ev.seqOf, Ev.isaF, Ev.isaD, Ev.lenR, Ev.allR, Ev.anyR, Ev.boolsOf, Ev.intsOf, Ev.sumR, Ev.absR, Ev.tupleR, Ev.listR, Ev.reprR, Ev.intR, Ev.divmodR, Ev.min2R, Ev.max2R, Ev.mulR, Ev.addR, Ev.subF, Ev.modF, Ev.divF, Ev.powF, Ev.i2, Ev.i2c, Ev.ixF, Ev.ixR, Ev.partM, Ev.cutF, Ev.cutR, Ev.inF, Ev.inR', Ev.dict1V, Ev.bi2, Ev.ca, Ev.negR, Ev.dKey, Ev.dKeys, Ev.truth, Ev.truM, Ev.bM, Ev.isNone, Ev.starM, Ev.sortSetR, PyData.isTuple, PyData.isInt, PyData.isBool, PyData.isStr, PyData.isList, PyData.isDict, PySem.sizeLine_eq, cond]
  · by_cases h : p ∈ s.map (·.1)
    · rw [decide_eq_true h] at hi
      have e : addN now s p = s := if_pos h
      simp [Ev.runD, Ev.startE, Ev.outsOf, Ev.retR, Ev.isN, Ev.notN, Ev.chainF, Ev.callY, Ev.permL, Ev.prep, Ev.prep1, Ev.asD, Ev.asDs, Ev.frzI, Ev.rdRs, Ev.rdR, Ev.lentP, Ev.setAllE, Ev.noB, Ev.argI, Ev.seqI, Ev.forS, Ev.unpS, Ev.setS, Ev.settle, Ev.storeM, Ev.putI, Ev.settles, Ev.storeAll, Ev.asgT, Ev.asgTs, Ev.updC, Ev.setC, Ev.tyM, Ev.tyR, Ev.appM, Ev.popM, Ev.appC, Ev.popC, Ev.dat, Ev.lst, Ev.lstOf, Ev.seqOf, Ev.isaF, Ev.isaD, Ev.lenR, Ev.allR, Ev.anyR, Ev.boolsOf, Ev.intsOf, Ev.sumR, Ev.absR, Ev.tupleR, Ev.listR, Ev.reprR, Ev.intR, Ev.divmodR, Ev.min2R, Ev.max2R, Ev.mulR, Ev.subF, Ev.modF, Ev.divF, Ev.powF, Ev.i2, Ev.i2c, Ev.ixF, Ev.ixR, Ev.partM, Ev.cutF, Ev.cutR, Ev.inF, Ev.dict1V, Ev.bi2, Ev.ca, Ev.negR, Ev.dKey, Ev.dKeys, Ev.truth, Ev.truM, Ev.bM, Ev.isNone, Ev.starM, Ev.sortSetR, PyData.isTuple, PyData.isInt, PyData.isBool, PyData.isStr, PyData.isList, PyData.isDict, PySem.sizeLine_eq, cond, b_arrivals_by_4, inF, hi, e]
    · rw [decide_eq_false h] at hi
      have e : addN now s p = s ++ [(p, now)] := if_neg h
      have hput := put_kv (t := now) h
      have hz : s.length < 16777216 := by omega
      simp [Ev.runD, Ev.startE, Ev.outsOf, Ev.retR, Ev.isN, Ev.notN, Ev.chainF, Ev.callY, Ev.permL, Ev.prep, Ev.prep1, Ev.asD, Ev.asDs, Ev.frzI, Ev.rdRs, Ev.rdR, Ev.lentP, Ev.setAllE, Ev.noB, Ev.argI, Ev.seqI, Ev.forS, Ev.unpS, Ev.setS, Ev.settle, Ev.storeM, Ev.putI, Ev.settles, Ev.storeAll, Ev.asgT, Ev.asgTs, Ev.updC, Ev.setC, Ev.tyM, Ev.tyR, Ev.appM, Ev.popM, Ev.appC, Ev.popC, Ev.dat, Ev.lst, Ev.lstOf, Ev.seqOf, Ev.isaF, Ev.isaD, Ev.lenR, Ev.allR, Ev.anyR, Ev.boolsOf, Ev.intsOf, Ev.sumR, Ev.absR, Ev.tupleR, Ev.listR, Ev.reprR, Ev.intR, Ev.divmodR, Ev.min2R, Ev.max2R, Ev.mulR, Ev.subF, Ev.modF, Ev.divF, Ev.powF, Ev.i2, Ev.i2c, Ev.ixF, Ev.ixR, Ev.partM, Ev.cutF, Ev.cutR, Ev.inF, Ev.dict1V, Ev.bi2, Ev.ca, Ev.negR, Ev.dKey, Ev.dKeys, Ev.truth, Ev.truM, Ev.bM, Ev.isNone, Ev.starM, Ev.sortSetR, PyData.isTuple, PyData.isInt, PyData.isBool, PyData.isStr, PyData.isList, PyData.isDict, PySem.sizeLine_eq, cond, b_arrivals_by_4, inF, hi, e, dKey, hput, hz]
end K44
set_option maxHeartbeats 1000000
namespace K44
open PySem Ev Way
/-- the meetings from a time on -/
def frm (t0 : Int) (ms : List Mt) : List Mt := ms.filter fun m => decide (t0 ≤ m.1)
theorem mem_frm {t0 : Int} {ms : List Mt} {m : Mt} : m ∈ frm t0 ms ↔ m ∈ ms ∧ t0 ≤ m.1 := by simp [frm]
theorem mem_pairsAt {ms : List Mt} {now a b : Int} : (a, b) ∈ pairsAt ms now ↔ (now, a, b) ∈ ms := by
  simp only [pairsAt, List.mem_map, List.mem_filter, decide_eq_true_eq]
  constructor
  · rintro ⟨⟨t, x, y⟩, ⟨h1, h2⟩, h3⟩
    simp only at h2 h3
    cases h3; subst h2; exact h1
  · intro h; exact ⟨(now, a, b), ⟨h, rfl⟩, rfl⟩
theorem led_step {ms : List Mt} {loose : Bool} {s t0 T : Int} {hd : List Int} (ht : t0 ≤ T) (hT : 0 < T) (h : ∀ p, p ∈ hd ↔ ∃ l, l < T ∧ Rch (frm t0 ms) loose s p l) (p : Int) :
    Led loose (pairsAt ms T) hd p ↔ ∃ l, l < T + 1 ∧ Rch (frm t0 ms) loose s p l := by
  have go : ∀ {x y l : Int}, (x, y) ∈ pairsAt ms T → Rch (frm t0 ms) loose s x l → late loose l T → Rch (frm t0 ms) loose s y T := fun {x y l} hm hr hl => by
    have := Rch.step hr (mem_frm.mpr ⟨mem_pairsAt.mp hm, ht⟩) hl (.inl rfl)
    have e : x + y - x = y := by omega
    rwa [e] at this
  have back : ∀ {x y l : Int}, (x, y) ∈ pairsAt ms T → Rch (frm t0 ms) loose s y l → late loose l T → Rch (frm t0 ms) loose s x T := fun {x y l} hm hr hl => by
    have := Rch.step hr (mem_frm.mpr ⟨mem_pairsAt.mp hm, ht⟩) hl (.inr rfl)
    have e : x + y - y = x := by omega
    rwa [e] at this
  constructor
  · intro hL
    unfold Led at hL
    cases loose with
    | false =>
      simp only [Bool.false_eq_true, if_false] at hL
      rcases hL with hL | ⟨x, h1, h2⟩ | ⟨y, h1, h2⟩
      · obtain ⟨l, q1, q2⟩ := (h p).mp hL
        exact ⟨l, by omega, q2⟩
      · obtain ⟨l, q1, q2⟩ := (h x).mp h2
        exact ⟨T, by omega, go h1 q2 (.inl q1)⟩
      · obtain ⟨l, q1, q2⟩ := (h y).mp h2
        exact ⟨T, by omega, back h1 q2 (.inl q1)⟩
    | true =>
      simp only [if_true] at hL
      have lt : ∀ {l : Int}, l < T + 1 → late true l T := fun {l} hl => by
        by_cases e : l < T
        · exact .inl e
        · exact .inr ⟨by omega, rfl⟩
      induction hL with
      | «at» hL =>
        obtain ⟨l, q1, q2⟩ := (h _).mp hL
        exact ⟨l, by omega, q2⟩
      | to h1 _ ih =>
        obtain ⟨l, q1, q2⟩ := ih
        exact ⟨T, by omega, go h1 q2 (lt q1)⟩
      | fr h1 _ ih =>
        obtain ⟨l, q1, q2⟩ := ih
        exact ⟨T, by omega, back h1 q2 (lt q1)⟩
  · rintro ⟨l, hl, hr⟩
    have inh : ∀ {p l : Int}, Rch (frm t0 ms) loose s p l → l < T → Led loose (pairsAt ms T) hd p := fun {p l} hr hl => by
      have := (h p).mpr ⟨l, hl, hr⟩
      unfold Led
      cases loose with
      | false => simp only [Bool.false_eq_true, if_false]; exact .inl this
      | true => simp only [if_true]; exact .at this
    have at' : ∀ {p l : Int}, Rch (frm t0 ms) loose s p l → l = T → Led loose (pairsAt ms T) hd p := fun {p l} hr => by
      induction hr with
      | base => intro e; omega
      | @step q l' t a b hr hm hlt hab ih =>
        intro e
        subst e
        have hp : (a, b) ∈ pairsAt ms t := mem_pairsAt.mpr (mem_frm.mp hm).1
        cases loose with
        | false =>
          have hl : l' < t := by
            rcases hlt with e | ⟨_, e⟩
            · exact e
            · cases e
          have hq := (h q).mpr ⟨l', hl, hr⟩
          unfold Led
          simp only [Bool.false_eq_true, if_false]
          rcases hab with e | e
          · subst e
            have e : q + b - q = b := by omega
            rw [e]
            exact .inr (.inl ⟨q, hp, hq⟩)
          · subst e
            have e : a + q - q = a := by omega
            rw [e]
            exact .inr (.inr ⟨q, hp, hq⟩)
        | true =>
          have hq : Led true (pairsAt ms t) hd q := by
            by_cases e : l' < t
            · exact inh hr e
            · exact ih (by have := hlt.le; omega)
          unfold Led at hq ⊢
          simp only [if_true] at hq ⊢
          rcases hab with e | e
          · subst e
            have e : q + b - q = b := by omega
            rw [e]
            exact .to hp hq
          · subst e
            have e : a + q - q = a := by omega
            rw [e]
            exact .fr hp hq
    by_cases e : l < T
    · exact inh hr e
    · exact at' hr (by omega)
theorem mem_addN {now : Int} {p l : Int} : ∀ {out : List Int} {fd : List (Int × Int)}, (p, l) ∈ out.foldl (addN now) fd → (p, l) ∈ fd ∨ (p ∈ out ∧ p ∉ fd.map (·.1) ∧ l = now)
  | [], fd, h => .inl h
  | q :: out, fd, h => by
    rw [List.foldl_cons] at h
    rcases mem_addN h with h | ⟨h1, h2, h3⟩
    · unfold addN at h
      split at h
      · exact .inl h
      · rename_i hq
        rcases List.mem_append.mp h with h | h
        · exact .inl h
        · simp at h
          obtain ⟨rfl, rfl⟩ := h
          exact .inr ⟨by simp, hq, rfl⟩
    · unfold addN at h2
      refine .inr ⟨by simp [h1], ?_, h3⟩
      split at h2
      · exact h2
      · intro z
        exact h2 (by rw [List.map_append, List.mem_append]; exact .inl z)
theorem key_addN {now : Int} {p : Int} : ∀ {out : List Int} {fd : List (Int × Int)}, p ∈ (out.foldl (addN now) fd).map (·.1) ↔ p ∈ fd.map (·.1) ∨ p ∈ out
  | [], fd => by simp
  | q :: out, fd => by
    rw [List.foldl_cons, key_addN]
    have : p ∈ (addN now fd q).map (·.1) ↔ p ∈ fd.map (·.1) ∨ p = q := by
      unfold addN
      split
      · rename_i h
        constructor
        · exact .inl
        · rintro (h' | h')
          · exact h'
          · rw [h']; exact h
      · simp
    rw [this, List.mem_cons]
    constructor
    · rintro ((h | h) | h)
      · exact .inl h
      · exact .inr (.inl h)
      · exact .inr (.inr h)
    · rintro (h | h | h)
      · exact .inl (.inl h)
      · exact .inl (.inr h)
      · exact .inr h
theorem sub_addN {now : Int} {q : Int × Int} : ∀ {out : List Int} {fd : List (Int × Int)}, q ∈ fd → q ∈ out.foldl (addN now) fd
  | [], fd, h => h
  | p :: out, fd, h => by
    rw [List.foldl_cons]
    refine sub_addN ?_
    unfold addN
    split
    · exact h
    · exact List.mem_append_left _ h
/-- what is found ahead of a time -/
structure Fnd (ms : List Mt) (loose : Bool) (s t0 T : Int) (fd : List (Int × Int)) : Prop where
  keys : ∀ p, p ∈ fd.map (·.1) ↔ ∃ l, l < T ∧ Rch (frm t0 ms) loose s p l
  own : (s, t0) ∈ fd
  least : ∀ p l, (p, l) ∈ fd → p ≠ s → Rch (frm t0 ms) loose s p l ∧ ∀ l', Rch (frm t0 ms) loose s p l' → l ≤ l'
theorem Fnd.next {ms : List Mt} {loose : Bool} {s t0 T : Int} {fd : List (Int × Int)} {out : List Int} (F : Fnd ms loose s t0 T fd) (ht : t0 ≤ T) (hT : 0 < T) (ho : ∀ p, p ∈ out ↔ Led loose (pairsAt ms T) (fd.map (·.1)) p) :
    Fnd ms loose s t0 (T + 1) (out.foldl (addN T) fd) := by
  have hk : ∀ p, p ∈ out ↔ ∃ l, l < T + 1 ∧ Rch (frm t0 ms) loose s p l := fun p => (ho p).trans (led_step ht hT F.keys p)
  refine ⟨fun p => ?_, sub_addN F.own, fun p l hp hs => ?_⟩
  · rw [key_addN, hk, F.keys]
    constructor
    · rintro (⟨l, h1, h2⟩ | h)
      · exact ⟨l, by omega, h2⟩
      · exact h
    · exact .inr
  · rcases mem_addN hp with h | ⟨h1, h2, rfl⟩
    · exact F.least p l h hs
    · obtain ⟨l', q1, q2⟩ := (hk p).mp h1
      have nl : ∀ l', Rch (frm t0 ms) loose s p l' → l ≤ l' := fun l' hr => by
        by_cases e : l ≤ l'
        · exact e
        · exact absurd ((F.keys p).mpr ⟨l', by omega, hr⟩) h2
      have e : l' = l := by have := nl l' q2; omega
      rw [e] at q2
      exact ⟨q2, nl⟩
theorem web_pairs {P : Int} {ms : List Mt} (hw : Web P ms) (now : Int) : InsP P (pairsAt ms now) := fun p hp => by
  obtain ⟨a, b⟩ := p
  have := hw.1 _ (mem_pairsAt.mp hp)
  have h0 := this.a0
  have h1 := this.ab
  have h2 := this.bP
  simp only at h0 h1 h2 ⊢
  omega
theorem len_pairs (ms : List Mt) (now : Int) : (pairsAt ms now).length ≤ ms.length := by
  simp only [pairsAt, List.length_map]
  exact List.length_filter_le _ _
theorem body_arr {P : Int} {ms : List Mt} {loose : Bool} {s t0 T : Int} {fd : List (Int × Int)} {r2 r3 o6 o8 : Option R} (hP : 0 ≤ P) (hP6 : P ≤ 6) (hw : Web P ms) (hz : ms.length < 400) (hg : Good P fd) (F : Fnd ms loose s t0 T fd) (ht : t0 ≤ T) (hT : 0 < T) :
    ∃ fd' o6' o8', b_arrivals_by_5 [some (.d (webD P ms)), some (.d (kindD loose)), r2, r3, some (.c (.k (fd.map kvD))), some (.d (.int T)), o6, none, o8]
      = .ok .nx [some (.d (webD P ms)), some (.d (kindD loose)), r2, r3, some (.c (.k (fd'.map kvD))), some (.d (.int T)), o6', none, o8'] ∧ Good P fd' ∧ Fnd ms loose s t0 (T + 1) fd' := by
  have hl := len_pairs ms T
  obtain ⟨out, e1, e2, e3, e4⟩ := led_ok loose hP hP6 (web_pairs hw T) (by omega) hg.2 hg.1
  obtain ⟨env', h1, h2, o8', rfl⟩ := add_loop (now := T) (r0 := some (.d (webD P ms))) (r1 := some (.d (kindD loose))) (r2 := r2) (r3 := r3) (o6 := some (.d (.list ((pairsAt ms T).map pairD)))) (o7 := none) hP hP6 e3 fd o8 hg
  have hc := c_pairs (P := P) (now := T) (ms := ms) (r1 := some (.d (kindD loose))) (r2 := r2) (r3 := r3) (r4 := some (.c (.k (fd.map kvD)))) (o6 := o6) (o8 := o8) (by omega)
  refine ⟨out.foldl (addN T) fd, some (.d (.list ((pairsAt ms T).map pairD))), o8', ?_, h2, F.next ht hT e4⟩
  have hk := keys_kv fd
  unfold b_arrivals_by_5
  simp [Ev.runD, Ev.startE, Ev.outsOf, Ev.retR, Ev.isN, Ev.notN, Ev.chainF, Ev.callY, Ev.permL, Ev.prep, Ev.prep1, Ev.asD, Ev.asDs, Ev.frzI, Ev.rdRs, Ev.rdR, Ev.lentP, Ev.setAllE, Ev.noB, Ev.argI, Ev.seqI, Ev.unpS, Ev.setS, Ev.settle, Ev.storeM, Ev.putI, Ev.settles, Ev.storeAll, Ev.asgT, Ev.asgTs, Ev.updC, Ev.setC, Ev.tyM, Ev.tyR, Ev.appM, Ev.popM, Ev.appC, Ev.popC, Ev.dat, Ev.lst, Ev.lstOf, Ev.seqOf, Ev.isaF, Ev.isaD, Ev.lenR, Ev.allR, Ev.anyR, Ev.boolsOf, Ev.intsOf, Ev.sumR, Ev.absR, Ev.tupleR, Ev.listR, Ev.reprR, Ev.intR, Ev.divmodR, Ev.min2R, Ev.max2R, Ev.mulR, Ev.addR, Ev.subF, Ev.modF, Ev.divF, Ev.powF, Ev.i2, Ev.i2c, Ev.ixF, Ev.ixR, Ev.partM, Ev.cutF, Ev.cutR, Ev.inF, Ev.inR', Ev.dict1V, Ev.bi2, Ev.ca, Ev.negR, Ev.dKey, Ev.dKeys, Ev.truth, Ev.truM, Ev.bM, Ev.isNone, Ev.starM, Ev.sortSetR, PyData.isTuple, PyData.isInt, PyData.isBool, PyData.isStr, PyData.isList, PyData.isDict, PySem.sizeLine_eq, cond, hc]
  rw [forS_ok (ds := intsD out) (env1 := [some (.d (webD P ms)), some (.d (kindD loose)), r2, r3, some (.c (.k (fd.map kvD))), some (.d (.int T)), some (.d (.list ((pairsAt ms T).map pairD))), none, o8])]
  · rw [h1]
  · simp [Ev.runD, Ev.startE, Ev.outsOf, Ev.retR, Ev.isN, Ev.notN, Ev.chainF, Ev.callY, Ev.permL, Ev.prep, Ev.prep1, Ev.asD, Ev.asDs, Ev.frzI, Ev.rdRs, Ev.rdR, Ev.lentP, Ev.setAllE, Ev.noB, Ev.argI, Ev.seqI, Ev.forS, Ev.unpS, Ev.setS, Ev.settle, Ev.storeM, Ev.putI, Ev.settles, Ev.storeAll, Ev.asgT, Ev.asgTs, Ev.updC, Ev.setC, Ev.tyM, Ev.tyR, Ev.appM, Ev.popM, Ev.appC, Ev.popC, Ev.dat, Ev.lst, Ev.lstOf, Ev.seqOf, Ev.isaF, Ev.isaD, Ev.lenR, Ev.allR, Ev.anyR, Ev.boolsOf, Ev.intsOf, Ev.sumR, Ev.absR, Ev.tupleR, Ev.listR, Ev.reprR, Ev.intR, Ev.divmodR, Ev.min2R, Ev.max2R, Ev.mulR, Ev.addR, Ev.subF, Ev.modF, Ev.divF, Ev.powF, Ev.i2, Ev.i2c, Ev.ixF, Ev.ixR, Ev.partM, Ev.cutF, Ev.cutR, Ev.inF, Ev.inR', Ev.dict1V, Ev.bi2, Ev.ca, Ev.negR, Ev.dKey, Ev.dKeys, Ev.truth, Ev.truM, Ev.bM, Ev.isNone, Ev.starM, Ev.sortSetR, PyData.isTuple, PyData.isInt, PyData.isBool, PyData.isStr, PyData.isList, PyData.isDict, PySem.sizeLine_eq, cond, hk, e1]
end K44
set_option maxHeartbeats 1000000
namespace K44
open PySem Ev Way
theorem rch_time {ms : List Mt} {loose : Bool} {s p l t0 : Int} (h : Rch (frm t0 ms) loose s p l) : (p = s ∧ l = 0) ∨ (t0 ≤ l ∧ ∃ a b, (l, a, b) ∈ ms) := by
  cases h with
  | base => exact .inl ⟨rfl, rfl⟩
  | step h hm hl hab => exact .inr ⟨(mem_frm.mp hm).2, _, _, (mem_frm.mp hm).1⟩
theorem arr_ok {P : Int} {ms : List Mt} {loose : Bool} {s t0 : Int} (hP : 0 ≤ P) (hP6 : P ≤ 6) (hw : Web P ms) (hz : ms.length < 400) (hs : 0 ≤ s ∧ s < P) (h1 : 1 ≤ t0) (h2 : t0 ≤ 20) :
    ∃ fd, p_arrivals_by [.d (webD P ms), .d (kindD loose), .d (.int s), .d (.int t0)] = .ok (.n (.k (fd.map kvD))) [] ∧ Good P fd ∧ Fnd ms loose s t0 21 fd := by
  obtain ⟨env', e1, o5, o6, o8, fd, rfl, hg, hF⟩ := forL_ix (gd := []) (t := .n 5) (f := b_arrivals_by_5)
    (fun i env => ∃ o5 o6 o8 fd, env = [some (.d (webD P ms)), some (.d (kindD loose)), some (.d (.int s)), some (.d (.int t0)), some (.c (.k (fd.map kvD))), o5, o6, none, o8] ∧ Good P fd ∧ Fnd ms loose s t0 (t0 + (i : Nat)) fd) (rng t0 1 (21 - t0).toNat)
    (fun i d hd env hI => by
      obtain ⟨o5, o6, o8, fd, rfl, hg, hF⟩ := hI
      have hd' : d = .int (t0 + (i : Nat)) := by
        have hi := (List.getElem?_eq_some_iff.mp hd).1
        simp only [rng, List.length_map, List.length_range] at hi
        simp [rng, hi] at hd
        exact hd.symm
      subst hd'
      obtain ⟨fd', o6', o8', q1, q2, q3⟩ := body_arr (r2 := some (.d (.int s))) (r3 := some (.d (.int t0))) (o6 := o6) (o8 := o8) hP hP6 hw hz hg hF (by omega) (by omega)
      refine ⟨_, _, ?_, q1, _, _, _, fd', rfl, q2, ?_⟩
      · simp [Ev.runD, Ev.startE, Ev.outsOf, Ev.retR, Ev.isN, Ev.notN, Ev.chainF, Ev.callY, Ev.permL, Ev.prep, Ev.prep1, Ev.asD, Ev.asDs, Ev.frzI, Ev.rdRs, Ev.rdR, Ev.lentP, Ev.setAllE, Ev.noB, Ev.argI, Ev.seqI, Ev.forS, Ev.unpS, Ev.setS, Ev.settle, Ev.storeM, Ev.putI, Ev.settles, Ev.storeAll, Ev.asgT, Ev.asgTs, Ev.updC, Ev.setC, Ev.tyM, Ev.tyR, Ev.appM, Ev.popM, Ev.appC, Ev.popC, Ev.dat, Ev.lst, Ev.lstOf, Ev.seqOf, Ev.isaF, Ev.isaD, Ev.lenR, Ev.allR, Ev.anyR, Ev.boolsOf, Ev.intsOf, Ev.sumR, Ev.absR, Ev.tupleR, Ev.listR, Ev.reprR, Ev.intR, Ev.divmodR, Ev.min2R, Ev.max2R, Ev.mulR, Ev.addR, Ev.subF, Ev.modF, Ev.divF, Ev.powF, Ev.i2, Ev.i2c, Ev.ixF, Ev.ixR, Ev.partM, Ev.cutF, Ev.cutR, Ev.inF, Ev.inR', Ev.dict1V, Ev.bi2, Ev.ca, Ev.negR, Ev.dKey, Ev.dKeys, Ev.truth, Ev.truM, Ev.bM, Ev.isNone, Ev.starM, Ev.sortSetR, PyData.isTuple, PyData.isInt, PyData.isBool, PyData.isStr, PyData.isList, PyData.isDict, PySem.sizeLine_eq, cond]
      · have e : t0 + ((i + 1 : Nat) : Int) = t0 + (i : Nat) + 1 := by omega
        rw [e]; exact q3)
    (rng t0 1 (21 - t0).toNat) 0 rfl [some (.d (webD P ms)), some (.d (kindD loose)), some (.d (.int s)), some (.d (.int t0)), some (.c (.k ([(s, t0)].map kvD))), none, none, none, none]
    ⟨none, none, none, [(s, t0)], rfl, ⟨by simp, fun p hp => by simp at hp; subst hp; exact hs⟩, fun p => by
      simp only [List.map_cons, List.map_nil, List.mem_singleton]
      constructor
      · rintro rfl; exact ⟨0, by omega, .base⟩
      · rintro ⟨l, q1, q2⟩
        rcases rch_time q2 with ⟨e, _⟩ | ⟨e, _⟩
        · exact e
        · omega, by simp, fun p l hp hn => by
      simp at hp
      exact absurd hp.1 hn⟩
  have e21 : t0 + ((0 + (rng t0 1 (21 - t0).toNat).length : Nat) : Int) = 21 := by
    simp [rng]; omega
  rw [e21] at hF
  refine ⟨fd, ?_, hg, hF⟩
  refine runD_rt (env := [some (.d (webD P ms)), some (.d (kindD loose)), some (.d (.int s)), some (.d (.int t0)), some (.c (.k (fd.map kvD))), o5, o6, none, o8]) (r := .b 4) ?_ rfl ?_
  · show f_arrivals_by [some (.d (webD P ms)), some (.d (kindD loose)), some (.d (.int s)), some (.d (.int t0)), none, none, none, none, none] = _
    have hsm : smallI t0 = true ∧ smallI 21 = true := ⟨by unfold smallI; simp; omega, by decide⟩
    unfold f_arrivals_by
    simp [Ev.runD, Ev.startE, Ev.outsOf, Ev.retR, Ev.isN, Ev.notN, Ev.chainF, Ev.callY, Ev.permL, Ev.prep, Ev.prep1, Ev.asD, Ev.asDs, Ev.frzI, Ev.rdRs, Ev.rdR, Ev.lentP, Ev.setAllE, Ev.noB, Ev.argI, Ev.seqI, Ev.unpS, Ev.setS, Ev.settle, Ev.storeM, Ev.putI, Ev.settles, Ev.storeAll, Ev.asgT, Ev.asgTs, Ev.updC, Ev.setC, Ev.tyM, Ev.tyR, Ev.appM, Ev.popM, Ev.appC, Ev.popC, Ev.dat, Ev.lst, Ev.lstOf, Ev.seqOf, Ev.isaF, Ev.isaD, Ev.lenR, Ev.allR, Ev.anyR, Ev.boolsOf, Ev.intsOf, Ev.sumR, Ev.absR, Ev.tupleR, Ev.listR, Ev.reprR, Ev.intR, Ev.divmodR, Ev.min2R, Ev.max2R, Ev.mulR, Ev.addR, Ev.subF, Ev.modF, Ev.divF, Ev.powF, Ev.i2, Ev.i2c, Ev.ixF, Ev.ixR, Ev.partM, Ev.cutF, Ev.cutR, Ev.inF, Ev.inR', Ev.dict1V, Ev.bi2, Ev.ca, Ev.negR, Ev.dKey, Ev.dKeys, Ev.truth, Ev.truM, Ev.bM, Ev.isNone, Ev.starM, Ev.sortSetR, PyData.isTuple, PyData.isInt, PyData.isBool, PyData.isStr, PyData.isList, PyData.isDict, PySem.sizeLine_eq, cond]
    rw [forS_ok (ds := rng t0 1 (21 - t0).toNat) (env1 := [some (.d (webD P ms)), some (.d (kindD loose)), some (.d (.int s)), some (.d (.int t0)), some (.c (.k [(.inl s, .int t0)])), none, none, none, none])]
    · have e1' : forL [] (.n 5) b_arrivals_by_5 (rng t0 1 (21 - t0).toNat) [some (.d (webD P ms)), some (.d (kindD loose)), some (.d (.int s)), some (.d (.int t0)), some (.c (.k [(.inl s, .int t0)])), none, none, none, none] = _ := e1
      rw [e1']
      simp
    · simp [Ev.runD, Ev.startE, Ev.outsOf, Ev.retR, Ev.isN, Ev.notN, Ev.chainF, Ev.callY, Ev.permL, Ev.prep, Ev.prep1, Ev.asD, Ev.asDs, Ev.frzI, Ev.rdRs, Ev.rdR, Ev.lentP, Ev.setAllE, Ev.noB, Ev.argI, Ev.seqI, Ev.forS, Ev.unpS, Ev.setS, Ev.settle, Ev.storeM, Ev.putI, Ev.settles, Ev.storeAll, Ev.asgT, Ev.asgTs, Ev.updC, Ev.setC, Ev.tyM, Ev.tyR, Ev.appM, Ev.popM, Ev.appC, Ev.popC, Ev.dat, Ev.lst, Ev.lstOf, Ev.seqOf, Ev.isaF, Ev.isaD, Ev.lenR, Ev.allR, Ev.anyR, Ev.boolsOf, Ev.intsOf, Ev.sumR, Ev.absR, Ev.tupleR, Ev.listR, Ev.reprR, Ev.intR, Ev.divmodR, Ev.min2R, Ev.max2R, Ev.mulR, Ev.addR, Ev.subF, Ev.modF, Ev.divF, Ev.powF, Ev.i2, Ev.i2c, Ev.ixF, Ev.ixR, Ev.partM, Ev.cutF, Ev.cutR, Ev.inF, Ev.inR', Ev.dict1V, Ev.bi2, Ev.ca, Ev.negR, Ev.dKey, Ev.dKeys, Ev.truth, Ev.truM, Ev.bM, Ev.isNone, Ev.starM, Ev.sortSetR, PyData.isTuple, PyData.isInt, PyData.isBool, PyData.isStr, PyData.isList, PyData.isDict, PySem.sizeLine_eq, cond, rngK2, hsm]
  · simp [Ev.runD, Ev.startE, Ev.outsOf, Ev.retR, Ev.isN, Ev.notN, Ev.chainF, Ev.callY, Ev.permL, Ev.prep, Ev.prep1, Ev.asD, Ev.asDs, Ev.frzI, Ev.rdRs, Ev.rdR, Ev.lentP, Ev.setAllE, Ev.noB, Ev.argI, Ev.seqI, Ev.forS, Ev.unpS, Ev.setS, Ev.settle, Ev.storeM, Ev.putI, Ev.settles, Ev.storeAll, Ev.asgT, Ev.asgTs, Ev.updC, Ev.setC, Ev.tyM, Ev.tyR, Ev.appM, Ev.popM, Ev.appC, Ev.popC, Ev.dat, Ev.lst, Ev.lstOf, Ev.seqOf, Ev.isaF, Ev.isaD, Ev.lenR, Ev.allR, Ev.anyR, Ev.boolsOf, Ev.intsOf, Ev.sumR, Ev.absR, Ev.tupleR, Ev.listR, Ev.reprR, Ev.intR, Ev.divmodR, Ev.min2R, Ev.max2R, Ev.mulR, Ev.addR, Ev.subF, Ev.modF, Ev.divF, Ev.powF, Ev.i2, Ev.i2c, Ev.ixF, Ev.ixR, Ev.partM, Ev.cutF, Ev.cutR, Ev.inF, Ev.inR', Ev.dict1V, Ev.bi2, Ev.ca, Ev.negR, Ev.dKey, Ev.dKeys, Ev.truth, Ev.truM, Ev.bM, Ev.isNone, Ev.starM, Ev.sortSetR, PyData.isTuple, PyData.isInt, PyData.isBool, PyData.isStr, PyData.isList, PyData.isDict, PySem.sizeLine_eq, cond]
/-- who is come to, ascending -/
noncomputable def comeOf (P : Int) (ms : List Mt) (loose : Bool) (s : Int) : List Int :=
  open Classical in ((List.range P.toNat).map Int.ofNat).filter fun p => decide (∃ l, Rch ms loose s p l)
theorem asc_ofNat (n : Nat) : ((List.range n).map Int.ofNat).Pairwise (· < ·) := by
  rw [List.pairwise_map]
  refine List.Pairwise.imp ?_ List.pairwise_lt_range
  intro a b h
  show (a : Int) < (b : Int)
  omega
theorem asc_come {P : Int} {ms : List Mt} {loose : Bool} {s : Int} : (comeOf P ms loose s).Pairwise (· < ·) := by
  unfold comeOf
  exact (asc_ofNat _).filter _
theorem mem_come {P : Int} {ms : List Mt} {loose : Bool} {s p : Int} : p ∈ comeOf P ms loose s ↔ (0 ≤ p ∧ p < P) ∧ ∃ l, Rch ms loose s p l := by
  unfold comeOf
  simp only [List.mem_filter, decide_eq_true_eq, List.mem_map]
  constructor
  · rintro ⟨⟨n, h1, rfl⟩, h2⟩
    rw [List.mem_range] at h1
    exact ⟨⟨Int.ofNat_nonneg n, by show (n : Int) < P; omega⟩, h2⟩
  · rintro ⟨⟨h0, h1⟩, h2⟩
    exact ⟨⟨p.toNat, by rw [List.mem_range]; omega, by show ((p.toNat : Nat) : Int) = p; omega⟩, h2⟩
theorem come_ok {P : Int} {ms : List Mt} {loose : Bool} {s t0 : Int} (hP : 0 ≤ P) (hP6 : P ≤ 6) (hw : Web P ms) (hz : ms.length < 400) (hs : 0 ≤ s ∧ s < P) (h1 : 1 ≤ t0) (h2 : t0 ≤ 20) :
    p_come_by [.d (webD P ms), .d (kindD loose), .d (.int s), .d (.int t0)] = .ok (.d (.tuple (intsD (comeOf P (frm t0 ms) loose s)))) [] := by
  obtain ⟨fd, e1, hg, hF⟩ := arr_ok (loose := loose) hP hP6 hw hz hs h1 h2
  have hk := keys_kv fd
  have hso := sortOk_ints (fd.map (·.1))
  have hsd := sortD_ints hg.1
  have e : ascSet (fd.map (·.1)) = comeOf P (frm t0 ms) loose s := asc_uni asc_asc asc_come fun p => by
    rw [mem_asc, mem_come]
    constructor
    · intro hp
      obtain ⟨l, _, q⟩ := (hF.keys p).mp hp
      exact ⟨hg.2 p hp, l, q⟩
    · rintro ⟨_, l, q⟩
      refine (hF.keys p).mpr ⟨l, ?_, q⟩
      rcases rch_time q with ⟨_, e⟩ | ⟨_, a, b, hm⟩
      · omega
      · have := (hw.1 _ hm).t20
        simp only at this
        omega
  rw [e] at hsd
  unfold p_come_by
  have hs1 : sortRR (.c (.k (fd.map kvD))) = some (.n (.l (intsD (comeOf P (frm t0 ms) loose s)))) := by
    unfold sortRR
    simp only [hk]
    unfold intsD
    rw [hso, hsd]
    simp
  simp [Ev.runD, Ev.startE, Ev.outsOf, Ev.retR, Ev.isN, Ev.notN, Ev.chainF, Ev.callY, Ev.permL, Ev.prep, Ev.prep1, Ev.asD, Ev.asDs, Ev.frzI, Ev.rdRs, Ev.rdR, Ev.lentP, Ev.setAllE, Ev.noB, Ev.argI, Ev.seqI, Ev.forS, Ev.unpS, Ev.setS, Ev.settle, Ev.storeM, Ev.putI, Ev.settles, Ev.storeAll, Ev.asgT, Ev.asgTs, Ev.updC, Ev.setC, Ev.tyM, Ev.tyR, Ev.appM, Ev.popM, Ev.appC, Ev.popC, Ev.dat, Ev.lst, Ev.lstOf, Ev.seqOf, Ev.isaF, Ev.isaD, Ev.lenR, Ev.allR, Ev.anyR, Ev.boolsOf, Ev.intsOf, Ev.sumR, Ev.absR, Ev.tupleR, Ev.listR, Ev.reprR, Ev.intR, Ev.divmodR, Ev.min2R, Ev.max2R, Ev.mulR, Ev.addR, Ev.subF, Ev.modF, Ev.divF, Ev.powF, Ev.i2, Ev.i2c, Ev.ixF, Ev.ixR, Ev.partM, Ev.cutF, Ev.cutR, Ev.inF, Ev.inR', Ev.dict1V, Ev.bi2, Ev.ca, Ev.negR, Ev.dKey, Ev.dKeys, Ev.truth, Ev.truM, Ev.bM, Ev.isNone, Ev.starM, Ev.sortSetR, PyData.isTuple, PyData.isInt, PyData.isBool, PyData.isStr, PyData.isList, PyData.isDict, PySem.sizeLine_eq, cond, f_come_by, e1, hs1]
theorem frm_one {P : Int} {ms : List Mt} (hw : Web P ms) : frm 1 ms = ms := by
  unfold frm
  rw [List.filter_eq_self]
  intro m hm
  exact decide_eq_true (hw.1 m hm).t1
/-- the table -/
noncomputable def tblD (P : Int) (ms : List Mt) (loose : Bool) : List PyData := (List.range P.toNat).map fun i => .tuple (intsD (comeOf P ms loose (i : Nat)))
theorem table_ok {P : Int} {ms : List Mt} {loose : Bool} (hP : 0 ≤ P) (hP6 : P ≤ 6) (hw : Web P ms) (hz : ms.length < 400) :
    p_table_by [.d (webD P ms), .d (kindD loose)] = .ok (.d (.tuple (tblD P ms loose))) [] := by
  have hc : c_table_by_3 [some (.d (webD P ms)), some (.d (kindD loose)), none] = .ok (.n (.l (tblD P ms loose))) [some (.d (webD P ms)), some (.d (kindD loose)), none] := by
    unfold c_table_by_3 tblD
    rw [lcM_all (xs := List.range P.toNat) (enc := fun i => .int (i : Nat)) (g := fun i => .tuple (intsD (comeOf P ms loose (i : Nat)))) (env0 := [some (.d (webD P ms)), some (.d (kindD loose)), none])]
    · have hsm : smallI P = true := by unfold smallI; simp; omega
      simp [Ev.runD, Ev.startE, Ev.outsOf, Ev.retR, Ev.isN, Ev.notN, Ev.chainF, Ev.callY, Ev.permL, Ev.prep, Ev.prep1, Ev.asD, Ev.asDs, Ev.frzI, Ev.rdRs, Ev.rdR, Ev.lentP, Ev.setAllE, Ev.noB, Ev.argI, Ev.seqI, Ev.forS, Ev.unpS, Ev.setS, Ev.settle, Ev.storeM, Ev.putI, Ev.settles, Ev.storeAll, Ev.asgT, Ev.asgTs, Ev.updC, Ev.setC, Ev.tyM, Ev.tyR, Ev.appM, Ev.popM, Ev.appC, Ev.popC, Ev.dat, Ev.lst, Ev.lstOf, Ev.seqOf, Ev.isaF, Ev.isaD, Ev.lenR, Ev.allR, Ev.anyR, Ev.boolsOf, Ev.intsOf, Ev.sumR, Ev.absR, Ev.tupleR, Ev.listR, Ev.reprR, Ev.intR, Ev.divmodR, Ev.min2R, Ev.max2R, Ev.mulR, Ev.addR, Ev.subF, Ev.modF, Ev.divF, Ev.powF, Ev.i2, Ev.i2c, Ev.ixF, Ev.ixR, Ev.partM, Ev.cutF, Ev.cutR, Ev.inF, Ev.inR', Ev.dict1V, Ev.bi2, Ev.ca, Ev.negR, Ev.dKey, Ev.dKeys, Ev.truth, Ev.truM, Ev.bM, Ev.isNone, Ev.starM, Ev.sortSetR, PyData.isTuple, PyData.isInt, PyData.isBool, PyData.isStr, PyData.isList, PyData.isDict, PySem.sizeLine_eq, cond, webD, rngK1, hsm, rng]
    · rfl
    · intro i hi
      rw [List.mem_range] at hi
      have hcm := come_ok (loose := loose) (s := (i : Nat)) hP hP6 hw hz (by omega) (t0 := 1) (by omega) (by omega)
      rw [frm_one hw] at hcm
      refine ⟨[some (.d (webD P ms)), some (.d (kindD loose)), some (.d (.int (i : Nat)))], ?_, ?_, ?_, ?_⟩
      · simp [Ev.runD, Ev.startE, Ev.outsOf, Ev.retR, Ev.isN, Ev.notN, Ev.chainF, Ev.callY, Ev.permL, Ev.prep, Ev.prep1, Ev.asD, Ev.asDs, Ev.frzI, Ev.rdRs, Ev.rdR, Ev.lentP, Ev.setAllE, Ev.noB, Ev.argI, Ev.seqI, Ev.forS, Ev.unpS, Ev.setS, Ev.settle, Ev.storeM, Ev.putI, Ev.settles, Ev.storeAll, Ev.asgT, Ev.asgTs, Ev.updC, Ev.setC, Ev.tyM, Ev.tyR, Ev.appM, Ev.popM, Ev.appC, Ev.popC, Ev.dat, Ev.lst, Ev.lstOf, Ev.seqOf, Ev.isaF, Ev.isaD, Ev.lenR, Ev.allR, Ev.anyR, Ev.boolsOf, Ev.intsOf, Ev.sumR, Ev.absR, Ev.tupleR, Ev.listR, Ev.reprR, Ev.intR, Ev.divmodR, Ev.min2R, Ev.max2R, Ev.mulR, Ev.addR, Ev.subF, Ev.modF, Ev.divF, Ev.powF, Ev.i2, Ev.i2c, Ev.ixF, Ev.ixR, Ev.partM, Ev.cutF, Ev.cutR, Ev.inF, Ev.inR', Ev.dict1V, Ev.bi2, Ev.ca, Ev.negR, Ev.dKey, Ev.dKeys, Ev.truth, Ev.truM, Ev.bM, Ev.isNone, Ev.starM, Ev.sortSetR, PyData.isTuple, PyData.isInt, PyData.isBool, PyData.isStr, PyData.isList, PyData.isDict, PySem.sizeLine_eq, cond, outer, wipeE]
      · simp [t_table_by_1]
      · simp [Ev.runD, Ev.startE, Ev.outsOf, Ev.retR, Ev.isN, Ev.notN, Ev.chainF, Ev.callY, Ev.permL, Ev.prep, Ev.prep1, Ev.asD, Ev.asDs, Ev.frzI, Ev.rdRs, Ev.rdR, Ev.lentP, Ev.setAllE, Ev.noB, Ev.argI, Ev.seqI, Ev.forS, Ev.unpS, Ev.setS, Ev.settle, Ev.storeM, Ev.putI, Ev.settles, Ev.storeAll, Ev.asgT, Ev.asgTs, Ev.updC, Ev.setC, Ev.tyM, Ev.tyR, Ev.appM, Ev.popM, Ev.appC, Ev.popC, Ev.dat, Ev.lst, Ev.lstOf, Ev.seqOf, Ev.isaF, Ev.isaD, Ev.lenR, Ev.allR, Ev.anyR, Ev.boolsOf, Ev.intsOf, Ev.sumR, Ev.absR, Ev.tupleR, Ev.listR, Ev.reprR, Ev.intR, Ev.divmodR, Ev.min2R, Ev.max2R, Ev.mulR, Ev.addR, Ev.subF, Ev.modF, Ev.divF, Ev.powF, Ev.i2, Ev.i2c, Ev.ixF, Ev.ixR, Ev.partM, Ev.cutF, Ev.cutR, Ev.inF, Ev.inR', Ev.dict1V, Ev.bi2, Ev.ca, Ev.negR, Ev.dKey, Ev.dKeys, Ev.truth, Ev.truM, Ev.bM, Ev.isNone, Ev.starM, Ev.sortSetR, PyData.isTuple, PyData.isInt, PyData.isBool, PyData.isStr, PyData.isList, PyData.isDict, PySem.sizeLine_eq, cond, e_table_by_2, hcm]
      · simp [wipeE]
    · rw [sizeLine_eq, List.length_range]; omega
  unfold p_table_by
  simp [Ev.runD, Ev.startE, Ev.outsOf, Ev.retR, Ev.isN, Ev.notN, Ev.chainF, Ev.callY, Ev.permL, Ev.prep, Ev.prep1, Ev.asD, Ev.asDs, Ev.frzI, Ev.rdRs, Ev.rdR, Ev.lentP, Ev.setAllE, Ev.noB, Ev.argI, Ev.seqI, Ev.forS, Ev.unpS, Ev.setS, Ev.settle, Ev.storeM, Ev.putI, Ev.settles, Ev.storeAll, Ev.asgT, Ev.asgTs, Ev.updC, Ev.setC, Ev.tyM, Ev.tyR, Ev.appM, Ev.popM, Ev.appC, Ev.popC, Ev.dat, Ev.lst, Ev.lstOf, Ev.seqOf, Ev.isaF, Ev.isaD, Ev.lenR, Ev.allR, Ev.anyR, Ev.boolsOf, Ev.intsOf, Ev.sumR, Ev.absR, Ev.tupleR, Ev.listR, Ev.reprR, Ev.intR, Ev.divmodR, Ev.min2R, Ev.max2R, Ev.mulR, Ev.addR, Ev.subF, Ev.modF, Ev.divF, Ev.powF, Ev.i2, Ev.i2c, Ev.ixF, Ev.ixR, Ev.partM, Ev.cutF, Ev.cutR, Ev.inF, Ev.inR', Ev.dict1V, Ev.bi2, Ev.ca, Ev.negR, Ev.dKey, Ev.dKeys, Ev.truth, Ev.truM, Ev.bM, Ev.isNone, Ev.starM, Ev.sortSetR, PyData.isTuple, PyData.isInt, PyData.isBool, PyData.isStr, PyData.isList, PyData.isDict, PySem.sizeLine_eq, cond, f_table_by, hc]
end K44
set_option maxHeartbeats 1000000
namespace K44
open PySem Ev Way
/-! ### _law_table: one turn of its inner loop -/
def natsD (w : List Nat) : List PyData := w.map fun k => .int (k : Nat)
def entD (e : Ent) : PyData := .tuple [.tuple (natsD e.1), .tuple (intsD e.2)]
theorem lay_nats : ∀ ns : List Nat, PyData.canLayAll0 (natsD ns) = true
  | [] => rfl
  | n :: ns => by
    have := lay_nats ns
    simpa [natsD, PyData.canLayAll0, PyData.canLay0] using this
theorem dep_nats : ∀ ns : List Nat, PyData.depthAll (natsD ns) = 0
  | [] => rfl
  | n :: ns => by
    have := dep_nats ns
    simpa [natsD, PyData.depthAll, PyData.depth] using this
theorem lay_ents : ∀ es : List Ent, PyData.canLayAll0 (es.map entD) = true
  | [] => rfl
  | e :: es => by
    have := lay_ents es
    simpa [entD, PyData.canLayAll0, PyData.canLay0, lay_nats, lay_ints] using this
theorem dep_ents : ∀ es : List Ent, PyData.depthAll (es.map entD) ≤ 2
  | [] => by simp [PyData.depthAll]
  | e :: es => by
    have := dep_ents es
    simp [PyData.depthAll, entD, PyData.depth, dep_nats, dep_ints]
    omega
theorem sh_ents (es : List Ent) : SeqAt.shaped (.list (es.map entD)) = true := by
  have := dep_ents es
  simp [SeqAt.shaped, PyData.canLay0, lay_ents, PyData.depth]
  omega
theorem sh_nats (ns : List Nat) : SeqAt.shaped (.tuple (natsD ns)) = true := by
  simp [SeqAt.shaped, PyData.canLay0, lay_nats, PyData.depth, dep_nats]
theorem sh_intsT (ns : List Int) : SeqAt.shaped (.tuple (intsD ns)) = true := by
  simp [SeqAt.shaped, PyData.canLay0, lay_ints, PyData.depth, dep_ints]
theorem in_t (x : Int) (ns : List Int) : inR' (.d (.int x)) (.d (.tuple (intsD ns))) = some (decide (x ∈ ns)) := by
  simp [inR', inR, dat, sh_int, sh_intsT, any_ints]
theorem in_two (x a b : Int) : inR' (.d (.int x)) (.c (.l [.int a, .int b])) = some (decide (x = a) || decide (x = b)) := by
  have := in_c x [a, b]
  rw [show intsD [a, b] = [PyData.int a, PyData.int b] from rfl] at this
  rw [this]
  congr 1
  rw [Bool.eq_iff_iff]; simp
theorem eq_nats (w : List Nat) : eqR (.d (.tuple (natsD w))) (.d (.tuple [])) = some (.bool w.isEmpty) := by
  have h := sh_nats w
  have h0 := sh_nats []
  unfold eqR
  simp only [dat, h, show SeqAt.shaped (.tuple []) = true from h0, and_self, if_true]
  cases w <;> simp [natsD, PyData.eqv, PyData.eqvAll]
theorem ne_nats (w : List Nat) : neR (.d (.tuple (natsD w))) (.d (.tuple [])) = some (.bool (!w.isEmpty)) := by
  have h := sh_nats w
  have h0 := sh_nats []
  unfold neR
  simp only [dat, h, show SeqAt.shaped (.tuple []) = true from h0, and_self, if_true]
  cases w <;> simp [natsD, PyData.eqv, PyData.eqvAll]
theorem ne_ents (es : List Ent) : neR (.c (.l (es.map entD))) (.c (.l [])) = some (.bool (!es.isEmpty)) := by
  have h := sh_ents es
  have h0 := sh_ents []
  unfold neR
  simp only [dat, h, show SeqAt.shaped (.list []) = true from h0, and_self, if_true]
  cases es <;> simp [PyData.eqv, PyData.eqvAll]
theorem kd_loose (loose : Bool) : eqR (.d (kindD loose)) (.d (.str "loose")) = some (.bool loose) := by
  have l_ne : ¬ (("strict" : Str) = "loose") := by decide +kernel
  cases loose <;> simp [eqR, kindD, dat, SeqAt.shaped, PyData.canLay0, PyData.depth, PyData.eqv, so_s, so_l, l_ne]
theorem last_ints {pls : List Int} {q : Int} (h : pls.getLast? = some q) : L2.atI (intsD pls) (-1) = some (.int q) := by
  rw [atI_last, intsD, List.getLast?_map, h]; rfl
theorem add_nats (w : List Nat) (k : Nat) : natsD w ++ [PyData.int (k : Nat)] = natsD (w ++ [k]) := by simp [natsD]
theorem add_ints (w : List Int) (k : Int) : intsD w ++ [PyData.int k] = intsD (w ++ [k]) := by simp [intsD]
theorem add_ents (w : List Ent) (w0 : List Nat) (p0 : List Int) : w.map entD ++ [PyData.tuple [.tuple (natsD w0), .tuple (intsD p0)]] = (w ++ [(w0, p0)]).map entD := by simp [entD]
def lateM : M Rv := (orV (bi2 (vVar 11) (vVar 9) (look2 (ordR fun d e => PySem.W.dataLt e d))) (andV (bi2 (vVar 11) (vVar 9) (look2 eqR)) (bi2 (vVar 1) (vC (.str "loose")) (look2 eqR))))
def condM : M Bool := (andT (vB (bi2 (bi2 (vVar 8) (M.bind (vC (.int 1)) (lift1 negR)) ixF) (lstV (argsV [(vVar 12), (vVar 13)])) (inF false))) (andT (vT (vVar 14)) (orT (vB (bi2 (vVar 7) (tupV (M.ret [])) (look2 eqR))) (vB (bi2 (bi2 (vVar 11) (vVar 9) subF) (vVar 2) (look2 (ordR fun d e => !PySem.W.dataLt e d)))))))
def farM : M Fl := (ifS (vB (bi2 (vVar 15) (vVar 8) (inF true))) (seqS (exprS (bmM "list" (vVar 5) (argsV [(vVar 15)]) appM))
  (seqS (exprS (bmM "list" (vVar 6) (argsV [(tupV (argsV [(bi2 (vVar 7) (tupV (argsV [(vVar 10)])) (lift2 addR)), (bi2 (vVar 8) (tupV (argsV [(vVar 15)])) (lift2 addR))]))]) appM))
  skipS)) skipS)
theorem b1_eq : b__law_table_1 = seqS (unpS [] (.t [(.n 11), (.n 12), (.n 13)]) (bi2 (bi2 (vVar 0) (vC (.int 1)) ixF) (vVar 10) ixF))
  (seqS (asgS [] 14 lateM) (seqS (ifS condM (seqS (asgS [] 15 (bi2 (bi2 (vVar 12) (vVar 13) (lift2 addR)) (bi2 (vVar 8) (M.bind (vC (.int 1)) (lift1 negR)) ixF) subF)) (seqS farM skipS)) skipS) skipS)) := rfl
theorem late_ok {r0 r2 r3 r4 r5 r6 r7 r8 r10 r12 r13 r14 r15 : Option R} (loose : Bool) (l t : Int) : lateM [r0, some (.d (kindD loose)), r2, r3, r4, r5, r6, r7, r8, some (.d (.int l)), r10, some (.d (.int t)), r12, r13, r14, r15]
    = .ok (.d (.bool (lateB loose l t))) [r0, some (.d (kindD loose)), r2, r3, r4, r5, r6, r7, r8, some (.d (.int l)), r10, some (.d (.int t)), r12, r13, r14, r15] := by
  have hk := kd_loose loose
  unfold lateM lateB
  cases h1 : decide (l < t) <;> cases h2 : decide (t = l) <;> cases loose <;> simp [Ev.runD, Ev.startE, Ev.outsOf, Ev.retR, Ev.isN, Ev.notN, Ev.chainF, Ev.callY, Ev.permL, Ev.prep, Ev.prep1, Ev.asD, Ev.asDs, Ev.frzI, Ev.rdRs, Ev.rdR, Ev.lentP, Ev.setAllE, Ev.noB, Ev.argI, Ev.seqI, Ev.forS, Ev.unpS, Ev.setS, Ev.settle, Ev.storeM, Ev.putI, Ev.settles, Ev.storeAll, Ev.asgT, Ev.asgTs, Ev.updC, Ev.setC, Ev.tyM, Ev.tyR, Ev.appM, Ev.popM, Ev.appC, Ev.popC, Ev.dat, Ev.lst, Ev.lstOf, Ev.seqOf, Ev.isaF, Ev.isaD, Ev.lenR, Ev.allR, Ev.anyR, Ev.boolsOf, Ev.intsOf, Ev.sumR, Ev.absR, Ev.tupleR, Ev.listR, Ev.reprR, Ev.intR, Ev.divmodR, Ev.min2R, Ev.max2R, Ev.mulR, Ev.addR, Ev.subF, Ev.modF, Ev.divF, Ev.powF, Ev.i2, Ev.i2c, Ev.ixF, Ev.ixR, Ev.partM, Ev.cutF, Ev.cutR, Ev.inF, Ev.inR', Ev.dict1V, Ev.bi2, Ev.ca, Ev.negR, Ev.dKey, Ev.dKeys, Ev.truth, Ev.truM, Ev.bM, Ev.isNone, Ev.starM, Ev.sortSetR, PyData.isTuple, PyData.isInt, PyData.isBool, PyData.isStr, PyData.isList, PyData.isDict, PySem.sizeLine_eq, cond, h1, h2, hk]
theorem cond_ok {r0 r1 r3 r4 r5 r6 r10 r15 : Option R} {pls : List Int} {q : Int} (pt : Int) (w : List Nat) (l t a b : Int) (L : Bool) (hq : pls.getLast? = some q) :
    condM [r0, r1, some (.d (.int pt)), r3, r4, r5, r6, some (.d (.tuple (natsD w))), some (.d (.tuple (intsD pls))), some (.d (.int l)), r10, some (.d (.int t)), some (.d (.int a)), some (.d (.int b)), some (.d (.bool L)), r15]
    = .ok ((decide (q = a) || decide (q = b)) && L && (w.isEmpty || decide (t - l ≤ pt))) [r0, r1, some (.d (.int pt)), r3, r4, r5, r6, some (.d (.tuple (natsD w))), some (.d (.tuple (intsD pls))), some (.d (.int l)), r10, some (.d (.int t)), some (.d (.int a)), some (.d (.int b)), some (.d (.bool L)), r15] := by
  have hl := last_ints hq
  have h2 := in_two q a b
  have hn := eq_nats w
  have e4 : (!decide (pt < t - l)) = decide (t - l ≤ pt) := by rw [Bool.eq_iff_iff]; simp
  unfold condM
  cases h : (decide (q = a) || decide (q = b)) with
  | false => rw [h] at h2; simp [Ev.runD, Ev.startE, Ev.outsOf, Ev.retR, Ev.isN, Ev.notN, Ev.chainF, Ev.callY, Ev.permL, Ev.prep, Ev.prep1, Ev.asD, Ev.asDs, Ev.frzI, Ev.rdRs, Ev.rdR, Ev.lentP, Ev.setAllE, Ev.noB, Ev.argI, Ev.seqI, Ev.forS, Ev.unpS, Ev.setS, Ev.settle, Ev.storeM, Ev.putI, Ev.settles, Ev.storeAll, Ev.asgT, Ev.asgTs, Ev.updC, Ev.setC, Ev.tyM, Ev.tyR, Ev.appM, Ev.popM, Ev.appC, Ev.popC, Ev.dat, Ev.lst, Ev.lstOf, Ev.seqOf, Ev.isaF, Ev.isaD, Ev.lenR, Ev.allR, Ev.anyR, Ev.boolsOf, Ev.intsOf, Ev.sumR, Ev.absR, Ev.tupleR, Ev.listR, Ev.reprR, Ev.intR, Ev.divmodR, Ev.min2R, Ev.max2R, Ev.mulR, Ev.addR, Ev.subF, Ev.modF, Ev.divF, Ev.powF, Ev.i2, Ev.i2c, Ev.ixF, Ev.ixR, Ev.partM, Ev.cutF, Ev.cutR, Ev.inF, Ev.dict1V, Ev.bi2, Ev.ca, Ev.negR, Ev.dKey, Ev.dKeys, Ev.truth, Ev.truM, Ev.bM, Ev.isNone, Ev.starM, Ev.sortSetR, PyData.isTuple, PyData.isInt, PyData.isBool, PyData.isStr, PyData.isList, PyData.isDict, PySem.sizeLine_eq, cond, hl, h2]
  | true =>
    rw [h] at h2
    cases L with
    | false => simp [Ev.runD, Ev.startE, Ev.outsOf, Ev.retR, Ev.isN, Ev.notN, Ev.chainF, Ev.callY, Ev.permL, Ev.prep, Ev.prep1, Ev.asD, Ev.asDs, Ev.frzI, Ev.rdRs, Ev.rdR, Ev.lentP, Ev.setAllE, Ev.noB, Ev.argI, Ev.seqI, Ev.forS, Ev.unpS, Ev.setS, Ev.settle, Ev.storeM, Ev.putI, Ev.settles, Ev.storeAll, Ev.asgT, Ev.asgTs, Ev.updC, Ev.setC, Ev.tyM, Ev.tyR, Ev.appM, Ev.popM, Ev.appC, Ev.popC, Ev.dat, Ev.lst, Ev.lstOf, Ev.seqOf, Ev.isaF, Ev.isaD, Ev.lenR, Ev.allR, Ev.anyR, Ev.boolsOf, Ev.intsOf, Ev.sumR, Ev.absR, Ev.tupleR, Ev.listR, Ev.reprR, Ev.intR, Ev.divmodR, Ev.min2R, Ev.max2R, Ev.mulR, Ev.addR, Ev.subF, Ev.modF, Ev.divF, Ev.powF, Ev.i2, Ev.i2c, Ev.ixF, Ev.ixR, Ev.partM, Ev.cutF, Ev.cutR, Ev.inF, Ev.dict1V, Ev.bi2, Ev.ca, Ev.negR, Ev.dKey, Ev.dKeys, Ev.truth, Ev.truM, Ev.bM, Ev.isNone, Ev.starM, Ev.sortSetR, PyData.isTuple, PyData.isInt, PyData.isBool, PyData.isStr, PyData.isList, PyData.isDict, PySem.sizeLine_eq, cond, hl, h2]
    | true =>
      cases hw : w.isEmpty with
      | true => rw [hw] at hn; simp [Ev.runD, Ev.startE, Ev.outsOf, Ev.retR, Ev.isN, Ev.notN, Ev.chainF, Ev.callY, Ev.permL, Ev.prep, Ev.prep1, Ev.asD, Ev.asDs, Ev.frzI, Ev.rdRs, Ev.rdR, Ev.lentP, Ev.setAllE, Ev.noB, Ev.argI, Ev.seqI, Ev.forS, Ev.unpS, Ev.setS, Ev.settle, Ev.storeM, Ev.putI, Ev.settles, Ev.storeAll, Ev.asgT, Ev.asgTs, Ev.updC, Ev.setC, Ev.tyM, Ev.tyR, Ev.appM, Ev.popM, Ev.appC, Ev.popC, Ev.dat, Ev.lst, Ev.lstOf, Ev.seqOf, Ev.isaF, Ev.isaD, Ev.lenR, Ev.allR, Ev.anyR, Ev.boolsOf, Ev.intsOf, Ev.sumR, Ev.absR, Ev.tupleR, Ev.listR, Ev.reprR, Ev.intR, Ev.divmodR, Ev.min2R, Ev.max2R, Ev.mulR, Ev.addR, Ev.subF, Ev.modF, Ev.divF, Ev.powF, Ev.i2, Ev.i2c, Ev.ixF, Ev.ixR, Ev.partM, Ev.cutF, Ev.cutR, Ev.inF, Ev.dict1V, Ev.bi2, Ev.ca, Ev.negR, Ev.dKey, Ev.dKeys, Ev.truth, Ev.truM, Ev.bM, Ev.isNone, Ev.starM, Ev.sortSetR, PyData.isTuple, PyData.isInt, PyData.isBool, PyData.isStr, PyData.isList, PyData.isDict, PySem.sizeLine_eq, cond, hl, h2, hn]
      | false => rw [hw] at hn; simp [Ev.runD, Ev.startE, Ev.outsOf, Ev.retR, Ev.isN, Ev.notN, Ev.chainF, Ev.callY, Ev.permL, Ev.prep, Ev.prep1, Ev.asD, Ev.asDs, Ev.frzI, Ev.rdRs, Ev.rdR, Ev.lentP, Ev.setAllE, Ev.noB, Ev.argI, Ev.seqI, Ev.forS, Ev.unpS, Ev.setS, Ev.settle, Ev.storeM, Ev.putI, Ev.settles, Ev.storeAll, Ev.asgT, Ev.asgTs, Ev.updC, Ev.setC, Ev.tyM, Ev.tyR, Ev.appM, Ev.popM, Ev.appC, Ev.popC, Ev.dat, Ev.lst, Ev.lstOf, Ev.seqOf, Ev.isaF, Ev.isaD, Ev.lenR, Ev.allR, Ev.anyR, Ev.boolsOf, Ev.intsOf, Ev.sumR, Ev.absR, Ev.tupleR, Ev.listR, Ev.reprR, Ev.intR, Ev.divmodR, Ev.min2R, Ev.max2R, Ev.mulR, Ev.addR, Ev.subF, Ev.modF, Ev.divF, Ev.powF, Ev.i2, Ev.i2c, Ev.ixF, Ev.ixR, Ev.partM, Ev.cutF, Ev.cutR, Ev.inF, Ev.dict1V, Ev.bi2, Ev.ca, Ev.negR, Ev.dKey, Ev.dKeys, Ev.truth, Ev.truM, Ev.bM, Ev.isNone, Ev.starM, Ev.sortSetR, PyData.isTuple, PyData.isInt, PyData.isBool, PyData.isStr, PyData.isList, PyData.isDict, PySem.sizeLine_eq, cond, hl, h2, hn, e4]
theorem far_ok {r0 r1 r2 r3 r4 r9 r11 r12 r13 r14 : Option R} {lot pls : List Int} {es : List Ent} {w : List Nat} {k : Nat} {f : Int} (h1 : lot.length < 10000) (h2 : es.length < 10000) (h3 : w.length < 1000) (h4 : pls.length < 1000) :
    farM [r0, r1, r2, r3, r4, some (.c (.l (intsD lot))), some (.c (.l (es.map entD))), some (.d (.tuple (natsD w))), some (.d (.tuple (intsD pls))), r9, some (.d (.int (k : Nat))), r11, r12, r13, r14, some (.d (.int f))]
    = .ok .nx [r0, r1, r2, r3, r4, some (.c (.l (intsD (if f ∈ pls then lot else lot ++ [f])))), some (.c (.l ((if f ∈ pls then es else es ++ [(w ++ [k], pls ++ [f])]).map entD))), some (.d (.tuple (natsD w))), some (.d (.tuple (intsD pls))), r9, some (.d (.int (k : Nat))), r11, r12, r13, r14, some (.d (.int f))] := by
  have hi := in_t f pls
  have z1 : (intsD lot).length < 16777216 := by simp [intsD]; omega
  have z2 : es.length < 16777216 := by omega
  have z3 : (natsD w).length + 1 ≤ 16777216 := by simp [natsD]; omega
  have z4 : (intsD pls).length + 1 ≤ 16777216 := by simp [intsD]; omega
  have a1 := add_nats w k
  have a2 := add_ints pls f
  have a3 := add_ints lot f
  have a4 := add_ents es (w ++ [k]) (pls ++ [f])
  unfold farM
  by_cases h : f ∈ pls
  · rw [decide_eq_true h] at hi
    simp [Ev.runD, Ev.startE, Ev.outsOf, Ev.retR, Ev.isN, Ev.notN, Ev.chainF, Ev.callY, Ev.permL, Ev.prep, Ev.prep1, Ev.asD, Ev.asDs, Ev.frzI, Ev.rdRs, Ev.rdR, Ev.lentP, Ev.setAllE, Ev.noB, Ev.argI, Ev.seqI, Ev.forS, Ev.unpS, Ev.setS, Ev.settle, Ev.storeM, Ev.putI, Ev.settles, Ev.storeAll, Ev.asgT, Ev.asgTs, Ev.updC, Ev.setC, Ev.tyM, Ev.tyR, Ev.appM, Ev.popM, Ev.appC, Ev.popC, Ev.dat, Ev.lst, Ev.lstOf, Ev.seqOf, Ev.isaF, Ev.isaD, Ev.lenR, Ev.allR, Ev.anyR, Ev.boolsOf, Ev.intsOf, Ev.sumR, Ev.absR, Ev.tupleR, Ev.listR, Ev.reprR, Ev.intR, Ev.divmodR, Ev.min2R, Ev.max2R, Ev.mulR, Ev.addR, Ev.subF, Ev.modF, Ev.divF, Ev.powF, Ev.i2, Ev.i2c, Ev.ixF, Ev.ixR, Ev.partM, Ev.cutF, Ev.cutR, Ev.inF, Ev.dict1V, Ev.bi2, Ev.ca, Ev.negR, Ev.dKey, Ev.dKeys, Ev.truth, Ev.truM, Ev.bM, Ev.isNone, Ev.starM, Ev.sortSetR, PyData.isTuple, PyData.isInt, PyData.isBool, PyData.isStr, PyData.isList, PyData.isDict, PySem.sizeLine_eq, cond, hi, h]
  · rw [decide_eq_false h] at hi
    simp [Ev.runD, Ev.startE, Ev.outsOf, Ev.retR, Ev.isN, Ev.notN, Ev.chainF, Ev.callY, Ev.permL, Ev.prep, Ev.prep1, Ev.asD, Ev.asDs, Ev.frzI, Ev.rdRs, Ev.rdR, Ev.lentP, Ev.setAllE, Ev.noB, Ev.argI, Ev.seqI, Ev.forS, Ev.unpS, Ev.setS, Ev.settle, Ev.storeM, Ev.putI, Ev.settles, Ev.storeAll, Ev.asgT, Ev.asgTs, Ev.updC, Ev.setC, Ev.tyM, Ev.tyR, Ev.appM, Ev.popM, Ev.appC, Ev.popC, Ev.dat, Ev.lst, Ev.lstOf, Ev.seqOf, Ev.isaF, Ev.isaD, Ev.lenR, Ev.allR, Ev.anyR, Ev.boolsOf, Ev.intsOf, Ev.sumR, Ev.absR, Ev.tupleR, Ev.listR, Ev.reprR, Ev.intR, Ev.divmodR, Ev.min2R, Ev.max2R, Ev.mulR, Ev.addR, Ev.subF, Ev.modF, Ev.divF, Ev.powF, Ev.i2, Ev.i2c, Ev.ixF, Ev.ixR, Ev.partM, Ev.cutF, Ev.cutR, Ev.inF, Ev.dict1V, Ev.bi2, Ev.ca, Ev.negR, Ev.dKey, Ev.dKeys, Ev.truth, Ev.truM, Ev.bM, Ev.isNone, Ev.starM, Ev.sortSetR, PyData.isTuple, PyData.isInt, PyData.isBool, PyData.isStr, PyData.isList, PyData.isDict, PySem.sizeLine_eq, cond, hi, h, z1, z2, z3, z4, a1, a2, a3]
    simpa using a4
/-- one turn -/
def stK (ms : List Mt) (loose : Bool) (pt : Int) (w : List Nat) (pls : List Int) (q l : Int) (s : List Int × List Ent) (k : Nat) : List Int × List Ent := match chK ms loose pt w pls q l k with
  | some e => (s.1 ++ [lastP e], s.2 ++ [e])
  | none => s
theorem stK_fold (ms : List Mt) (loose : Bool) (pt : Int) (w : List Nat) (pls : List Int) (q l : Int) : ∀ (ks : List Nat) (lot : List Int) (es : List Ent), ks.foldl (stK ms loose pt w pls q l) (lot, es) = (lot ++ (ks.filterMap (chK ms loose pt w pls q l)).map lastP, es ++ ks.filterMap (chK ms loose pt w pls q l))
  | [], lot, es => by simp
  | k :: ks, lot, es => by
    rw [List.foldl_cons]
    cases h : chK ms loose pt w pls q l k with
    | none =>
      have e : stK ms loose pt w pls q l (lot, es) k = (lot, es) := by unfold stK; rw [h]
      rw [e, stK_fold, List.filterMap_cons_none h]
    | some c =>
      have e : stK ms loose pt w pls q l (lot, es) k = (lot ++ [lastP c], es ++ [c]) := by unfold stK; rw [h]
      rw [e, stK_fold, List.filterMap_cons_some h]
      simp
theorem turn_k {P : Int} {ms : List Mt} {loose : Bool} {pt : Int} {w : List Nat} {pls : List Int} {q l : Int} {k : Nat} {lot : List Int} {es : List Ent} {r3 r4 o11 o12 o13 o14 o15 : Option R} (hk : k < ms.length) (hq : pls.getLast? = some q)
    (h1 : lot.length < 10000) (h2 : es.length < 10000) (h3 : w.length < 1000) (h4 : pls.length < 1000) :
    ∃ o11' o12' o13' o14' o15', b__law_table_1 [some (.d (webD P ms)), some (.d (kindD loose)), some (.d (.int pt)), r3, r4, some (.c (.l (intsD lot))), some (.c (.l (es.map entD))), some (.d (.tuple (natsD w))), some (.d (.tuple (intsD pls))), some (.d (.int l)), some (.d (.int (k : Nat))), o11, o12, o13, o14, o15]
    = .ok .nx [some (.d (webD P ms)), some (.d (kindD loose)), some (.d (.int pt)), r3, r4, some (.c (.l (intsD (stK ms loose pt w pls q l (lot, es) k).1))), some (.c (.l ((stK ms loose pt w pls q l (lot, es) k).2.map entD))), some (.d (.tuple (natsD w))), some (.d (.tuple (intsD pls))), some (.d (.int l)), some (.d (.int (k : Nat))), o11', o12', o13', o14', o15'] := by
  obtain ⟨m, hm⟩ : ∃ m, ms[k]? = some m := ⟨_, List.getElem?_eq_getElem hk⟩
  obtain ⟨t, a, b⟩ := m
  have hat : L2.atI (ms.map mD) (k : Int) = some (mD (t, a, b)) := by
    rw [atI_nat (by simpa using hk), List.getElem?_map, hm]; rfl
  have hlast := last_ints hq
  rw [b1_eq]
  rw [seqS_nx (env1 := [some (.d (webD P ms)), some (.d (kindD loose)), some (.d (.int pt)), r3, r4, some (.c (.l (intsD lot))), some (.c (.l (es.map entD))), some (.d (.tuple (natsD w))), some (.d (.tuple (intsD pls))), some (.d (.int l)), some (.d (.int (k : Nat))), some (.d (.int t)), some (.d (.int a)), some (.d (.int b)), o14, o15]) (unpS_ok (d := mD (t, a, b)) (env1 := [some (.d (webD P ms)), some (.d (kindD loose)), some (.d (.int pt)), r3, r4, some (.c (.l (intsD lot))), some (.c (.l (es.map entD))), some (.d (.tuple (natsD w))), some (.d (.tuple (intsD pls))), some (.d (.int l)), some (.d (.int (k : Nat))), o11, o12, o13, o14, o15]) (by simp [Ev.runD, Ev.startE, Ev.outsOf, Ev.retR, Ev.isN, Ev.notN, Ev.chainF, Ev.callY, Ev.permL, Ev.prep, Ev.prep1, Ev.asD, Ev.asDs, Ev.frzI, Ev.rdRs, Ev.rdR, Ev.lentP, Ev.setAllE, Ev.noB, Ev.argI, Ev.seqI, Ev.forS, Ev.unpS, Ev.setS, Ev.settle, Ev.storeM, Ev.putI, Ev.settles, Ev.storeAll, Ev.asgT, Ev.asgTs, Ev.updC, Ev.setC, Ev.tyM, Ev.tyR, Ev.appM, Ev.popM, Ev.appC, Ev.popC, Ev.dat, Ev.lst, Ev.lstOf, Ev.seqOf, Ev.isaF, Ev.isaD, Ev.lenR, Ev.allR, Ev.anyR, Ev.boolsOf, Ev.intsOf, Ev.sumR, Ev.absR, Ev.tupleR, Ev.listR, Ev.reprR, Ev.intR, Ev.divmodR, Ev.min2R, Ev.max2R, Ev.mulR, Ev.addR, Ev.subF, Ev.modF, Ev.divF, Ev.powF, Ev.i2, Ev.i2c, Ev.ixF, Ev.ixR, Ev.partM, Ev.cutF, Ev.cutR, Ev.inF, Ev.inR', Ev.dict1V, Ev.bi2, Ev.ca, Ev.negR, Ev.dKey, Ev.dKeys, Ev.truth, Ev.truM, Ev.bM, Ev.isNone, Ev.starM, Ev.sortSetR, PyData.isTuple, PyData.isInt, PyData.isBool, PyData.isStr, PyData.isList, PyData.isDict, PySem.sizeLine_eq, cond, webD, hat]) (by simp [Ev.runD, Ev.startE, Ev.outsOf, Ev.retR, Ev.isN, Ev.notN, Ev.chainF, Ev.callY, Ev.permL, Ev.prep, Ev.prep1, Ev.asD, Ev.asDs, Ev.frzI, Ev.rdRs, Ev.rdR, Ev.lentP, Ev.setAllE, Ev.noB, Ev.argI, Ev.seqI, Ev.forS, Ev.unpS, Ev.setS, Ev.settle, Ev.storeM, Ev.putI, Ev.settles, Ev.storeAll, Ev.asgT, Ev.asgTs, Ev.updC, Ev.setC, Ev.tyM, Ev.tyR, Ev.appM, Ev.popM, Ev.appC, Ev.popC, Ev.dat, Ev.lst, Ev.lstOf, Ev.seqOf, Ev.isaF, Ev.isaD, Ev.lenR, Ev.allR, Ev.anyR, Ev.boolsOf, Ev.intsOf, Ev.sumR, Ev.absR, Ev.tupleR, Ev.listR, Ev.reprR, Ev.intR, Ev.divmodR, Ev.min2R, Ev.max2R, Ev.mulR, Ev.addR, Ev.subF, Ev.modF, Ev.divF, Ev.powF, Ev.i2, Ev.i2c, Ev.ixF, Ev.ixR, Ev.partM, Ev.cutF, Ev.cutR, Ev.inF, Ev.inR', Ev.dict1V, Ev.bi2, Ev.ca, Ev.negR, Ev.dKey, Ev.dKeys, Ev.truth, Ev.truM, Ev.bM, Ev.isNone, Ev.starM, Ev.sortSetR, PyData.isTuple, PyData.isInt, PyData.isBool, PyData.isStr, PyData.isList, PyData.isDict, PySem.sizeLine_eq, cond, mD]))]
  rw [seqS_nx (env1 := [some (.d (webD P ms)), some (.d (kindD loose)), some (.d (.int pt)), r3, r4, some (.c (.l (intsD lot))), some (.c (.l (es.map entD))), some (.d (.tuple (natsD w))), some (.d (.tuple (intsD pls))), some (.d (.int l)), some (.d (.int (k : Nat))), some (.d (.int t)), some (.d (.int a)), some (.d (.int b)), some (.d (.bool (lateB loose l t))), o15]) (by simp [Ev.runD, Ev.startE, Ev.outsOf, Ev.retR, Ev.isN, Ev.notN, Ev.chainF, Ev.callY, Ev.permL, Ev.prep, Ev.prep1, Ev.asD, Ev.asDs, Ev.frzI, Ev.rdRs, Ev.rdR, Ev.lentP, Ev.setAllE, Ev.noB, Ev.argI, Ev.seqI, Ev.forS, Ev.unpS, Ev.setS, Ev.settle, Ev.storeM, Ev.putI, Ev.settles, Ev.storeAll, Ev.asgT, Ev.asgTs, Ev.updC, Ev.setC, Ev.tyM, Ev.tyR, Ev.appM, Ev.popM, Ev.appC, Ev.popC, Ev.dat, Ev.lst, Ev.lstOf, Ev.seqOf, Ev.isaF, Ev.isaD, Ev.lenR, Ev.allR, Ev.anyR, Ev.boolsOf, Ev.intsOf, Ev.sumR, Ev.absR, Ev.tupleR, Ev.listR, Ev.reprR, Ev.intR, Ev.divmodR, Ev.min2R, Ev.max2R, Ev.mulR, Ev.addR, Ev.subF, Ev.modF, Ev.divF, Ev.powF, Ev.i2, Ev.i2c, Ev.ixF, Ev.ixR, Ev.partM, Ev.cutF, Ev.cutR, Ev.inF, Ev.inR', Ev.dict1V, Ev.bi2, Ev.ca, Ev.negR, Ev.dKey, Ev.dKeys, Ev.truth, Ev.truM, Ev.bM, Ev.isNone, Ev.starM, Ev.sortSetR, PyData.isTuple, PyData.isInt, PyData.isBool, PyData.isStr, PyData.isList, PyData.isDict, PySem.sizeLine_eq, cond, late_ok])]
  have hc := cond_ok (r0 := some (.d (webD P ms))) (r1 := some (.d (kindD loose))) (r3 := r3) (r4 := r4) (r5 := some (.c (.l (intsD lot)))) (r6 := some (.c (.l (es.map entD)))) (r10 := some (.d (.int (k : Nat)))) (r15 := o15) pt w l t a b (lateB loose l t) hq
  have hfar := far_ok (r0 := some (.d (webD P ms))) (r1 := some (.d (kindD loose))) (r2 := some (.d (.int pt))) (r3 := r3) (r4 := r4) (r9 := some (.d (.int l))) (r11 := some (.d (.int t))) (r12 := some (.d (.int a))) (r13 := some (.d (.int b))) (r14 := some (.d (.bool (lateB loose l t)))) (k := k) (f := a + b - q) h1 h2 h3 h4
  have hst : stK ms loose pt w pls q l (lot, es) k = if okB loose pt w pls q l (t, a, b) = true then (lot ++ [a + b - q], es ++ [(w ++ [k], pls ++ [a + b - q])]) else (lot, es) := by
    unfold stK chK
    rw [hm]
    simp only
    by_cases ho : okB loose pt w pls q l (t, a, b) = true
    · rw [if_pos ho, if_pos ho]
      simp [lastP]
    · rw [if_neg ho, if_neg ho]
  generalize hcv : ((decide (q = a) || decide (q = b)) && lateB loose l t && (w.isEmpty || decide (t - l ≤ pt))) = cv at hc
  have hok : okB loose pt w pls q l (t, a, b) = (cv && !decide (a + b - q ∈ pls)) := by
    rw [← hcv]; rfl
  cases cv with
  | false =>
    rw [Bool.false_and] at hok
    rw [hok] at hst
    refine ⟨some (.d (.int t)), some (.d (.int a)), some (.d (.int b)), some (.d (.bool (lateB loose l t))), o15, ?_⟩
    simp only [seqS_eq, ifS_eq, hc, skipS_eq, hst]
    simp
  | true =>
    rw [Bool.true_and] at hok
    refine ⟨some (.d (.int t)), some (.d (.int a)), some (.d (.int b)), some (.d (.bool (lateB loose l t))), some (.d (.int (a + b - q))), ?_⟩
    rw [seqS_eq, ifS_eq, hc]
    simp only
    rw [seqS_nx (env1 := [some (.d (webD P ms)), some (.d (kindD loose)), some (.d (.int pt)), r3, r4, some (.c (.l (intsD lot))), some (.c (.l (es.map entD))), some (.d (.tuple (natsD w))), some (.d (.tuple (intsD pls))), some (.d (.int l)), some (.d (.int (k : Nat))), some (.d (.int t)), some (.d (.int a)), some (.d (.int b)), some (.d (.bool (lateB loose l t))), some (.d (.int (a + b - q)))]) (by simp [Ev.runD, Ev.startE, Ev.outsOf, Ev.retR, Ev.isN, Ev.notN, Ev.chainF, Ev.callY, Ev.permL, Ev.prep, Ev.prep1, Ev.asD, Ev.asDs, Ev.frzI, Ev.rdRs, Ev.rdR, Ev.lentP, Ev.setAllE, Ev.noB, Ev.argI, Ev.seqI, Ev.forS, Ev.unpS, Ev.setS, Ev.settle, Ev.storeM, Ev.putI, Ev.settles, Ev.storeAll, Ev.asgT, Ev.asgTs, Ev.updC, Ev.setC, Ev.tyM, Ev.tyR, Ev.appM, Ev.popM, Ev.appC, Ev.popC, Ev.dat, Ev.lst, Ev.lstOf, Ev.seqOf, Ev.isaF, Ev.isaD, Ev.lenR, Ev.allR, Ev.anyR, Ev.boolsOf, Ev.intsOf, Ev.sumR, Ev.absR, Ev.tupleR, Ev.listR, Ev.reprR, Ev.intR, Ev.divmodR, Ev.min2R, Ev.max2R, Ev.mulR, Ev.addR, Ev.subF, Ev.modF, Ev.divF, Ev.powF, Ev.i2, Ev.i2c, Ev.ixF, Ev.ixR, Ev.partM, Ev.cutF, Ev.cutR, Ev.inF, Ev.inR', Ev.dict1V, Ev.bi2, Ev.ca, Ev.negR, Ev.dKey, Ev.dKeys, Ev.truth, Ev.truM, Ev.bM, Ev.isNone, Ev.starM, Ev.sortSetR, PyData.isTuple, PyData.isInt, PyData.isBool, PyData.isStr, PyData.isList, PyData.isDict, PySem.sizeLine_eq, cond, hlast])]
    rw [seqS_eq, hfar, hst, hok]
    by_cases hf : a + b - q ∈ pls
    · simp [hf]
    · simp [hf]
end K44
set_option maxHeartbeats 1000000
namespace K44
open PySem Ev Way
/-! ### _law_table: the search of one start -/
theorem rng_nats (n : Nat) : rng 0 1 n = (List.range n).map fun k => .int (k : Nat) := by
  unfold rng
  congr 1
  funext i
  simp
theorem all_k {P : Int} {ms : List Mt} {loose : Bool} {pt : Int} {w : List Nat} {pls : List Int} {q l : Int} {lot : List Int} {es : List Ent} {r3 r4 o10 o11 o12 o13 o14 o15 : Option R} (hq : pls.getLast? = some q)
    (h1 : lot.length + ms.length < 10000) (h2 : es.length + ms.length < 10000) (h3 : w.length < 1000) (h4 : pls.length < 1000) :
    ∃ o10' o11' o12' o13' o14' o15', forL [] (.n 10) b__law_table_1 ((List.range ms.length).map fun k => .int (k : Nat)) [some (.d (webD P ms)), some (.d (kindD loose)), some (.d (.int pt)), r3, r4, some (.c (.l (intsD lot))), some (.c (.l (es.map entD))), some (.d (.tuple (natsD w))), some (.d (.tuple (intsD pls))), some (.d (.int l)), o10, o11, o12, o13, o14, o15]
    = .ok .nx [some (.d (webD P ms)), some (.d (kindD loose)), some (.d (.int pt)), r3, r4, some (.c (.l (intsD (lot ++ (chd ms loose pt w pls q l).map lastP)))), some (.c (.l ((es ++ chd ms loose pt w pls q l).map entD))), some (.d (.tuple (natsD w))), some (.d (.tuple (intsD pls))), some (.d (.int l)), o10', o11', o12', o13', o14', o15'] := by
  obtain ⟨env', e1, s, es1, e2, e3, o10', o11', o12', o13', o14', o15', rfl⟩ := forL_ix (gd := []) (t := .n 10) (f := b__law_table_1)
    (fun i env => ∃ s : List Int × List Ent, s = ((List.range ms.length).take i).foldl (stK ms loose pt w pls q l) (lot, es) ∧ s.1.length ≤ lot.length + i ∧ s.2.length ≤ es.length + i ∧ ∃ o10 o11 o12 o13 o14 o15, env = [some (.d (webD P ms)), some (.d (kindD loose)), some (.d (.int pt)), r3, r4, some (.c (.l (intsD s.1))), some (.c (.l (s.2.map entD))), some (.d (.tuple (natsD w))), some (.d (.tuple (intsD pls))), some (.d (.int l)), o10, o11, o12, o13, o14, o15])
    ((List.range ms.length).map fun k => .int (k : Nat))
    (fun i d hd env hI => by
      obtain ⟨⟨slot, ses⟩, hs, hl1, hl2, o10, o11, o12, o13, o14, o15, rfl⟩ := hI
      have hi : i < ms.length := by
        have := (List.getElem?_eq_some_iff.mp hd).1
        simpa using this
      have hd' : d = .int (i : Nat) := by
        simp [hi] at hd
        exact hd.symm
      subst hd'
      simp only at hl1 hl2 ⊢
      obtain ⟨p11, p12, p13, p14, p15, ht⟩ := turn_k (P := P) (loose := loose) (pt := pt) (l := l) (r3 := r3) (r4 := r4) (o11 := o11) (o12 := o12) (o13 := o13) (o14 := o14) (o15 := o15) hi hq (lot := slot) (es := ses) (by omega) (by omega) h3 h4
      refine ⟨_, _, ?_, ht, stK ms loose pt w pls q l (slot, ses) i, ?_, ?_, ?_, _, _, _, _, _, _, rfl⟩
      · simp [Ev.runD, Ev.startE, Ev.outsOf, Ev.retR, Ev.isN, Ev.notN, Ev.chainF, Ev.callY, Ev.permL, Ev.prep, Ev.prep1, Ev.asD, Ev.asDs, Ev.frzI, Ev.rdRs, Ev.rdR, Ev.lentP, Ev.setAllE, Ev.noB, Ev.argI, Ev.seqI, Ev.forS, Ev.unpS, Ev.setS, Ev.settle, Ev.storeM, Ev.putI, Ev.settles, Ev.storeAll, Ev.asgT, Ev.asgTs, Ev.updC, Ev.setC, Ev.tyM, Ev.tyR, Ev.appM, Ev.popM, Ev.appC, Ev.popC, Ev.dat, Ev.lst, Ev.lstOf, Ev.seqOf, Ev.isaF, Ev.isaD, Ev.lenR, Ev.allR, Ev.anyR, Ev.boolsOf, Ev.intsOf, Ev.sumR, Ev.absR, Ev.tupleR, Ev.listR, Ev.reprR, Ev.intR, Ev.divmodR, Ev.min2R, Ev.max2R, Ev.mulR, Ev.addR, Ev.subF, Ev.modF, Ev.divF, Ev.powF, Ev.i2, Ev.i2c, Ev.ixF, Ev.ixR, Ev.partM, Ev.cutF, Ev.cutR, Ev.inF, Ev.inR', Ev.dict1V, Ev.bi2, Ev.ca, Ev.negR, Ev.dKey, Ev.dKeys, Ev.truth, Ev.truM, Ev.bM, Ev.isNone, Ev.starM, Ev.sortSetR, PyData.isTuple, PyData.isInt, PyData.isBool, PyData.isStr, PyData.isList, PyData.isDict, PySem.sizeLine_eq, cond]
      · rw [List.take_add_one, List.foldl_append, ← hs]
        simp [hi]
      · unfold stK
        split <;> simp <;> omega
      · unfold stK
        split <;> simp <;> omega)
    ((List.range ms.length).map fun k => .int (k : Nat)) 0 rfl [some (.d (webD P ms)), some (.d (kindD loose)), some (.d (.int pt)), r3, r4, some (.c (.l (intsD lot))), some (.c (.l (es.map entD))), some (.d (.tuple (natsD w))), some (.d (.tuple (intsD pls))), some (.d (.int l)), o10, o11, o12, o13, o14, o15]
    ⟨(lot, es), by simp, by simp, by simp, _, _, _, _, _, _, rfl⟩
  refine ⟨o10', o11', o12', o13', o14', o15', ?_⟩
  rw [e1]
  have : s = (lot ++ (chd ms loose pt w pls q l).map lastP, es ++ chd ms loose pt w pls q l) := by
    rw [es1, Nat.zero_add, List.length_map, List.length_range, List.take_of_length_le (by simp), stK_fold]
    rfl
  rw [this]
/-- the time of the last meeting of a way -/
def lastT (ms : List Mt) (w : List Nat) : Int := match w.getLast? with
  | some k => match ms[k]? with
    | some m => m.1
    | none => 0
  | none => 0
theorem lastT_of {ms : List Mt} {loose : Bool} {pt s : Int} {w : List Nat} {pls : List Int} {l : Int} (h : SWp ms loose pt s w pls l) : lastT ms w = l := by
  unfold lastT
  cases h with
  | base => rfl
  | step h h1 => simp [h1]
theorem pop_ents (es : List Ent) (e : Ent) : popC (.l ((es ++ [e]).map entD)) = some (.d (entD e), .l (es.map entD)) := by
  simp [popC]
theorem lenms (ms : List Mt) : ((ms.map mD).length : Int) = (ms.length : Nat) := by simp
def lastM : M Rv := (ifV (vB (bi2 (vVar 7) (tupV (M.ret [])) (look2 neR))) (bi2 (bi2 (bi2 (vVar 0) (vC (.int 1)) ixF) (bi2 (vVar 7) (M.bind (vC (.int 1)) (lift1 negR)) ixF) ixF) (vC (.int 0)) ixF) (vC (.int 0)))
theorem b3_eq : b__law_table_3 = seqS (unpS [] (.t [(.n 7), (.n 8)]) (bmM "list" (vVar 6) (M.ret []) popM)) (seqS (asgS [] 9 lastM) (seqS (forS [] (argI (argsV [(M.bind (argsV [(bi2 (vVar 0) (vC (.int 1)) ixF)]) (un1 lenR))]) rngK1) (.n 10) b__law_table_1) skipS)) := rfl
theorem lastM_ok {P : Int} {ms : List Mt} {loose : Bool} {pt s : Int} {w : List Nat} {pls : List Int} {l : Int} (hS : SWp ms loose pt s w pls l) {r1 r2 r3 r4 r5 r6 r8 r9 r10 r11 r12 r13 r14 r15 : Option R} :
    lastM [some (.d (webD P ms)), r1, r2, r3, r4, r5, r6, some (.d (.tuple (natsD w))), r8, r9, r10, r11, r12, r13, r14, r15] = .ok (.d (.int l)) [some (.d (webD P ms)), r1, r2, r3, r4, r5, r6, some (.d (.tuple (natsD w))), r8, r9, r10, r11, r12, r13, r14, r15] := by
  have hn := ne_nats w
  unfold lastM
  cases hS with
  | base =>
    simp [natsD] at hn
    simp [Ev.runD, Ev.startE, Ev.outsOf, Ev.retR, Ev.isN, Ev.notN, Ev.chainF, Ev.callY, Ev.permL, Ev.prep, Ev.prep1, Ev.asD, Ev.asDs, Ev.frzI, Ev.rdRs, Ev.rdR, Ev.lentP, Ev.setAllE, Ev.noB, Ev.argI, Ev.seqI, Ev.forS, Ev.unpS, Ev.setS, Ev.settle, Ev.storeM, Ev.putI, Ev.settles, Ev.storeAll, Ev.asgT, Ev.asgTs, Ev.updC, Ev.setC, Ev.tyM, Ev.tyR, Ev.appM, Ev.popM, Ev.appC, Ev.popC, Ev.dat, Ev.lst, Ev.lstOf, Ev.seqOf, Ev.isaF, Ev.isaD, Ev.lenR, Ev.allR, Ev.anyR, Ev.boolsOf, Ev.intsOf, Ev.sumR, Ev.absR, Ev.tupleR, Ev.listR, Ev.reprR, Ev.intR, Ev.divmodR, Ev.min2R, Ev.max2R, Ev.mulR, Ev.addR, Ev.subF, Ev.modF, Ev.divF, Ev.powF, Ev.i2, Ev.i2c, Ev.ixF, Ev.partM, Ev.cutF, Ev.cutR, Ev.inF, Ev.inR', Ev.dict1V, Ev.bi2, Ev.ca, Ev.negR, Ev.dKey, Ev.dKeys, Ev.truth, Ev.truM, Ev.bM, Ev.isNone, Ev.starM, Ev.sortSetR, PyData.isTuple, PyData.isInt, PyData.isBool, PyData.isStr, PyData.isList, PyData.isDict, PySem.sizeLine_eq, cond, natsD, hn]
  | @step w0 pls0 l0 p0 t a b k hS hk _ _ _ _ _ =>
    have hw : (w0 ++ [k]).isEmpty = false := by cases w0 <;> rfl
    rw [hw] at hn
    have hlt : k < ms.length := (List.getElem?_eq_some_iff.mp hk).1
    have hat : L2.atI (ms.map mD) (k : Int) = some (mD (l, a, b)) := by
      rw [atI_nat (by simpa using hlt), List.getElem?_map, hk]; rfl
    have hat2 : L2.atI (natsD (w0 ++ [k])) (-1) = some (.int (k : Nat)) := by
      rw [atI_last]; simp [natsD]
    generalize w0 ++ [k] = w at hn hat2
    simp [Ev.runD, Ev.startE, Ev.outsOf, Ev.retR, Ev.isN, Ev.notN, Ev.chainF, Ev.callY, Ev.permL, Ev.prep, Ev.prep1, Ev.asD, Ev.asDs, Ev.frzI, Ev.rdRs, Ev.rdR, Ev.lentP, Ev.setAllE, Ev.noB, Ev.argI, Ev.seqI, Ev.forS, Ev.unpS, Ev.setS, Ev.settle, Ev.storeM, Ev.putI, Ev.settles, Ev.storeAll, Ev.asgT, Ev.asgTs, Ev.updC, Ev.setC, Ev.tyM, Ev.tyR, Ev.appM, Ev.popM, Ev.appC, Ev.popC, Ev.dat, Ev.lst, Ev.lstOf, Ev.seqOf, Ev.isaF, Ev.isaD, Ev.lenR, Ev.allR, Ev.anyR, Ev.boolsOf, Ev.intsOf, Ev.sumR, Ev.absR, Ev.tupleR, Ev.listR, Ev.reprR, Ev.intR, Ev.divmodR, Ev.min2R, Ev.max2R, Ev.mulR, Ev.addR, Ev.subF, Ev.modF, Ev.divF, Ev.powF, Ev.i2, Ev.i2c, Ev.ixF, Ev.ixR, Ev.partM, Ev.cutF, Ev.cutR, Ev.inF, Ev.inR', Ev.dict1V, Ev.bi2, Ev.ca, Ev.negR, Ev.dKey, Ev.dKeys, Ev.truth, Ev.truM, Ev.bM, Ev.isNone, Ev.starM, Ev.sortSetR, PyData.isTuple, PyData.isInt, PyData.isBool, PyData.isStr, PyData.isList, PyData.isDict, PySem.sizeLine_eq, cond, webD, hn, hat, hat2]
    simp [mD]
theorem pop_ok {P : Int} {ms : List Mt} {r1 r2 r3 r4 r5 o7 o8 r9 r10 r11 r12 r13 r14 r15 : Option R} (w : List Nat) (pls : List Int) (es : List Ent) :
    unpS [] (.t [(.n 7), (.n 8)]) (bmM "list" (vVar 6) (M.ret []) popM) [some (.d (webD P ms)), r1, r2, r3, r4, r5, some (.c (.l ((es ++ [(w, pls)]).map entD))), o7, o8, r9, r10, r11, r12, r13, r14, r15]
    = .ok .nx [some (.d (webD P ms)), r1, r2, r3, r4, r5, some (.c (.l (es.map entD))), some (.d (.tuple (natsD w))), some (.d (.tuple (intsD pls))), r9, r10, r11, r12, r13, r14, r15] := by
  have hpop := pop_ents es (w, pls)
  generalize (es ++ [(w, pls)]).map entD = X at hpop
  exact unpS_ok (d := entD (w, pls)) (env1 := [some (.d (webD P ms)), r1, r2, r3, r4, r5, some (.c (.l (es.map entD))), o7, o8, r9, r10, r11, r12, r13, r14, r15]) (by simp [Ev.runD, Ev.startE, Ev.outsOf, Ev.retR, Ev.isN, Ev.notN, Ev.chainF, Ev.callY, Ev.permL, Ev.prep, Ev.prep1, Ev.asD, Ev.asDs, Ev.frzI, Ev.rdRs, Ev.rdR, Ev.lentP, Ev.setAllE, Ev.noB, Ev.argI, Ev.seqI, Ev.forS, Ev.unpS, Ev.setS, Ev.settle, Ev.storeM, Ev.putI, Ev.settles, Ev.storeAll, Ev.asgT, Ev.asgTs, Ev.updC, Ev.setC, Ev.tyM, Ev.tyR, Ev.appM, Ev.popM, Ev.appC, Ev.dat, Ev.lst, Ev.lstOf, Ev.seqOf, Ev.isaF, Ev.isaD, Ev.lenR, Ev.allR, Ev.anyR, Ev.boolsOf, Ev.intsOf, Ev.sumR, Ev.absR, Ev.tupleR, Ev.listR, Ev.reprR, Ev.intR, Ev.divmodR, Ev.min2R, Ev.max2R, Ev.mulR, Ev.addR, Ev.subF, Ev.modF, Ev.divF, Ev.powF, Ev.i2, Ev.i2c, Ev.ixF, Ev.ixR, Ev.partM, Ev.cutF, Ev.cutR, Ev.inF, Ev.inR', Ev.dict1V, Ev.bi2, Ev.ca, Ev.negR, Ev.dKey, Ev.dKeys, Ev.truth, Ev.truM, Ev.bM, Ev.isNone, Ev.starM, Ev.sortSetR, PyData.isTuple, PyData.isInt, PyData.isBool, PyData.isStr, PyData.isList, PyData.isDict, PySem.sizeLine_eq, cond, hpop]) (by simp [Ev.runD, Ev.startE, Ev.outsOf, Ev.retR, Ev.isN, Ev.notN, Ev.chainF, Ev.callY, Ev.permL, Ev.prep, Ev.prep1, Ev.asD, Ev.asDs, Ev.frzI, Ev.rdRs, Ev.rdR, Ev.lentP, Ev.setAllE, Ev.noB, Ev.argI, Ev.seqI, Ev.forS, Ev.unpS, Ev.setS, Ev.settle, Ev.storeM, Ev.putI, Ev.settles, Ev.storeAll, Ev.asgT, Ev.asgTs, Ev.updC, Ev.setC, Ev.tyM, Ev.tyR, Ev.appM, Ev.popM, Ev.appC, Ev.popC, Ev.dat, Ev.lst, Ev.lstOf, Ev.seqOf, Ev.isaF, Ev.isaD, Ev.lenR, Ev.allR, Ev.anyR, Ev.boolsOf, Ev.intsOf, Ev.sumR, Ev.absR, Ev.tupleR, Ev.listR, Ev.reprR, Ev.intR, Ev.divmodR, Ev.min2R, Ev.max2R, Ev.mulR, Ev.addR, Ev.subF, Ev.modF, Ev.divF, Ev.powF, Ev.i2, Ev.i2c, Ev.ixF, Ev.ixR, Ev.partM, Ev.cutF, Ev.cutR, Ev.inF, Ev.inR', Ev.dict1V, Ev.bi2, Ev.ca, Ev.negR, Ev.dKey, Ev.dKeys, Ev.truth, Ev.truM, Ev.bM, Ev.isNone, Ev.starM, Ev.sortSetR, PyData.isTuple, PyData.isInt, PyData.isBool, PyData.isStr, PyData.isList, PyData.isDict, PySem.sizeLine_eq, cond, entD])
theorem small_nat {n : Nat} (h : n < 10000) : smallI (n : Int) = true := by
  have e1 : -(2 ^ 62 : Int) ≤ (n : Int) := by omega
  have e2 : (n : Int) < 2 ^ 62 := by omega
  unfold smallI
  exact decide_eq_true ⟨e1, e2⟩
theorem rngK_nat {n : Nat} (hz : n < 10000) : rngK1 [.int (n : Nat)] = some ((List.range n).map fun k => .int (k : Nat)) := by
  have hsm := small_nat hz
  have hr := rng_nats n
  simp [rngK1, hsm, hr]
theorem lenM_ok {P : Int} {ms : List Mt} {r1 r2 r3 r4 r5 r6 r7 r8 r9 r10 r11 r12 r13 r14 r15 : Option R} :
    argsV [(M.bind (argsV [(bi2 (vVar 0) (vC (.int 1)) ixF)]) (un1 lenR))] [some (.d (webD P ms)), r1, r2, r3, r4, r5, r6, r7, r8, r9, r10, r11, r12, r13, r14, r15]
    = .ok [.d (.int (ms.length : Nat))] [some (.d (webD P ms)), r1, r2, r3, r4, r5, r6, r7, r8, r9, r10, r11, r12, r13, r14, r15] := by
  simp [Ev.runD, Ev.startE, Ev.outsOf, Ev.retR, Ev.isN, Ev.notN, Ev.chainF, Ev.callY, Ev.permL, Ev.prep, Ev.prep1, Ev.asD, Ev.asDs, Ev.frzI, Ev.rdRs, Ev.rdR, Ev.lentP, Ev.setAllE, Ev.noB, Ev.argI, Ev.seqI, Ev.forS, Ev.unpS, Ev.setS, Ev.settle, Ev.storeM, Ev.putI, Ev.settles, Ev.storeAll, Ev.asgT, Ev.asgTs, Ev.updC, Ev.setC, Ev.tyM, Ev.tyR, Ev.appM, Ev.popM, Ev.appC, Ev.popC, Ev.dat, Ev.lst, Ev.lstOf, Ev.seqOf, Ev.isaF, Ev.isaD, Ev.lenR, Ev.allR, Ev.anyR, Ev.boolsOf, Ev.intsOf, Ev.sumR, Ev.absR, Ev.tupleR, Ev.listR, Ev.reprR, Ev.intR, Ev.divmodR, Ev.min2R, Ev.max2R, Ev.mulR, Ev.addR, Ev.subF, Ev.modF, Ev.divF, Ev.powF, Ev.i2, Ev.i2c, Ev.ixF, Ev.ixR, Ev.partM, Ev.cutF, Ev.cutR, Ev.inF, Ev.inR', Ev.dict1V, Ev.bi2, Ev.ca, Ev.negR, Ev.dKey, Ev.dKeys, Ev.truth, Ev.truM, Ev.bM, Ev.isNone, Ev.starM, Ev.sortSetR, PyData.isTuple, PyData.isInt, PyData.isBool, PyData.isStr, PyData.isList, PyData.isDict, PySem.sizeLine_eq, cond, webD]
theorem argI_ok {fs : M (List Rv)} {k : List PyData → Option (List PyData)} {env env1 env2 : Ev.Env} {rs : List Rv} {ds xs : List PyData} (h1 : fs env = .ok rs env1) (h2 : asDs rs env1 = .ok ds env2) (h3 : k ds = some xs) : argI fs k env = .ok xs env2 := by
  unfold argI
  simp [h1, h2, h3]
theorem rngM_ok {P : Int} {ms : List Mt} {r1 r2 r3 r4 r5 r6 r7 r8 r9 r10 r11 r12 r13 r14 r15 : Option R} (hz : ms.length < 10000) :
    argI (argsV [(M.bind (argsV [(bi2 (vVar 0) (vC (.int 1)) ixF)]) (un1 lenR))]) rngK1 [some (.d (webD P ms)), r1, r2, r3, r4, r5, r6, r7, r8, r9, r10, r11, r12, r13, r14, r15]
    = .ok ((List.range ms.length).map fun k => .int (k : Nat)) [some (.d (webD P ms)), r1, r2, r3, r4, r5, r6, r7, r8, r9, r10, r11, r12, r13, r14, r15] :=
  argI_ok lenM_ok rfl (rngK_nat hz)
/-- a turn of the while -/
theorem body_w {P : Int} {ms : List Mt} {loose : Bool} {pt s : Int} {w : List Nat} {pls : List Int} {q l : Int} {lot : List Int} {es : List Ent} {r3 r4 o7 o8 o9 o10 o11 o12 o13 o14 o15 : Option R} (hq : pls.getLast? = some q) (hS : SWp ms loose pt s w pls l)
    (h1 : lot.length + ms.length < 10000) (h2 : es.length + ms.length < 10000) (h3 : w.length < 1000) (h4 : pls.length < 1000) :
    ∃ o7' o8' o9' o10' o11' o12' o13' o14' o15', b__law_table_3 [some (.d (webD P ms)), some (.d (kindD loose)), some (.d (.int pt)), r3, r4, some (.c (.l (intsD lot))), some (.c (.l ((es ++ [(w, pls)]).map entD))), o7, o8, o9, o10, o11, o12, o13, o14, o15]
    = .ok .nx [some (.d (webD P ms)), some (.d (kindD loose)), some (.d (.int pt)), r3, r4, some (.c (.l (intsD (lot ++ (chd ms loose pt w pls q l).map lastP)))), some (.c (.l ((es ++ chd ms loose pt w pls q l).map entD))), o7', o8', o9', o10', o11', o12', o13', o14', o15'] := by
  obtain ⟨p10, p11, p12, p13, p14, p15, ha⟩ := all_k (P := P) (ms := ms) (loose := loose) (pt := pt) (l := l) (r3 := r3) (r4 := r4) (o10 := o10) (o11 := o11) (o12 := o12) (o13 := o13) (o14 := o14) (o15 := o15) hq h1 h2 h3 h4
  refine ⟨some (.d (.tuple (natsD w))), some (.d (.tuple (intsD pls))), some (.d (.int l)), p10, p11, p12, p13, p14, p15, ?_⟩
  rw [b3_eq, seqS_nx (pop_ok w pls es)]
  rw [seqS_nx (env1 := [some (.d (webD P ms)), some (.d (kindD loose)), some (.d (.int pt)), r3, r4, some (.c (.l (intsD lot))), some (.c (.l (es.map entD))), some (.d (.tuple (natsD w))), some (.d (.tuple (intsD pls))), some (.d (.int l)), o10, o11, o12, o13, o14, o15]) (by simp [Ev.runD, Ev.startE, Ev.outsOf, Ev.retR, Ev.isN, Ev.notN, Ev.chainF, Ev.callY, Ev.permL, Ev.prep, Ev.prep1, Ev.asD, Ev.asDs, Ev.frzI, Ev.rdRs, Ev.rdR, Ev.lentP, Ev.setAllE, Ev.noB, Ev.argI, Ev.seqI, Ev.forS, Ev.unpS, Ev.setS, Ev.settle, Ev.storeM, Ev.putI, Ev.settles, Ev.storeAll, Ev.asgT, Ev.asgTs, Ev.updC, Ev.setC, Ev.tyM, Ev.tyR, Ev.appM, Ev.popM, Ev.appC, Ev.popC, Ev.dat, Ev.lst, Ev.lstOf, Ev.seqOf, Ev.isaF, Ev.isaD, Ev.lenR, Ev.allR, Ev.anyR, Ev.boolsOf, Ev.intsOf, Ev.sumR, Ev.absR, Ev.tupleR, Ev.listR, Ev.reprR, Ev.intR, Ev.divmodR, Ev.min2R, Ev.max2R, Ev.mulR, Ev.addR, Ev.subF, Ev.modF, Ev.divF, Ev.powF, Ev.i2, Ev.i2c, Ev.ixF, Ev.ixR, Ev.partM, Ev.cutF, Ev.cutR, Ev.inF, Ev.inR', Ev.dict1V, Ev.bi2, Ev.ca, Ev.negR, Ev.dKey, Ev.dKeys, Ev.truth, Ev.truM, Ev.bM, Ev.isNone, Ev.starM, Ev.sortSetR, PyData.isTuple, PyData.isInt, PyData.isBool, PyData.isStr, PyData.isList, PyData.isDict, PySem.sizeLine_eq, cond, lastM_ok hS])]
  rw [seqS_nx ((forS_ok (rngM_ok (by omega))).trans ha)]
  rfl
/-- the while -/
theorem srch_w {P : Int} {ms : List Mt} {loose : Bool} {pt s : Int} (hw : Web P ms) (hP : P ≤ 5) (hn : ms.length ≤ 9) (hs : 0 ≤ s ∧ s < P) {r3 r4 o7 o8 o9 o10 o11 o12 o13 o14 o15 : Option R} :
    ∃ lot es o7' o8' o9' o10' o11' o12' o13' o14' o15', whileW w__law_table_2 b__law_table_3 [some (.d (webD P ms)), some (.d (kindD loose)), some (.d (.int pt)), r3, r4, some (.c (.l (intsD [s]))), some (.c (.l ([(([], [s]) : Ent)].map entD))), o7, o8, o9, o10, o11, o12, o13, o14, o15]
    = .ok .nx [some (.d (webD P ms)), some (.d (kindD loose)), some (.d (.int pt)), r3, r4, some (.c (.l (intsD lot))), some (.c (.l es)), o7', o8', o9', o10', o11', o12', o13', o14', o15'] ∧ lot.length ≤ 3610 ∧ (∀ p, p ∈ lot ↔ ∃ w pls l, SWp ms loose pt s w pls l ∧ pls.getLast? = some p) := by
  have hm : ∀ m ∈ ms, (0 ≤ m.2.1 ∧ m.2.1 < P) ∧ 0 ≤ m.2.2 ∧ m.2.2 < P := fun m hm => by
    have := hw.1 m hm
    have h0 := this.a0
    have h1 := this.ab
    have h2 := this.bP
    omega
  obtain ⟨env', e1, lot, o7', o8', o9', o10', o11', o12', o13', o14', o15', rfl, S⟩ := whileW_ind (c := w__law_table_2) (f := b__law_table_3)
    (Inv := fun k env => ∃ lot es o7 o8 o9 o10 o11 o12 o13 o14 o15, env = [some (.d (webD P ms)), some (.d (kindD loose)), some (.d (.int pt)), r3, r4, some (.c (.l (intsD lot))), some (.c (.l (List.map entD es))), o7, o8, o9, o10, o11, o12, o13, o14, o15] ∧ Srch ms loose pt s lot es ∧ k = (es.map fun e => Mz e.1.length).sum ∧ k ≤ 3610 ∧ es.length ≤ k)
    (Q := fun env => ∃ lot o7 o8 o9 o10 o11 o12 o13 o14 o15, env = [some (.d (webD P ms)), some (.d (kindD loose)), some (.d (.int pt)), r3, r4, some (.c (.l (intsD lot))), some (.c (.l [])), o7, o8, o9, o10, o11, o12, o13, o14, o15] ∧ Srch ms loose pt s lot [])
    (fun k env hI => by
      obtain ⟨lot, es, o7, o8, o9, o10, o11, o12, o13, o14, o15, rfl, S, hk, hk2, hk3⟩ := hI
      have hne := ne_ents es
      rcases List.eq_nil_or_concat es with rfl | ⟨es0, e, rfl⟩
      · left
        refine ⟨_, ?_, lot, o7, o8, o9, o10, o11, o12, o13, o14, o15, rfl, S⟩
        simp at hne
        simp [Ev.runD, Ev.startE, Ev.outsOf, Ev.retR, Ev.isN, Ev.notN, Ev.chainF, Ev.callY, Ev.permL, Ev.prep, Ev.prep1, Ev.asD, Ev.asDs, Ev.frzI, Ev.rdRs, Ev.rdR, Ev.lentP, Ev.setAllE, Ev.noB, Ev.argI, Ev.seqI, Ev.forS, Ev.unpS, Ev.setS, Ev.settle, Ev.storeM, Ev.putI, Ev.settles, Ev.storeAll, Ev.asgT, Ev.asgTs, Ev.updC, Ev.setC, Ev.tyM, Ev.tyR, Ev.appM, Ev.popM, Ev.appC, Ev.popC, Ev.dat, Ev.lst, Ev.lstOf, Ev.seqOf, Ev.isaF, Ev.isaD, Ev.lenR, Ev.allR, Ev.anyR, Ev.boolsOf, Ev.intsOf, Ev.sumR, Ev.absR, Ev.tupleR, Ev.listR, Ev.reprR, Ev.intR, Ev.divmodR, Ev.min2R, Ev.max2R, Ev.mulR, Ev.addR, Ev.subF, Ev.modF, Ev.divF, Ev.powF, Ev.i2, Ev.i2c, Ev.ixF, Ev.ixR, Ev.partM, Ev.cutF, Ev.cutR, Ev.inF, Ev.inR', Ev.dict1V, Ev.bi2, Ev.ca, Ev.negR, Ev.dKey, Ev.dKeys, Ev.truth, Ev.truM, Ev.bM, Ev.isNone, Ev.starM, Ev.sortSetR, PyData.isTuple, PyData.isInt, PyData.isBool, PyData.isStr, PyData.isList, PyData.isDict, PySem.sizeLine_eq, cond, w__law_table_2, hne]
      · right
        rw [List.concat_eq_append] at hne S hk hk3 ⊢
        have hb : (es0 ++ [e]).isEmpty = false := by cases es0 <;> rfl
        rw [hb] at hne
        obtain ⟨l, hS⟩ := S.ways e (by simp)
        obtain ⟨q, hq⟩ : ∃ q, e.2.getLast? = some q := by
          cases hx : e.2.getLast? with
          | none => exact absurd (List.getLast?_eq_none_iff.mp hx) hS.sw.ne
          | some x => exact ⟨x, rfl⟩
        obtain ⟨S2, hlt⟩ := S.next hm hs hP hn hS hq
        have hsh := hS.short hm hs
        have hnd := hS.sw.nodup
        have hfew := S.few
        rw [List.length_append, List.length_singleton] at hk3
        obtain ⟨p7, p8, p9, p10, p11, p12, p13, p14, p15, hb⟩ := body_w (P := P) (w := e.1) (pls := e.2) (lot := lot) (es := es0) (r3 := r3) (r4 := r4) (o7 := o7) (o8 := o8) (o9 := o9) (o10 := o10) (o11 := o11) (o12 := o12) (o13 := o13) (o14 := o14) (o15 := o15) hq hS (by omega) (by omega) (by omega) (by omega)
        refine ⟨_, _, _, ?_, hb, ?_, _, _, _, _, _, _, _, _, _, _, _, rfl, S2, rfl, ?_, ?_⟩
        · simp only [List.map_append, List.map_cons, List.map_nil] at hne
          simp [Ev.runD, Ev.startE, Ev.outsOf, Ev.retR, Ev.isN, Ev.notN, Ev.chainF, Ev.callY, Ev.permL, Ev.prep, Ev.prep1, Ev.asD, Ev.asDs, Ev.frzI, Ev.rdRs, Ev.rdR, Ev.lentP, Ev.setAllE, Ev.noB, Ev.argI, Ev.seqI, Ev.forS, Ev.unpS, Ev.setS, Ev.settle, Ev.storeM, Ev.putI, Ev.settles, Ev.storeAll, Ev.asgT, Ev.asgTs, Ev.updC, Ev.setC, Ev.tyM, Ev.tyR, Ev.appM, Ev.popM, Ev.appC, Ev.popC, Ev.dat, Ev.lst, Ev.lstOf, Ev.seqOf, Ev.isaF, Ev.isaD, Ev.lenR, Ev.allR, Ev.anyR, Ev.boolsOf, Ev.intsOf, Ev.sumR, Ev.absR, Ev.tupleR, Ev.listR, Ev.reprR, Ev.intR, Ev.divmodR, Ev.min2R, Ev.max2R, Ev.mulR, Ev.addR, Ev.subF, Ev.modF, Ev.divF, Ev.powF, Ev.i2, Ev.i2c, Ev.ixF, Ev.ixR, Ev.partM, Ev.cutF, Ev.cutR, Ev.inF, Ev.dict1V, Ev.bi2, Ev.ca, Ev.negR, Ev.dKey, Ev.dKeys, Ev.truth, Ev.truM, Ev.bM, Ev.isNone, Ev.starM, Ev.sortSetR, PyData.isTuple, PyData.isInt, PyData.isBool, PyData.isStr, PyData.isList, PyData.isDict, PySem.sizeLine_eq, cond, w__law_table_2, hne]
        · rw [hk]; exact hlt
        · omega
        · have : ∀ l : List Ent, l.length ≤ (l.map fun e => Mz e.1.length).sum := fun l => by
            induction l with
            | nil => simp
            | cons a l ih =>
              have := Mz_pos a.1.length
              rw [List.map_cons, List.sum_cons, List.length_cons]
              omega
          exact this _)
    3610 _ ⟨[s], [([], [s])], o7, o8, o9, o10, o11, o12, o13, o14, o15, rfl, Srch.start, by simp [Mz], by omega, by simp⟩
  refine ⟨lot, [], o7', o8', o9', o10', o11', o12', o13', o14', o15', e1, ?_, fun p => ⟨fun hp => S.from_ p hp, fun ⟨w, pls, l, h1, h2⟩ => ?_⟩⟩
  · have := S.few
    simpa using this
  · rcases S.all w pls l h1 with ⟨p', q1, q2⟩ | ⟨e, he, _⟩
    · rw [h2] at q1; cases q1; exact q2
    · cases he
end K44
set_option maxHeartbeats 1000000
namespace K44
open PySem Ev Way
/-! ### _law_table as a whole -/
/-- who is come to by ways of a patience, ascending -/
noncomputable def comeP (P : Int) (ms : List Mt) (loose : Bool) (pt s : Int) : List Int :=
  open Classical in ((List.range P.toNat).map Int.ofNat).filter fun p => decide (∃ w pls l, SWp ms loose pt s w pls l ∧ pls.getLast? = some p)
theorem asc_comeP {P : Int} {ms : List Mt} {loose : Bool} {pt s : Int} : (comeP P ms loose pt s).Pairwise (· < ·) := by
  unfold comeP
  exact (asc_ofNat _).filter _
theorem mem_comeP {P : Int} {ms : List Mt} {loose : Bool} {pt s p : Int} : p ∈ comeP P ms loose pt s ↔ (0 ≤ p ∧ p < P) ∧ ∃ w pls l, SWp ms loose pt s w pls l ∧ pls.getLast? = some p := by
  unfold comeP
  simp only [List.mem_filter, decide_eq_true_eq, List.mem_map]
  constructor
  · rintro ⟨⟨n, h1, rfl⟩, h2⟩
    rw [List.mem_range] at h1
    exact ⟨⟨Int.ofNat_nonneg n, by show (n : Int) < P; omega⟩, h2⟩
  · rintro ⟨⟨h0, h1⟩, h2⟩
    exact ⟨⟨p.toNat, by rw [List.mem_range]; omega, by show ((p.toNat : Nat) : Int) = p; omega⟩, h2⟩
theorem comeP_19 {P : Int} {ms : List Mt} {loose : Bool} {s pt : Int} (hw : Web P ms) (hpt : 19 ≤ pt) : comeP P ms loose pt s = comeOf P ms loose s := by
  refine asc_uni asc_comeP asc_come fun p => ?_
  rw [mem_comeP, mem_come]
  refine and_congr_right fun hp => ?_
  constructor
  · rintro ⟨w, pls, l, h1, h2⟩
    exact ⟨l, h1.sw.sound h2⟩
  · rintro ⟨l, h⟩
    obtain ⟨w, pls, l', h1, h2, h3⟩ := h.simple
    exact ⟨w, pls, l', (h1.swp (fun m hm => ⟨(hw.1 m hm).t1, (hw.1 m hm).t20⟩) hpt).1, h2⟩
noncomputable def tblP (P : Int) (ms : List Mt) (loose : Bool) (pt : Int) : List PyData := (List.range P.toNat).map fun i => .tuple (intsD (comeP P ms loose pt (i : Nat)))
theorem tblP_19 {P : Int} {ms : List Mt} {loose : Bool} {pt : Int} (hw : Web P ms) (hpt : 19 ≤ pt) : tblP P ms loose pt = tblD P ms loose := by
  unfold tblP tblD
  congr 1
  funext i
  rw [comeP_19 hw hpt]
theorem web_in {P : Int} {ms : List Mt} (hw : Web P ms) : ∀ m ∈ ms, (0 ≤ m.2.1 ∧ m.2.1 < P) ∧ 0 ≤ m.2.2 ∧ m.2.2 < P := fun m hm => by
  have := hw.1 m hm
  have h0 := this.a0
  have h1 := this.ab
  have h2 := this.bP
  omega
theorem body_t {P : Int} {ms : List Mt} {loose : Bool} {pt s : Int} (hw : Web P ms) (hP0 : 0 ≤ P) (hP : P ≤ 5) (hn : ms.length ≤ 9) (hs : 0 ≤ s ∧ s < P) {acc : List PyData} (ha : acc.length < 100) {o5 o6 o7 o8 o9 o10 o11 o12 o13 o14 o15 : Option R} :
    ∃ o5' o6' o7' o8' o9' o10' o11' o12' o13' o14' o15', b__law_table_4 [some (.d (webD P ms)), some (.d (kindD loose)), some (.d (.int pt)), some (.c (.l acc)), some (.d (.int s)), o5, o6, o7, o8, o9, o10, o11, o12, o13, o14, o15]
    = .ok .nx [some (.d (webD P ms)), some (.d (kindD loose)), some (.d (.int pt)), some (.c (.l (acc ++ [.tuple (intsD (comeP P ms loose pt s))]))), some (.d (.int s)), o5', o6', o7', o8', o9', o10', o11', o12', o13', o14', o15'] := by
  obtain ⟨lot, es, p7, p8, p9, p10, p11, p12, p13, p14, p15, h1, h2, h3⟩ := srch_w (pt := pt) (s := s) (loose := loose) hw hP hn hs (r3 := some (.c (.l acc))) (r4 := some (.d (.int s))) (o7 := o7) (o8 := o8) (o9 := o9) (o10 := o10) (o11 := o11) (o12 := o12) (o13 := o13) (o14 := o14) (o15 := o15)
  have e : ascSet lot = comeP P ms loose pt s := asc_uni asc_asc asc_comeP fun p => by
    rw [mem_asc, h3, mem_comeP]
    constructor
    · rintro ⟨w, pls, l, q1, q2⟩
      exact ⟨(q1.short (web_in hw) hs).2 p (List.mem_of_getLast? q2), w, pls, l, q1, q2⟩
    · rintro ⟨_, h⟩; exact h
  have h64 : (ascSet lot).length < 64 := by
    have := ins_le (P := P) (l := ascSet lot) (fun p hp => by
      rw [e, mem_comeP] at hp; exact hp.1) (asc_nd asc_asc) hP0
    omega
  have hsort := sort_n (ns := lot) (by omega) h64
  rw [e] at hsort
  refine ⟨some (.c (.l (intsD lot))), some (.c (.l es)), p7, p8, p9, p10, p11, p12, p13, p14, p15, ?_⟩
  unfold b__law_table_4
  rw [seqS_nx (env1 := [some (.d (webD P ms)), some (.d (kindD loose)), some (.d (.int pt)), some (.c (.l acc)), some (.d (.int s)), some (.c (.l (intsD [s]))), some (.c (.l ([(([], [s]) : Ent)].map entD))), o7, o8, o9, o10, o11, o12, o13, o14, o15]) (by simp [Ev.runD, Ev.startE, Ev.outsOf, Ev.retR, Ev.isN, Ev.notN, Ev.chainF, Ev.callY, Ev.permL, Ev.prep, Ev.prep1, Ev.asD, Ev.asDs, Ev.frzI, Ev.rdRs, Ev.rdR, Ev.lentP, Ev.setAllE, Ev.noB, Ev.argI, Ev.seqI, Ev.forS, Ev.unpS, Ev.setS, Ev.settle, Ev.storeM, Ev.putI, Ev.settles, Ev.storeAll, Ev.asgT, Ev.asgTs, Ev.updC, Ev.setC, Ev.tyM, Ev.tyR, Ev.appM, Ev.popM, Ev.appC, Ev.popC, Ev.dat, Ev.lst, Ev.lstOf, Ev.seqOf, Ev.isaF, Ev.isaD, Ev.lenR, Ev.allR, Ev.anyR, Ev.boolsOf, Ev.intsOf, Ev.sumR, Ev.absR, Ev.tupleR, Ev.listR, Ev.reprR, Ev.intR, Ev.divmodR, Ev.min2R, Ev.max2R, Ev.mulR, Ev.addR, Ev.subF, Ev.modF, Ev.divF, Ev.powF, Ev.i2, Ev.i2c, Ev.ixF, Ev.ixR, Ev.partM, Ev.cutF, Ev.cutR, Ev.inF, Ev.inR', Ev.dict1V, Ev.bi2, Ev.ca, Ev.negR, Ev.dKey, Ev.dKeys, Ev.truth, Ev.truM, Ev.bM, Ev.isNone, Ev.starM, Ev.sortSetR, PyData.isTuple, PyData.isInt, PyData.isBool, PyData.isStr, PyData.isList, PyData.isDict, PySem.sizeLine_eq, cond, intsD, entD, natsD]), seqS_nx h1]
  have hz : acc.length < 16777216 := by omega
  simp [Ev.runD, Ev.startE, Ev.outsOf, Ev.retR, Ev.isN, Ev.notN, Ev.chainF, Ev.callY, Ev.permL, Ev.prep, Ev.prep1, Ev.asD, Ev.asDs, Ev.frzI, Ev.rdRs, Ev.rdR, Ev.lentP, Ev.setAllE, Ev.noB, Ev.argI, Ev.seqI, Ev.forS, Ev.unpS, Ev.setS, Ev.settle, Ev.storeM, Ev.putI, Ev.settles, Ev.storeAll, Ev.asgT, Ev.asgTs, Ev.updC, Ev.setC, Ev.tyM, Ev.tyR, Ev.appM, Ev.popM, Ev.appC, Ev.popC, Ev.dat, Ev.lst, Ev.lstOf, Ev.seqOf, Ev.isaF, Ev.isaD, Ev.lenR, Ev.allR, Ev.anyR, Ev.boolsOf, Ev.intsOf, Ev.sumR, Ev.absR, Ev.tupleR, Ev.listR, Ev.reprR, Ev.intR, Ev.divmodR, Ev.min2R, Ev.max2R, Ev.mulR, Ev.addR, Ev.subF, Ev.modF, Ev.divF, Ev.powF, Ev.i2, Ev.i2c, Ev.ixF, Ev.ixR, Ev.partM, Ev.cutF, Ev.cutR, Ev.inF, Ev.inR', Ev.dict1V, Ev.bi2, Ev.ca, Ev.negR, Ev.dKey, Ev.dKeys, Ev.truth, Ev.truM, Ev.bM, Ev.isNone, Ev.starM, PyData.isTuple, PyData.isInt, PyData.isBool, PyData.isStr, PyData.isList, PyData.isDict, PySem.sizeLine_eq, cond, hsort, hz]
theorem ltable_ok {P : Int} {ms : List Mt} {loose : Bool} {pt : Int} (hw : Web P ms) (hP0 : 0 ≤ P) (hP : P ≤ 5) (hn : ms.length ≤ 9) :
    p__law_table [.d (webD P ms), .d (kindD loose), .d (.int pt)] = .ok (.d (.tuple (tblP P ms loose pt))) [] := by
  obtain ⟨env', e1, acc, o4, o5, o6, o7, o8, o9, o10, o11, o12, o13, o14, o15, rfl, h2⟩ := forL_ix (gd := []) (t := .n 4) (f := b__law_table_4)
    (fun i env => ∃ acc o4 o5 o6 o7 o8 o9 o10 o11 o12 o13 o14 o15, env = [some (.d (webD P ms)), some (.d (kindD loose)), some (.d (.int pt)), some (.c (.l acc)), o4, o5, o6, o7, o8, o9, o10, o11, o12, o13, o14, o15] ∧ acc = (tblP P ms loose pt).take i)
    ((List.range P.toNat).map fun k => .int (k : Nat))
    (fun i d hd env hI => by
      obtain ⟨acc, o4, o5, o6, o7, o8, o9, o10, o11, o12, o13, o14, o15, rfl, h⟩ := hI
      have hi : i < P.toNat := by
        have := (List.getElem?_eq_some_iff.mp hd).1
        simpa using this
      have hd' : d = .int (i : Nat) := by
        simp [hi] at hd
        exact hd.symm
      subst hd'
      have hal : acc.length < 100 := by rw [h, List.length_take]; omega
      obtain ⟨p5, p6, p7, p8, p9, p10, p11, p12, p13, p14, p15, hb⟩ := body_t (pt := pt) (loose := loose) (s := (i : Nat)) hw hP0 hP hn (by omega) hal (o5 := o5) (o6 := o6) (o7 := o7) (o8 := o8) (o9 := o9) (o10 := o10) (o11 := o11) (o12 := o12) (o13 := o13) (o14 := o14) (o15 := o15)
      refine ⟨_, _, ?_, hb, _, _, _, _, _, _, _, _, _, _, _, _, _, rfl, ?_⟩
      · simp [Ev.runD, Ev.startE, Ev.outsOf, Ev.retR, Ev.isN, Ev.notN, Ev.chainF, Ev.callY, Ev.permL, Ev.prep, Ev.prep1, Ev.asD, Ev.asDs, Ev.frzI, Ev.rdRs, Ev.rdR, Ev.lentP, Ev.setAllE, Ev.noB, Ev.argI, Ev.seqI, Ev.forS, Ev.unpS, Ev.setS, Ev.settle, Ev.storeM, Ev.putI, Ev.settles, Ev.storeAll, Ev.asgT, Ev.asgTs, Ev.updC, Ev.setC, Ev.tyM, Ev.tyR, Ev.appM, Ev.popM, Ev.appC, Ev.popC, Ev.dat, Ev.lst, Ev.lstOf, Ev.seqOf, Ev.isaF, Ev.isaD, Ev.lenR, Ev.allR, Ev.anyR, Ev.boolsOf, Ev.intsOf, Ev.sumR, Ev.absR, Ev.tupleR, Ev.listR, Ev.reprR, Ev.intR, Ev.divmodR, Ev.min2R, Ev.max2R, Ev.mulR, Ev.addR, Ev.subF, Ev.modF, Ev.divF, Ev.powF, Ev.i2, Ev.i2c, Ev.ixF, Ev.ixR, Ev.partM, Ev.cutF, Ev.cutR, Ev.inF, Ev.inR', Ev.dict1V, Ev.bi2, Ev.ca, Ev.negR, Ev.dKey, Ev.dKeys, Ev.truth, Ev.truM, Ev.bM, Ev.isNone, Ev.starM, Ev.sortSetR, PyData.isTuple, PyData.isInt, PyData.isBool, PyData.isStr, PyData.isList, PyData.isDict, PySem.sizeLine_eq, cond]
      · rw [List.take_add_one, ← h]
        simp [tblP, hi])
    ((List.range P.toNat).map fun k => .int (k : Nat)) 0 rfl [some (.d (webD P ms)), some (.d (kindD loose)), some (.d (.int pt)), some (.c (.l [])), none, none, none, none, none, none, none, none, none, none, none, none]
    ⟨[], _, _, _, _, _, _, _, _, _, _, _, _, rfl, by simp⟩
  have hacc : acc = tblP P ms loose pt := by
    rw [h2, List.take_of_length_le]
    simp [tblP]
  subst hacc
  refine runD_rt (env := [some (.d (webD P ms)), some (.d (kindD loose)), some (.d (.int pt)), some (.c (.l (tblP P ms loose pt))), o4, o5, o6, o7, o8, o9, o10, o11, o12, o13, o14, o15]) (r := .d (.tuple (tblP P ms loose pt))) ?_ rfl rfl
  show f__law_table [some (.d (webD P ms)), some (.d (kindD loose)), some (.d (.int pt)), none, none, none, none, none, none, none, none, none, none, none, none, none] = _
  unfold f__law_table
  have hk : argI (argsV [(bi2 (vVar 0) (vC (.int 0)) ixF)]) rngK1 [some (.d (webD P ms)), some (.d (kindD loose)), some (.d (.int pt)), some (.c (.l [])), none, none, none, none, none, none, none, none, none, none, none, none] = .ok ((List.range P.toNat).map fun k => .int (k : Nat)) [some (.d (webD P ms)), some (.d (kindD loose)), some (.d (.int pt)), some (.c (.l [])), none, none, none, none, none, none, none, none, none, none, none, none] := by
    refine argI_ok (env1 := [some (.d (webD P ms)), some (.d (kindD loose)), some (.d (.int pt)), some (.c (.l [])), none, none, none, none, none, none, none, none, none, none, none, none]) (rs := [.d (.int P)]) (ds := [.int P]) (by simp [Ev.runD, Ev.startE, Ev.outsOf, Ev.retR, Ev.isN, Ev.notN, Ev.chainF, Ev.callY, Ev.permL, Ev.prep, Ev.prep1, Ev.asD, Ev.asDs, Ev.frzI, Ev.rdRs, Ev.rdR, Ev.lentP, Ev.setAllE, Ev.noB, Ev.argI, Ev.seqI, Ev.forS, Ev.unpS, Ev.setS, Ev.settle, Ev.storeM, Ev.putI, Ev.settles, Ev.storeAll, Ev.asgT, Ev.asgTs, Ev.updC, Ev.setC, Ev.tyM, Ev.tyR, Ev.appM, Ev.popM, Ev.appC, Ev.popC, Ev.dat, Ev.lst, Ev.lstOf, Ev.seqOf, Ev.isaF, Ev.isaD, Ev.lenR, Ev.allR, Ev.anyR, Ev.boolsOf, Ev.intsOf, Ev.sumR, Ev.absR, Ev.tupleR, Ev.listR, Ev.reprR, Ev.intR, Ev.divmodR, Ev.min2R, Ev.max2R, Ev.mulR, Ev.addR, Ev.subF, Ev.modF, Ev.divF, Ev.powF, Ev.i2, Ev.i2c, Ev.ixF, Ev.ixR, Ev.partM, Ev.cutF, Ev.cutR, Ev.inF, Ev.inR', Ev.dict1V, Ev.bi2, Ev.ca, Ev.negR, Ev.dKey, Ev.dKeys, Ev.truth, Ev.truM, Ev.bM, Ev.isNone, Ev.starM, Ev.sortSetR, PyData.isTuple, PyData.isInt, PyData.isBool, PyData.isStr, PyData.isList, PyData.isDict, PySem.sizeLine_eq, cond, webD]) (by simp [Ev.runD, Ev.startE, Ev.outsOf, Ev.retR, Ev.isN, Ev.notN, Ev.chainF, Ev.callY, Ev.permL, Ev.prep, Ev.prep1, Ev.asD, Ev.asDs, Ev.frzI, Ev.rdRs, Ev.rdR, Ev.lentP, Ev.setAllE, Ev.noB, Ev.argI, Ev.seqI, Ev.forS, Ev.unpS, Ev.setS, Ev.settle, Ev.storeM, Ev.putI, Ev.settles, Ev.storeAll, Ev.asgT, Ev.asgTs, Ev.updC, Ev.setC, Ev.tyM, Ev.tyR, Ev.appM, Ev.popM, Ev.appC, Ev.popC, Ev.dat, Ev.lst, Ev.lstOf, Ev.seqOf, Ev.isaF, Ev.isaD, Ev.lenR, Ev.allR, Ev.anyR, Ev.boolsOf, Ev.intsOf, Ev.sumR, Ev.absR, Ev.tupleR, Ev.listR, Ev.reprR, Ev.intR, Ev.divmodR, Ev.min2R, Ev.max2R, Ev.mulR, Ev.addR, Ev.subF, Ev.modF, Ev.divF, Ev.powF, Ev.i2, Ev.i2c, Ev.ixF, Ev.ixR, Ev.partM, Ev.cutF, Ev.cutR, Ev.inF, Ev.inR', Ev.dict1V, Ev.bi2, Ev.ca, Ev.negR, Ev.dKey, Ev.dKeys, Ev.truth, Ev.truM, Ev.bM, Ev.isNone, Ev.starM, Ev.sortSetR, PyData.isTuple, PyData.isInt, PyData.isBool, PyData.isStr, PyData.isList, PyData.isDict, PySem.sizeLine_eq, cond]) ?_
    have := rngK_nat (n := P.toNat) (by omega)
    have hP2 : ((P.toNat : Nat) : Int) = P := by omega
    rwa [hP2] at this
  rw [seqS_nx (env1 := [some (.d (webD P ms)), some (.d (kindD loose)), some (.d (.int pt)), some (.c (.l [])), none, none, none, none, none, none, none, none, none, none, none, none]) (by simp [Ev.runD, Ev.startE, Ev.outsOf, Ev.retR, Ev.isN, Ev.notN, Ev.chainF, Ev.callY, Ev.permL, Ev.prep, Ev.prep1, Ev.asD, Ev.asDs, Ev.frzI, Ev.rdRs, Ev.rdR, Ev.lentP, Ev.setAllE, Ev.noB, Ev.argI, Ev.seqI, Ev.forS, Ev.unpS, Ev.setS, Ev.settle, Ev.storeM, Ev.putI, Ev.settles, Ev.storeAll, Ev.asgT, Ev.asgTs, Ev.updC, Ev.setC, Ev.tyM, Ev.tyR, Ev.appM, Ev.popM, Ev.appC, Ev.popC, Ev.dat, Ev.lst, Ev.lstOf, Ev.seqOf, Ev.isaF, Ev.isaD, Ev.lenR, Ev.allR, Ev.anyR, Ev.boolsOf, Ev.intsOf, Ev.sumR, Ev.absR, Ev.tupleR, Ev.listR, Ev.reprR, Ev.intR, Ev.divmodR, Ev.min2R, Ev.max2R, Ev.mulR, Ev.addR, Ev.subF, Ev.modF, Ev.divF, Ev.powF, Ev.i2, Ev.i2c, Ev.ixF, Ev.ixR, Ev.partM, Ev.cutF, Ev.cutR, Ev.inF, Ev.inR', Ev.dict1V, Ev.bi2, Ev.ca, Ev.negR, Ev.dKey, Ev.dKeys, Ev.truth, Ev.truM, Ev.bM, Ev.isNone, Ev.starM, Ev.sortSetR, PyData.isTuple, PyData.isInt, PyData.isBool, PyData.isStr, PyData.isList, PyData.isDict, PySem.sizeLine_eq, cond])]
  rw [seqS_nx ((forS_ok hk).trans e1)]
  simp [Ev.runD, Ev.startE, Ev.outsOf, Ev.retR, Ev.isN, Ev.notN, Ev.chainF, Ev.callY, Ev.permL, Ev.prep, Ev.prep1, Ev.asD, Ev.asDs, Ev.frzI, Ev.rdRs, Ev.rdR, Ev.lentP, Ev.setAllE, Ev.noB, Ev.argI, Ev.seqI, Ev.forS, Ev.unpS, Ev.setS, Ev.settle, Ev.storeM, Ev.putI, Ev.settles, Ev.storeAll, Ev.asgT, Ev.asgTs, Ev.updC, Ev.setC, Ev.tyM, Ev.tyR, Ev.appM, Ev.popM, Ev.appC, Ev.popC, Ev.dat, Ev.lst, Ev.lstOf, Ev.seqOf, Ev.isaF, Ev.isaD, Ev.lenR, Ev.allR, Ev.anyR, Ev.boolsOf, Ev.intsOf, Ev.sumR, Ev.absR, Ev.tupleR, Ev.listR, Ev.reprR, Ev.intR, Ev.divmodR, Ev.min2R, Ev.max2R, Ev.mulR, Ev.addR, Ev.subF, Ev.modF, Ev.divF, Ev.powF, Ev.i2, Ev.i2c, Ev.ixF, Ev.ixR, Ev.partM, Ev.cutF, Ev.cutR, Ev.inF, Ev.inR', Ev.dict1V, Ev.bi2, Ev.ca, Ev.negR, Ev.dKey, Ev.dKeys, Ev.truth, Ev.truM, Ev.bM, Ev.isNone, Ev.starM, Ev.sortSetR, PyData.isTuple, PyData.isInt, PyData.isBool, PyData.isStr, PyData.isList, PyData.isDict, PySem.sizeLine_eq, cond]
end K44
set_option maxHeartbeats 1000000
namespace K44
open PySem Ev Way
/-! ### the pool -/
theorem log_lt {i : Int} (h1 : -18446744073709551616 < i) (h2 : i < 18446744073709551616) : i.natAbs.log2 < 64 := by
  by_cases h : i.natAbs = 0
  · rw [h]; decide
  · rw [Nat.log2_lt h]
    have : (2 ^ 64 : Nat) = 18446744073709551616 := by decide
    rw [this]
    omega
theorem mulR_int {i j : Int} (h : i.natAbs.log2 + j.natAbs.log2 < 1000000) : mulR (.d (.int i)) (.d (.int j)) = some (.d (.int (i * j))) := if_pos h
theorem mul_ok {i j : Int} (h1 : -18446744073709551616 < i) (h2 : i < 18446744073709551616) (h3 : -18446744073709551616 < j) (h4 : j < 18446744073709551616) : mulR (.d (.int i)) (.d (.int j)) = some (.d (.int (i * j))) := by
  have a := log_lt h1 h2
  have b := log_lt h3 h4
  exact mulR_int (by omega)
theorem mulM {f g : M Rv} {env : Ev.Env} {i j : Int} (hf : f env = .ok (.d (.int i)) env) (hg : g env = .ok (.d (.int j)) env) (h : i.natAbs.log2 + j.natAbs.log2 < 1000000) : bi2 f g (lift2 mulR) env = .ok (.d (.int (i * j))) env := by
  simp [bi2, hf, hg, mulR_int h]
theorem fm_lo (a : Int) {b : Int} (h : 0 < b) : 0 ≤ a.fmod b := Int.fmod_nonneg_of_pos a h
theorem fm_hi (a : Int) {b : Int} (h : 0 < b) : a.fmod b < b := Int.fmod_lt_of_pos a h
def poolC (a m d : Int) : C := .l [.int a, .int m, .int d]
def PoolOk (n : Nat) (c : C) : Prop := ∃ a m d, c = poolC a m d ∧ 0 ≤ a ∧ 0 ≤ m ∧ m < 2147483399 ∧ 0 ≤ d ∧ d ≤ (n : Nat)
theorem PoolOk.more {n n' : Nat} {c : C} (h : PoolOk n c) (hn : n ≤ n') : PoolOk n' c := by
  obtain ⟨a, m, d, e, h1, h2, h3, h4, h5⟩ := h
  exact ⟨a, m, d, e, h1, h2, h3, h4, by omega⟩
theorem b_pool {r0 r1 r2 r4 : Option R} {m e : Int} (h1 : 0 ≤ m) (h2 : m < 2147483399) :
    ∃ m', b__law_pool_1 [r0, r1, r2, some (.d (.int m)), r4, some (.d (.int e))] = .ok .nx [r0, r1, r2, some (.d (.int m')), r4, some (.d (.int e))] ∧ 0 ≤ m' ∧ m' < 2147483399 := by
  have e1 := mul_ok (i := m) (j := 48271) (by omega) (by omega) (by omega) (by omega)
  have f1 := fm_lo e (b := 2147483399) (by omega)
  have f2 := fm_hi e (b := 2147483399) (by omega)
  have e2 := mul_ok (i := e.fmod 2147483399) (j := 19) (by omega) (by omega) (by omega) (by omega)
  refine ⟨(m * 48271 + e.fmod 2147483399 * 19 + 7).fmod 2147483399, ?_, fm_lo _ (by omega), fm_hi _ (by omega)⟩
  simp [Ev.runD, Ev.startE, Ev.outsOf, Ev.retR, Ev.isN, Ev.notN, Ev.chainF, Ev.callY, Ev.permL, Ev.prep, Ev.prep1, Ev.asD, Ev.asDs, Ev.frzI, Ev.rdRs, Ev.rdR, Ev.lentP, Ev.setAllE, Ev.noB, Ev.argI, Ev.seqI, Ev.forS, Ev.unpS, Ev.setS, Ev.settle, Ev.storeM, Ev.putI, Ev.settles, Ev.storeAll, Ev.asgT, Ev.asgTs, Ev.updC, Ev.setC, Ev.tyM, Ev.tyR, Ev.appM, Ev.popM, Ev.appC, Ev.popC, Ev.dat, Ev.lst, Ev.lstOf, Ev.seqOf, Ev.isaF, Ev.isaD, Ev.lenR, Ev.allR, Ev.anyR, Ev.boolsOf, Ev.intsOf, Ev.sumR, Ev.absR, Ev.tupleR, Ev.listR, Ev.reprR, Ev.intR, Ev.divmodR, Ev.min2R, Ev.max2R, Ev.addR, Ev.subF, Ev.modF, Ev.divF, Ev.powF, Ev.i2, Ev.i2c, Ev.ixF, Ev.ixR, Ev.partM, Ev.cutF, Ev.cutR, Ev.inF, Ev.inR', Ev.dict1V, Ev.bi2, Ev.ca, Ev.negR, Ev.dKey, Ev.dKeys, Ev.truth, Ev.truM, Ev.bM, Ev.isNone, Ev.starM, Ev.sortSetR, PyData.isTuple, PyData.isInt, PyData.isBool, PyData.isStr, PyData.isList, PyData.isDict, PySem.sizeLine_eq, cond, b__law_pool_1, e1, e2]
theorem pool_ok (ns : List Int) {k : Int} (hk : 0 ≤ k) (hk2 : k ≤ 2) : ∃ c, p__law_pool [.s ns, .d (.int k)] = .ok (.n c) [] ∧ PoolOk 0 c := by
  obtain ⟨env', e1, m, o5, rfl, g1, g2⟩ := forL_inv (gd := []) (t := .n 5) (f := b__law_pool_1) (enc := PyData.int) (σ := Unit)
    (fun _ env => ∃ m o5, env = [some (.s ns), some (.d (.int k)), some (.d (.int (cutD ns (some k) (some (k + 1))).sum)), some (.d (.int m)), some (.d (.int (10 ^ 64 * 10 ^ 64 * 10 ^ 64 * 10 ^ 64 * 10 ^ 64 * 10 ^ 64))), o5] ∧ 0 ≤ m ∧ m < 2147483399) (fun u _ => u) (cutD ns none (some 12))
    (fun e _ _ env hI => by
      obtain ⟨m, o5, rfl, h1, h2⟩ := hI
      obtain ⟨m', q1, q2, q3⟩ := b_pool (r0 := some (.s ns)) (r1 := some (.d (.int k))) (r2 := some (.d (.int (cutD ns (some k) (some (k + 1))).sum))) (r4 := some (.d (.int (10 ^ 64 * 10 ^ 64 * 10 ^ 64 * 10 ^ 64 * 10 ^ 64 * 10 ^ 64)))) (e := e) h1 h2
      exact ⟨_, _, by simp [Ev.runD, Ev.startE, Ev.outsOf, Ev.retR, Ev.isN, Ev.notN, Ev.chainF, Ev.callY, Ev.permL, Ev.prep, Ev.prep1, Ev.asD, Ev.asDs, Ev.frzI, Ev.rdRs, Ev.rdR, Ev.lentP, Ev.setAllE, Ev.noB, Ev.argI, Ev.seqI, Ev.forS, Ev.unpS, Ev.setS, Ev.settle, Ev.storeM, Ev.putI, Ev.settles, Ev.storeAll, Ev.asgT, Ev.asgTs, Ev.updC, Ev.setC, Ev.tyM, Ev.tyR, Ev.appM, Ev.popM, Ev.appC, Ev.popC, Ev.dat, Ev.lst, Ev.lstOf, Ev.seqOf, Ev.isaF, Ev.isaD, Ev.lenR, Ev.allR, Ev.anyR, Ev.boolsOf, Ev.intsOf, Ev.sumR, Ev.absR, Ev.tupleR, Ev.listR, Ev.reprR, Ev.intR, Ev.divmodR, Ev.min2R, Ev.max2R, Ev.mulR, Ev.addR, Ev.subF, Ev.modF, Ev.divF, Ev.powF, Ev.i2, Ev.i2c, Ev.ixF, Ev.ixR, Ev.partM, Ev.cutF, Ev.cutR, Ev.inF, Ev.inR', Ev.dict1V, Ev.bi2, Ev.ca, Ev.negR, Ev.dKey, Ev.dKeys, Ev.truth, Ev.truM, Ev.bM, Ev.isNone, Ev.starM, Ev.sortSetR, PyData.isTuple, PyData.isInt, PyData.isBool, PyData.isStr, PyData.isList, PyData.isDict, PySem.sizeLine_eq, cond], q1, m', _, rfl, q2, q3⟩) () [some (.s ns), some (.d (.int k)), some (.d (.int (cutD ns (some k) (some (k + 1))).sum)), some (.d (.int (50021 + 977 * k))), some (.d (.int (10 ^ 64 * 10 ^ 64 * 10 ^ 64 * 10 ^ 64 * 10 ^ 64 * 10 ^ 64))), none] ⟨_, _, rfl, by omega, by omega⟩
  generalize hx : (cutD ns (some k) (some (k + 1))).sum = x at e1
  have hio : ∀ l : List Int, intsOf (l.map .int) = some l := ints_of
  have hm := mul_ok (i := 977) (j := k) (by omega) (by omega) (by omega) (by omega)
  generalize hW : (10 ^ 64 * 10 ^ 64 * 10 ^ 64 * 10 ^ 64 * 10 ^ 64 * 10 ^ 64 : Int) = W at e1
  have hWpos : 0 < W := by rw [← hW]; decide +kernel
  have hfin : ∀ a m : Int, 0 ≤ a → 0 ≤ m → m < 2147483399 → PoolOk 0 (.l [.int a, .int m, .int 0]) := fun a m h1 h2 h3 => ⟨a, m, 0, rfl, h1, h2, h3, by omega, by omega⟩
  -- the sum and the mixed number
  have s1 : parS [] [2, 3] (argsV [(M.bind (argsV [(sliceV (vVar 0) (M.bind (vVar 1) partM) (M.bind (bi2 (vVar 1) (vC (.int 1)) (lift2 addR)) partM))]) (un1 sumR)), (bi2 (vC (.int 50021)) (bi2 (vC (.int 977)) (vVar 1) (lift2 mulR)) (lift2 addR))]) [some (.s ns), some (.d (.int k)), none, none, none, none]
      = .ok .nx [some (.s ns), some (.d (.int k)), some (.d (.int x)), some (.d (.int (50021 + 977 * k))), none, none] := by
    simp [Ev.runD, Ev.startE, Ev.outsOf, Ev.retR, Ev.isN, Ev.notN, Ev.chainF, Ev.callY, Ev.permL, Ev.prep, Ev.prep1, Ev.asD, Ev.asDs, Ev.frzI, Ev.rdRs, Ev.rdR, Ev.lentP, Ev.setAllE, Ev.noB, Ev.argI, Ev.seqI, Ev.forS, Ev.unpS, Ev.setS, Ev.settle, Ev.storeM, Ev.putI, Ev.settles, Ev.storeAll, Ev.asgT, Ev.asgTs, Ev.updC, Ev.setC, Ev.tyM, Ev.tyR, Ev.appM, Ev.popM, Ev.appC, Ev.popC, Ev.dat, Ev.lst, Ev.lstOf, Ev.seqOf, Ev.isaF, Ev.isaD, Ev.lenR, Ev.allR, Ev.anyR, Ev.boolsOf, Ev.sumR, Ev.absR, Ev.tupleR, Ev.listR, Ev.reprR, Ev.intR, Ev.divmodR, Ev.min2R, Ev.max2R, Ev.addR, Ev.subF, Ev.modF, Ev.divF, Ev.powF, Ev.i2, Ev.i2c, Ev.ixF, Ev.ixR, Ev.partM, Ev.cutF, Ev.cutR, Ev.inF, Ev.inR', Ev.dict1V, Ev.bi2, Ev.ca, Ev.negR, Ev.dKey, Ev.dKeys, Ev.truth, Ev.truM, Ev.bM, Ev.isNone, Ev.starM, Ev.sortSetR, PyData.isTuple, PyData.isInt, PyData.isBool, PyData.isStr, PyData.isList, PyData.isDict, PySem.sizeLine_eq, cond, hm, hio, hx]
  have s2 : asgS [] 4 (bi2 (bi2 (bi2 (bi2 (bi2 (bi2 (vC (.int 10)) (vC (.int 64)) powF) (bi2 (vC (.int 10)) (vC (.int 64)) powF) (lift2 mulR)) (bi2 (vC (.int 10)) (vC (.int 64)) powF) (lift2 mulR)) (bi2 (vC (.int 10)) (vC (.int 64)) powF) (lift2 mulR)) (bi2 (vC (.int 10)) (vC (.int 64)) powF) (lift2 mulR)) (bi2 (vC (.int 10)) (vC (.int 64)) powF) (lift2 mulR)) [some (.s ns), some (.d (.int k)), some (.d (.int x)), some (.d (.int (50021 + 977 * k))), none, none]
      = .ok .nx [some (.s ns), some (.d (.int k)), some (.d (.int x)), some (.d (.int (50021 + 977 * k))), some (.d (.int W)), none] := by
    have hp : bi2 (vC (.int 10)) (vC (.int 64)) powF [some (.s ns), some (.d (.int k)), some (.d (.int x)), some (.d (.int (50021 + 977 * k))), none, none] = .ok (.d (.int (10 ^ 64))) [some (.s ns), some (.d (.int k)), some (.d (.int x)), some (.d (.int (50021 + 977 * k))), none, none] := rfl
    have hwm := mulM (mulM (mulM (mulM (mulM hp hp (by decide +kernel)) hp (by decide +kernel)) hp (by decide +kernel)) hp (by decide +kernel)) hp (by decide +kernel)
    rw [hW] at hwm
    rw [asgS_eq, M.bind_ok hwm]
    rfl
  unfold p__law_pool
  have hord : ordR (fun d e => !PySem.W.dataLt d e) (.d (.int x)) (.d (.int (10 ^ 18))) = some (.bool (!decide (x < 10 ^ 18))) := by simp
  have hfor : forS [] (seqI (sliceV (vVar 0) (M.ret none) (M.bind (vC (.int 12)) partM))) (.n 5) b__law_pool_1 [some (.s ns), some (.d (.int k)), some (.d (.int x)), some (.d (.int (50021 + 977 * k))), some (.d (.int W)), none] = .ok .nx [some (.s ns), some (.d (.int k)), some (.d (.int x)), some (.d (.int m)), some (.d (.int W)), o5] := by
    rw [forS_ok (ds := (cutD ns none (some 12)).map .int) (env1 := [some (.s ns), some (.d (.int k)), some (.d (.int x)), some (.d (.int (50021 + 977 * k))), some (.d (.int W)), none]) (by simp [Ev.runD, Ev.startE, Ev.outsOf, Ev.retR, Ev.isN, Ev.notN, Ev.chainF, Ev.callY, Ev.permL, Ev.prep, Ev.prep1, Ev.asD, Ev.asDs, Ev.frzI, Ev.rdRs, Ev.rdR, Ev.lentP, Ev.setAllE, Ev.noB, Ev.argI, Ev.seqI, Ev.forS, Ev.unpS, Ev.setS, Ev.settle, Ev.storeM, Ev.putI, Ev.settles, Ev.storeAll, Ev.asgT, Ev.asgTs, Ev.updC, Ev.setC, Ev.tyM, Ev.tyR, Ev.appM, Ev.popM, Ev.appC, Ev.popC, Ev.dat, Ev.lst, Ev.lstOf, Ev.seqOf, Ev.isaF, Ev.isaD, Ev.lenR, Ev.allR, Ev.anyR, Ev.boolsOf, Ev.intsOf, Ev.sumR, Ev.absR, Ev.tupleR, Ev.listR, Ev.reprR, Ev.intR, Ev.divmodR, Ev.min2R, Ev.max2R, Ev.mulR, Ev.addR, Ev.subF, Ev.modF, Ev.divF, Ev.powF, Ev.i2, Ev.i2c, Ev.ixF, Ev.ixR, Ev.partM, Ev.cutF, Ev.cutR, Ev.inF, Ev.inR', Ev.dict1V, Ev.bi2, Ev.ca, Ev.negR, Ev.dKey, Ev.dKeys, Ev.truth, Ev.truM, Ev.bM, Ev.isNone, Ev.starM, Ev.sortSetR, PyData.isTuple, PyData.isInt, PyData.isBool, PyData.isStr, PyData.isList, PyData.isDict, PySem.sizeLine_eq, cond])]
    exact e1
  have hWne : W ≠ 0 := by omega
  have fin : ∀ c : C, PoolOk 0 c → f__law_pool [some (.s ns), some (.d (.int k)), none, none, none, none] = .ok (.rt (.n c)) [some (.s ns), some (.d (.int k)), some (.d (.int x)), some (.d (.int m)), some (.d (.int W)), o5] → ∃ c, runD N__law_pool.length [] f__law_pool [.s ns, .d (.int k)] = .ok (.n c) [] ∧ PoolOk 0 c := fun c hc h =>
    ⟨c, runD_rt (env := [some (.s ns), some (.d (.int k)), some (.d (.int x)), some (.d (.int m)), some (.d (.int W)), o5]) (r := .n c) h rfl rfl, hc⟩
  by_cases h1 : x < 0
  · have a0 := fm_lo (-x) hWpos
    refine fin _ (hfin ((-x).fmod W) m a0 g1 g2) ?_
    unfold f__law_pool
    rw [seqS_nx s1, seqS_nx s2, seqS_nx hfor]
    simp [Ev.runD, Ev.startE, Ev.outsOf, Ev.retR, Ev.isN, Ev.notN, Ev.chainF, Ev.callY, Ev.permL, Ev.prep, Ev.prep1, Ev.asD, Ev.asDs, Ev.frzI, Ev.rdRs, Ev.rdR, Ev.lentP, Ev.setAllE, Ev.noB, Ev.argI, Ev.seqI, Ev.forS, Ev.unpS, Ev.setS, Ev.settle, Ev.storeM, Ev.putI, Ev.settles, Ev.storeAll, Ev.asgT, Ev.asgTs, Ev.updC, Ev.setC, Ev.tyM, Ev.tyR, Ev.appM, Ev.popM, Ev.appC, Ev.popC, Ev.dat, Ev.lst, Ev.lstOf, Ev.seqOf, Ev.isaF, Ev.isaD, Ev.lenR, Ev.allR, Ev.anyR, Ev.boolsOf, Ev.intsOf, Ev.sumR, Ev.absR, Ev.tupleR, Ev.listR, Ev.reprR, Ev.intR, Ev.divmodR, Ev.min2R, Ev.max2R, Ev.mulR, Ev.addR, Ev.subF, Ev.modF, Ev.divF, Ev.powF, Ev.i2, Ev.i2c, Ev.ixF, Ev.ixR, Ev.partM, Ev.cutF, Ev.cutR, Ev.inF, Ev.inR', Ev.dict1V, Ev.bi2, Ev.ca, Ev.negR, Ev.dKey, Ev.dKeys, Ev.truth, Ev.truM, Ev.bM, Ev.isNone, Ev.starM, Ev.sortSetR, PyData.isTuple, PyData.isInt, PyData.isBool, PyData.isStr, PyData.isList, PyData.isDict, PySem.sizeLine_eq, cond, h1, hWne]
  · by_cases h2 : x < 10 ^ 18
    · refine fin _ (hfin 0 m (by omega) g1 g2) ?_
      unfold f__law_pool
      rw [seqS_nx s1, seqS_nx s2, seqS_nx hfor]
      have h2' : decide (x < 1000000000000000000) = true := decide_eq_true (by omega)
      simp [Ev.runD, Ev.startE, Ev.outsOf, Ev.retR, Ev.isN, Ev.notN, Ev.chainF, Ev.callY, Ev.permL, Ev.prep, Ev.prep1, Ev.asD, Ev.asDs, Ev.frzI, Ev.rdRs, Ev.rdR, Ev.lentP, Ev.setAllE, Ev.noB, Ev.argI, Ev.seqI, Ev.forS, Ev.unpS, Ev.setS, Ev.settle, Ev.storeM, Ev.putI, Ev.settles, Ev.storeAll, Ev.asgT, Ev.asgTs, Ev.updC, Ev.setC, Ev.tyM, Ev.tyR, Ev.appM, Ev.popM, Ev.appC, Ev.popC, Ev.dat, Ev.lst, Ev.lstOf, Ev.seqOf, Ev.isaF, Ev.isaD, Ev.lenR, Ev.allR, Ev.anyR, Ev.boolsOf, Ev.intsOf, Ev.sumR, Ev.absR, Ev.tupleR, Ev.listR, Ev.reprR, Ev.intR, Ev.divmodR, Ev.min2R, Ev.max2R, Ev.mulR, Ev.addR, Ev.subF, Ev.modF, Ev.divF, Ev.powF, Ev.i2, Ev.i2c, Ev.ixF, Ev.ixR, Ev.partM, Ev.cutF, Ev.cutR, Ev.inF, Ev.inR', Ev.dict1V, Ev.bi2, Ev.ca, Ev.negR, Ev.dKey, Ev.dKeys, Ev.truth, Ev.truM, Ev.bM, Ev.isNone, Ev.starM, Ev.sortSetR, PyData.isTuple, PyData.isInt, PyData.isBool, PyData.isStr, PyData.isList, PyData.isDict, PySem.sizeLine_eq, cond, h1, h2', hWne]
    · have a0 := fm_lo x hWpos
      refine fin _ (hfin (x.fmod W) m a0 g1 g2) ?_
      unfold f__law_pool
      rw [seqS_nx s1, seqS_nx s2, seqS_nx hfor]
      have h2' : decide (x < 1000000000000000000) = false := decide_eq_false (by omega)
      simp [Ev.runD, Ev.startE, Ev.outsOf, Ev.retR, Ev.isN, Ev.notN, Ev.chainF, Ev.callY, Ev.permL, Ev.prep, Ev.prep1, Ev.asD, Ev.asDs, Ev.frzI, Ev.rdRs, Ev.rdR, Ev.lentP, Ev.setAllE, Ev.noB, Ev.argI, Ev.seqI, Ev.forS, Ev.unpS, Ev.setS, Ev.settle, Ev.storeM, Ev.putI, Ev.settles, Ev.storeAll, Ev.asgT, Ev.asgTs, Ev.updC, Ev.setC, Ev.tyM, Ev.tyR, Ev.appM, Ev.popM, Ev.appC, Ev.popC, Ev.dat, Ev.lst, Ev.lstOf, Ev.seqOf, Ev.isaF, Ev.isaD, Ev.lenR, Ev.allR, Ev.anyR, Ev.boolsOf, Ev.intsOf, Ev.sumR, Ev.absR, Ev.tupleR, Ev.listR, Ev.reprR, Ev.intR, Ev.divmodR, Ev.min2R, Ev.max2R, Ev.mulR, Ev.addR, Ev.subF, Ev.modF, Ev.divF, Ev.powF, Ev.i2, Ev.i2c, Ev.ixF, Ev.ixR, Ev.partM, Ev.cutF, Ev.cutR, Ev.inF, Ev.inR', Ev.dict1V, Ev.bi2, Ev.ca, Ev.negR, Ev.dKey, Ev.dKeys, Ev.truth, Ev.truM, Ev.bM, Ev.isNone, Ev.starM, Ev.sortSetR, PyData.isTuple, PyData.isInt, PyData.isBool, PyData.isStr, PyData.isList, PyData.isDict, PySem.sizeLine_eq, cond, h1, h2', hWne]
end K44
set_option maxHeartbeats 1000000
namespace K44
open PySem Ev Way
/-! ### a draw -/
theorem take_ok {n : Nat} {c : C} {z : Int} (hc : PoolOk n c) (hn : n < 1000000) (h0 : 0 < z) (h1 : z < 1000000) :
    ∃ d c', p__law_take [.c c, .d (.int z)] = .ok (.d (.int d)) [.c c'] ∧ PoolOk (n + 1) c' ∧ 0 ≤ d ∧ d < z := by
  obtain ⟨a, m, q, rfl, ha, hm, hm2, hq, hqn⟩ := hc
  by_cases hpos : 0 < a
  · refine ⟨a % z, poolC (a / z) m q, ?_, ⟨a / z, m, q, rfl, Int.ediv_nonneg ha (by omega), hm, hm2, hq, by omega⟩, Int.emod_nonneg _ (by omega), Int.emod_lt_of_pos _ h0⟩
    refine runD_rt (env := [some (.c (poolC (a / z) m q)), some (.d (.int z)), some (.d (.int (a % z))), none]) (r := .d (.int (a % z))) ?_ rfl rfl
    show f__law_take [some (.c (poolC a m q)), some (.d (.int z)), none, none] = _
    unfold f__law_take
    have hz2 : 0 < z ∧ z.natAbs < 1073741824 := ⟨h0, by omega⟩
    have hu := unpS_ok (gd := [0]) (t := .t [(.s (vVar 0) (vC (.int 0))), (.n 2)]) (f := M.bind (argsV [(bi2 (vVar 0) (vC (.int 0)) ixF), (vVar 1)]) (un2 divmodR)) (env := [some (.c (poolC a m q)), some (.d (.int z)), none, none]) (d := .tuple [.int (a / z), .int (a % z)]) (env1 := [some (.c (poolC a m q)), some (.d (.int z)), none, none]) (env2 := [some (.c (poolC (a / z) m q)), some (.d (.int z)), some (.d (.int (a % z))), none])
      (by simp [Ev.runD, Ev.startE, Ev.outsOf, Ev.retR, Ev.isN, Ev.notN, Ev.chainF, Ev.callY, Ev.permL, Ev.prep, Ev.prep1, Ev.asD, Ev.asDs, Ev.frzI, Ev.rdRs, Ev.rdR, Ev.lentP, Ev.setAllE, Ev.noB, Ev.argI, Ev.seqI, Ev.forS, Ev.unpS, Ev.setS, Ev.settle, Ev.storeM, Ev.putI, Ev.settles, Ev.storeAll, Ev.asgT, Ev.asgTs, Ev.updC, Ev.setC, Ev.tyM, Ev.tyR, Ev.appM, Ev.popM, Ev.appC, Ev.popC, Ev.dat, Ev.lst, Ev.lstOf, Ev.seqOf, Ev.isaF, Ev.isaD, Ev.lenR, Ev.allR, Ev.anyR, Ev.boolsOf, Ev.intsOf, Ev.sumR, Ev.absR, Ev.tupleR, Ev.listR, Ev.reprR, Ev.intR, Ev.divmodR, Ev.min2R, Ev.max2R, Ev.mulR, Ev.addR, Ev.subF, Ev.modF, Ev.divF, Ev.powF, Ev.i2, Ev.i2c, Ev.ixF, Ev.ixR, Ev.partM, Ev.cutF, Ev.cutR, Ev.inF, Ev.inR', Ev.dict1V, Ev.bi2, Ev.ca, Ev.negR, Ev.dKey, Ev.dKeys, Ev.truth, Ev.truM, Ev.bM, Ev.isNone, Ev.starM, Ev.sortSetR, PyData.isTuple, PyData.isInt, PyData.isBool, PyData.isStr, PyData.isList, PyData.isDict, PySem.sizeLine_eq, cond, poolC, hz2]) (by simp [Ev.runD, Ev.startE, Ev.outsOf, Ev.retR, Ev.isN, Ev.notN, Ev.chainF, Ev.callY, Ev.permL, Ev.prep, Ev.prep1, Ev.asD, Ev.asDs, Ev.frzI, Ev.rdRs, Ev.rdR, Ev.lentP, Ev.setAllE, Ev.noB, Ev.argI, Ev.seqI, Ev.forS, Ev.unpS, Ev.setS, Ev.settle, Ev.storeM, Ev.putI, Ev.settles, Ev.storeAll, Ev.asgT, Ev.asgTs, Ev.updC, Ev.setC, Ev.tyM, Ev.tyR, Ev.appM, Ev.popM, Ev.appC, Ev.popC, Ev.dat, Ev.lst, Ev.lstOf, Ev.seqOf, Ev.isaF, Ev.isaD, Ev.lenR, Ev.allR, Ev.anyR, Ev.boolsOf, Ev.intsOf, Ev.sumR, Ev.absR, Ev.tupleR, Ev.listR, Ev.reprR, Ev.intR, Ev.divmodR, Ev.min2R, Ev.max2R, Ev.mulR, Ev.addR, Ev.subF, Ev.modF, Ev.divF, Ev.powF, Ev.i2, Ev.i2c, Ev.ixF, Ev.ixR, Ev.partM, Ev.cutF, Ev.cutR, Ev.inF, Ev.inR', Ev.dict1V, Ev.bi2, Ev.ca, Ev.negR, Ev.dKey, Ev.dKeys, Ev.truth, Ev.truM, Ev.bM, Ev.isNone, Ev.starM, Ev.sortSetR, PyData.isTuple, PyData.isInt, PyData.isBool, PyData.isStr, PyData.isList, PyData.isDict, PySem.sizeLine_eq, cond, poolC, L2.ixN])
    have ht : decide (0 < a) = true := decide_eq_true hpos
    have hT : vB (bi2 (bi2 (vVar 0) (vC (.int 0)) ixF) (vC (.int 0)) (look2 (ordR fun d e => PySem.W.dataLt e d))) [some (.c (poolC a m q)), some (.d (.int z)), none, none] = .ok true [some (.c (poolC a m q)), some (.d (.int z)), none, none] := by
      simp [Ev.runD, Ev.startE, Ev.outsOf, Ev.retR, Ev.isN, Ev.notN, Ev.chainF, Ev.callY, Ev.permL, Ev.prep, Ev.prep1, Ev.asD, Ev.asDs, Ev.frzI, Ev.rdRs, Ev.rdR, Ev.lentP, Ev.setAllE, Ev.noB, Ev.argI, Ev.seqI, Ev.forS, Ev.unpS, Ev.setS, Ev.settle, Ev.storeM, Ev.putI, Ev.settles, Ev.storeAll, Ev.asgT, Ev.asgTs, Ev.updC, Ev.setC, Ev.tyM, Ev.tyR, Ev.appM, Ev.popM, Ev.appC, Ev.popC, Ev.dat, Ev.lst, Ev.lstOf, Ev.seqOf, Ev.isaF, Ev.isaD, Ev.lenR, Ev.allR, Ev.anyR, Ev.boolsOf, Ev.intsOf, Ev.sumR, Ev.absR, Ev.tupleR, Ev.listR, Ev.reprR, Ev.intR, Ev.divmodR, Ev.min2R, Ev.max2R, Ev.mulR, Ev.addR, Ev.subF, Ev.modF, Ev.divF, Ev.powF, Ev.i2, Ev.i2c, Ev.ixF, Ev.ixR, Ev.partM, Ev.cutF, Ev.cutR, Ev.inF, Ev.inR', Ev.dict1V, Ev.bi2, Ev.ca, Ev.negR, Ev.dKey, Ev.dKeys, Ev.truth, Ev.truM, Ev.bM, Ev.isNone, Ev.starM, Ev.sortSetR, PyData.isTuple, PyData.isInt, PyData.isBool, PyData.isStr, PyData.isList, PyData.isDict, PySem.sizeLine_eq, cond, poolC, ht]
    refine seqS_rt ?_
    rw [ifS_eq, hT]
    simp only
    rw [seqS_nx hu]
    simp
  · have e0 : a = 0 := by omega
    subst e0
    let s := (m + 28657 * (q + 1)).fmod 2147483399
    have hs0 : 0 ≤ s := fm_lo _ (by omega)
    have hs1 : s < 2147483399 := fm_hi _ (by omega)
    have hv0 : 0 ≤ s.fmod 5003 := fm_lo _ (by omega)
    have hv1 : s.fmod 5003 < 5003 := fm_hi _ (by omega)
    let m' := (s * (s.fmod 5003 + 48271) + 17 * (q + 1)).fmod 2147483399
    have hm0 : 0 ≤ m' := fm_lo _ (by omega)
    have hm1 : m' < 2147483399 := fm_hi _ (by omega)
    refine ⟨(m' / 613).fmod z, poolC 0 m' (q + 1), ?_, ⟨0, m', q + 1, rfl, by omega, hm0, hm1, by omega, by omega⟩, fm_lo _ h0, fm_hi _ h0⟩
    refine runD_rt (env := [some (.c (poolC 0 m' (q + 1))), some (.d (.int z)), none, some (.d (.int s))]) (r := .d (.int ((m' / 613).fmod z))) ?_ rfl rfl
    show f__law_take [some (.c (poolC 0 m q)), some (.d (.int z)), none, none] = _
    have e1 := mul_ok (i := 28657) (j := q + 1) (by omega) (by omega) (by omega) (by omega)
    have e2 := mul_ok (i := s) (j := s.fmod 5003 + 48271) (by omega) (by omega) (by omega) (by omega)
    have e3 := mul_ok (i := 17) (j := q + 1) (by omega) (by omega) (by omega) (by omega)
    have hz : z ≠ 0 := by omega
    have hl : Nat.log2 613 < 9000 := by decide
    unfold f__law_take
    rw [seqS_nx (env1 := [some (.c (poolC 0 m q)), some (.d (.int z)), none, none]) (by simp [Ev.runD, Ev.startE, Ev.outsOf, Ev.retR, Ev.isN, Ev.notN, Ev.chainF, Ev.callY, Ev.permL, Ev.prep, Ev.prep1, Ev.asD, Ev.asDs, Ev.frzI, Ev.rdRs, Ev.rdR, Ev.lentP, Ev.setAllE, Ev.noB, Ev.argI, Ev.seqI, Ev.forS, Ev.setS, Ev.settle, Ev.storeM, Ev.putI, Ev.settles, Ev.storeAll, Ev.asgT, Ev.asgTs, Ev.updC, Ev.setC, Ev.tyM, Ev.tyR, Ev.appM, Ev.popM, Ev.appC, Ev.popC, Ev.dat, Ev.lst, Ev.lstOf, Ev.seqOf, Ev.isaF, Ev.isaD, Ev.lenR, Ev.allR, Ev.anyR, Ev.boolsOf, Ev.intsOf, Ev.sumR, Ev.absR, Ev.tupleR, Ev.listR, Ev.reprR, Ev.intR, Ev.divmodR, Ev.min2R, Ev.max2R, Ev.mulR, Ev.addR, Ev.subF, Ev.modF, Ev.divF, Ev.powF, Ev.i2, Ev.i2c, Ev.ixF, Ev.ixR, Ev.partM, Ev.cutF, Ev.cutR, Ev.inF, Ev.inR', Ev.dict1V, Ev.bi2, Ev.ca, Ev.negR, Ev.dKey, Ev.dKeys, Ev.truth, Ev.truM, Ev.bM, Ev.isNone, Ev.starM, Ev.sortSetR, PyData.isTuple, PyData.isInt, PyData.isBool, PyData.isStr, PyData.isList, PyData.isDict, PySem.sizeLine_eq, cond, poolC])]
    rw [seqS_nx (env1 := [some (.c (poolC 0 m (q + 1))), some (.d (.int z)), none, none]) (by simp [Ev.runD, Ev.startE, Ev.outsOf, Ev.retR, Ev.isN, Ev.notN, Ev.chainF, Ev.callY, Ev.permL, Ev.prep, Ev.prep1, Ev.asD, Ev.asDs, Ev.frzI, Ev.rdRs, Ev.rdR, Ev.lentP, Ev.setAllE, Ev.noB, Ev.argI, Ev.seqI, Ev.forS, Ev.unpS, Ev.setS, Ev.settle, Ev.storeM, Ev.putI, Ev.settles, Ev.storeAll, Ev.asgT, Ev.asgTs, Ev.updC, Ev.setC, Ev.tyM, Ev.tyR, Ev.appM, Ev.popM, Ev.appC, Ev.popC, Ev.dat, Ev.lst, Ev.lstOf, Ev.seqOf, Ev.isaF, Ev.isaD, Ev.lenR, Ev.allR, Ev.anyR, Ev.boolsOf, Ev.intsOf, Ev.sumR, Ev.absR, Ev.tupleR, Ev.listR, Ev.reprR, Ev.intR, Ev.divmodR, Ev.min2R, Ev.max2R, Ev.mulR, Ev.addR, Ev.subF, Ev.modF, Ev.divF, Ev.powF, Ev.i2, Ev.i2c, Ev.ixF, Ev.ixR, Ev.partM, Ev.cutF, Ev.cutR, Ev.inF, Ev.inR', Ev.dict1V, Ev.bi2, Ev.ca, Ev.negR, Ev.dKey, Ev.dKeys, Ev.truth, Ev.truM, Ev.bM, Ev.isNone, Ev.starM, Ev.sortSetR, PyData.isTuple, PyData.isInt, PyData.isBool, PyData.isStr, PyData.isList, PyData.isDict, PySem.sizeLine_eq, cond, poolC, L2.ixN])]
    rw [seqS_nx (env1 := [some (.c (poolC 0 m (q + 1))), some (.d (.int z)), none, some (.d (.int s))]) (by simp [Ev.runD, Ev.startE, Ev.outsOf, Ev.retR, Ev.isN, Ev.notN, Ev.chainF, Ev.callY, Ev.permL, Ev.prep, Ev.prep1, Ev.asD, Ev.asDs, Ev.frzI, Ev.rdRs, Ev.rdR, Ev.lentP, Ev.setAllE, Ev.noB, Ev.argI, Ev.seqI, Ev.forS, Ev.unpS, Ev.setS, Ev.settle, Ev.storeM, Ev.putI, Ev.settles, Ev.storeAll, Ev.asgT, Ev.asgTs, Ev.updC, Ev.setC, Ev.tyM, Ev.tyR, Ev.appM, Ev.popM, Ev.appC, Ev.popC, Ev.dat, Ev.lst, Ev.lstOf, Ev.seqOf, Ev.isaF, Ev.isaD, Ev.lenR, Ev.allR, Ev.anyR, Ev.boolsOf, Ev.intsOf, Ev.sumR, Ev.absR, Ev.tupleR, Ev.listR, Ev.reprR, Ev.intR, Ev.divmodR, Ev.min2R, Ev.max2R, Ev.addR, Ev.subF, Ev.modF, Ev.divF, Ev.powF, Ev.i2, Ev.i2c, Ev.ixF, Ev.ixR, Ev.partM, Ev.cutF, Ev.cutR, Ev.inF, Ev.inR', Ev.dict1V, Ev.bi2, Ev.ca, Ev.negR, Ev.dKey, Ev.dKeys, Ev.truth, Ev.truM, Ev.bM, Ev.isNone, Ev.starM, Ev.sortSetR, PyData.isTuple, PyData.isInt, PyData.isBool, PyData.isStr, PyData.isList, PyData.isDict, PySem.sizeLine_eq, cond, poolC, e1, s])]
    rw [seqS_nx (env1 := [some (.c (poolC 0 m' (q + 1))), some (.d (.int z)), none, some (.d (.int s))]) (by simp [Ev.runD, Ev.startE, Ev.outsOf, Ev.retR, Ev.isN, Ev.notN, Ev.chainF, Ev.callY, Ev.permL, Ev.prep, Ev.prep1, Ev.asD, Ev.asDs, Ev.frzI, Ev.rdRs, Ev.rdR, Ev.lentP, Ev.setAllE, Ev.noB, Ev.argI, Ev.seqI, Ev.forS, Ev.unpS, Ev.setS, Ev.settle, Ev.storeM, Ev.putI, Ev.settles, Ev.storeAll, Ev.asgT, Ev.asgTs, Ev.updC, Ev.setC, Ev.tyM, Ev.tyR, Ev.appM, Ev.popM, Ev.appC, Ev.popC, Ev.dat, Ev.lst, Ev.lstOf, Ev.seqOf, Ev.isaF, Ev.isaD, Ev.lenR, Ev.allR, Ev.anyR, Ev.boolsOf, Ev.intsOf, Ev.sumR, Ev.absR, Ev.tupleR, Ev.listR, Ev.reprR, Ev.intR, Ev.divmodR, Ev.min2R, Ev.max2R, Ev.addR, Ev.subF, Ev.modF, Ev.divF, Ev.powF, Ev.i2, Ev.i2c, Ev.ixF, Ev.ixR, Ev.partM, Ev.cutF, Ev.cutR, Ev.inF, Ev.inR', Ev.dict1V, Ev.bi2, Ev.ca, Ev.negR, Ev.dKey, Ev.dKeys, Ev.truth, Ev.truM, Ev.bM, Ev.isNone, Ev.starM, Ev.sortSetR, PyData.isTuple, PyData.isInt, PyData.isBool, PyData.isStr, PyData.isList, PyData.isDict, PySem.sizeLine_eq, cond, poolC, e2, e3, L2.ixN, m'])]
    simp [Ev.runD, Ev.startE, Ev.outsOf, Ev.retR, Ev.isN, Ev.notN, Ev.chainF, Ev.callY, Ev.permL, Ev.prep, Ev.prep1, Ev.asD, Ev.asDs, Ev.frzI, Ev.rdRs, Ev.rdR, Ev.lentP, Ev.setAllE, Ev.noB, Ev.argI, Ev.seqI, Ev.forS, Ev.unpS, Ev.setS, Ev.settle, Ev.storeM, Ev.putI, Ev.settles, Ev.storeAll, Ev.asgT, Ev.asgTs, Ev.updC, Ev.setC, Ev.tyM, Ev.tyR, Ev.appM, Ev.popM, Ev.appC, Ev.popC, Ev.dat, Ev.lst, Ev.lstOf, Ev.seqOf, Ev.isaF, Ev.isaD, Ev.lenR, Ev.allR, Ev.anyR, Ev.boolsOf, Ev.intsOf, Ev.sumR, Ev.absR, Ev.tupleR, Ev.listR, Ev.reprR, Ev.intR, Ev.divmodR, Ev.min2R, Ev.max2R, Ev.addR, Ev.subF, Ev.modF, Ev.divF, Ev.powF, Ev.i2, Ev.i2c, Ev.ixF, Ev.ixR, Ev.partM, Ev.cutF, Ev.cutR, Ev.inF, Ev.inR', Ev.dict1V, Ev.bi2, Ev.ca, Ev.negR, Ev.dKey, Ev.dKeys, Ev.truth, Ev.truM, Ev.bM, Ev.isNone, Ev.starM, Ev.sortSetR, PyData.isTuple, PyData.isInt, PyData.isBool, PyData.isStr, PyData.isList, PyData.isDict, PySem.sizeLine_eq, cond, poolC, hz, hl]
/-- one of some things -/
theorem of_ok {n : Nat} {c : C} {xs : List PyData} (hc : PoolOk n c) (hn : n < 1000000) (h0 : 0 < xs.length) (h1 : xs.length < 1000000) :
    ∃ d c', p__law_of [.c c, .d (.list xs)] = .ok (.d d) [.c c'] ∧ PoolOk (n + 1) c' ∧ d ∈ xs := by
  obtain ⟨d, c', e1, e2, e3, e4⟩ := take_ok (z := (xs.length : Nat)) hc hn (by omega) (by omega)
  have hlt : d.toNat < xs.length := by omega
  have hat : L2.atI xs d = some xs[d.toNat] := by
    have := atI_nat hlt
    rw [List.getElem?_eq_getElem hlt] at this
    have e : ((d.toNat : Nat) : Int) = d := by omega
    rwa [e] at this
  refine ⟨xs[d.toNat], c', ?_, e2, List.getElem_mem hlt⟩
  unfold p__law_of
  simp [Ev.runD, Ev.startE, Ev.outsOf, Ev.retR, Ev.isN, Ev.notN, Ev.chainF, Ev.callY, Ev.permL, Ev.prep, Ev.prep1, Ev.asD, Ev.asDs, Ev.frzI, Ev.rdRs, Ev.rdR, Ev.lentP, Ev.setAllE, Ev.noB, Ev.argI, Ev.seqI, Ev.forS, Ev.unpS, Ev.setS, Ev.settle, Ev.storeM, Ev.putI, Ev.settles, Ev.storeAll, Ev.asgT, Ev.asgTs, Ev.updC, Ev.setC, Ev.tyM, Ev.tyR, Ev.appM, Ev.popM, Ev.appC, Ev.popC, Ev.dat, Ev.lst, Ev.lstOf, Ev.seqOf, Ev.isaF, Ev.isaD, Ev.lenR, Ev.allR, Ev.anyR, Ev.boolsOf, Ev.intsOf, Ev.sumR, Ev.absR, Ev.tupleR, Ev.listR, Ev.reprR, Ev.intR, Ev.divmodR, Ev.min2R, Ev.max2R, Ev.mulR, Ev.addR, Ev.subF, Ev.modF, Ev.divF, Ev.powF, Ev.i2, Ev.i2c, Ev.ixF, Ev.ixR, Ev.partM, Ev.cutF, Ev.cutR, Ev.inF, Ev.inR', Ev.dict1V, Ev.bi2, Ev.ca, Ev.negR, Ev.dKey, Ev.dKeys, Ev.truth, Ev.truM, Ev.bM, Ev.isNone, Ev.starM, Ev.sortSetR, PyData.isTuple, PyData.isInt, PyData.isBool, PyData.isStr, PyData.isList, PyData.isDict, PySem.sizeLine_eq, cond, f__law_of, e1, hat]
end K44
set_option maxHeartbeats 1000000
namespace K44
open PySem Ev Way
/-! ### a drawn web -/
def tkD (m : Mt) : List L2.Key × PyData := ([.inl m.1, .inl m.2.1, .inl m.2.2], .bool true)
theorem keysT_ms : ∀ fd : List Mt, keysT (fd.map tkD) = fd.map mD
  | [] => rfl
  | m :: fd => by
    have := keysT_ms fd
    simp only [keysT, List.map_cons, List.map_map] at this ⊢
    rw [this]; rfl
theorem tk_inj {m : Mt} {n : Mt} : (tkD m).1 = (tkD n).1 ↔ m = n := by
  obtain ⟨a, b, c⟩ := m
  obtain ⟨a', b', c'⟩ := n
  simp [tkD]
theorem any_tk (m : Mt) : ∀ fd : List Mt, ((fd.map tkD).any fun q => decide (q.1 = (tkD m).1)) = decide (m ∈ fd)
  | [] => by simp
  | q :: fd => by
    have ih := any_tk m fd
    rw [List.map_cons, List.any_cons, ih, Bool.eq_iff_iff]
    have e := tk_inj (m := q) (n := m)
    rw [Bool.or_eq_true, decide_eq_true_eq, decide_eq_true_eq, decide_eq_true_eq, List.mem_cons, e]
    constructor
    · rintro (h | h)
      · exact .inl h.symm
      · exact .inr h
    · rintro (h | h)
      · exact .inl h.symm
      · exact .inr h
def addT (fd : List Mt) (m : Mt) : List Mt := if m ∈ fd then fd else fd ++ [m]
theorem put_tk (m : Mt) (fd : List Mt) : putD (fd.map tkD) (tkD m).1 (.bool true) = (addT fd m).map tkD := by
  unfold putD addT
  rw [any_tk]
  by_cases h : m ∈ fd
  · rw [decide_eq_true h, if_pos rfl, if_pos h]
    rw [List.map_map]
    refine List.map_congr_left fun q _ => ?_
    simp only [Function.comp]
    split
    · rfl
    · rfl
  · rw [decide_eq_false h, if_neg (by simp), if_neg h, List.map_append]
    rfl
theorem put_tk' (t a b : Int) (fd : List Mt) : putD (fd.map tkD) [.inl t, .inl a, .inl b] (.bool true) = (addT fd (t, a, b)).map tkD := put_tk (t, a, b) fd
theorem addT_ok {P : Int} {fd : List Mt} {m : Mt} (h : fd.Nodup ∧ ∀ m ∈ fd, Fit P m) (hm : Fit P m) : (addT fd m).Nodup ∧ (∀ q ∈ addT fd m, Fit P q) ∧ (addT fd m).length ≤ fd.length + 1 := by
  by_cases hn : m ∈ fd
  · have e : addT fd m = fd := if_pos hn
    rw [e]
    exact ⟨h.1, h.2, by omega⟩
  · have e : addT fd m = fd ++ [m] := if_neg hn
    rw [e]
    refine ⟨?_, fun q hq => ?_, by simp⟩
    · rw [List.nodup_append]
      refine ⟨h.1, by simp, fun a ha b hb e2 => ?_⟩
      simp at hb
      rw [hb] at e2
      rw [e2] at ha
      exact hn ha
    · rcases List.mem_append.mp hq with hq | hq
      · exact h.2 q hq
      · simp at hq; rw [hq]; exact hm
theorem other_ne {P one d : Int} (h1 : 0 ≤ one) (h2 : one < P) (h3 : 0 ≤ d) (h4 : d < P - 1) : (one + 1 + d).fmod P ≠ one ∧ 0 ≤ (one + 1 + d).fmod P ∧ (one + 1 + d).fmod P < P := by
  refine ⟨fun e => ?_, fm_lo _ (by omega), fm_hi _ (by omega)⟩
  rw [Int.fmod_eq_emod_of_nonneg _ (by omega)] at e
  by_cases hl : one + 1 + d < P
  · rw [Int.emod_eq_of_lt (by omega) hl] at e; omega
  · have : (one + 1 + d) % P = one + 1 + d - P := by
      rw [← Int.sub_emod_right, Int.emod_eq_of_lt (by omega) (by omega)]
    omega
theorem b_web {n : Nat} {c : C} {P wide : Int} {fd : List Mt} {r1 r2 r6 r7 r8 : Option R} (hc : PoolOk n c) (hn : n < 900000) (hP : 2 ≤ P) (hP6 : P ≤ 6) (hw : 1 ≤ wide) (hw2 : wide ≤ 20) (hf : fd.Nodup ∧ ∀ m ∈ fd, Fit P m) (hl : fd.length < 1000) :
    ∃ (c' : C) (fd' : List Mt) (r7' r8' : Option R), b__law_web_1 [some (.c c), r1, r2, some (.d (.int P)), some (.c (.t (fd.map tkD))), some (.d (.int wide)), r6, r7, r8]
      = .ok .nx [some (.c c'), r1, r2, some (.d (.int P)), some (.c (.t (fd'.map tkD))), some (.d (.int wide)), r6, r7', r8'] ∧ PoolOk (n + 3) c' ∧ (fd'.Nodup ∧ ∀ m ∈ fd', Fit P m) ∧ fd'.length ≤ fd.length + 1 := by
  obtain ⟨one, c1, e1, p1, a1, a2⟩ := take_ok (z := P) hc (by omega) (by omega) (by omega)
  obtain ⟨d, c2, e2, p2, b1, b2⟩ := take_ok (z := P - 1) p1 (by omega) (by omega) (by omega)
  obtain ⟨t, c3, e3, p3, t1, t2⟩ := take_ok (z := wide) p2 (by omega) (by omega) (by omega)
  obtain ⟨o1, o2, o3⟩ := other_ne a1 a2 b1 b2
  generalize ho : (one + 1 + d).fmod P = other at o1 o2 o3
  have hfit : Fit P (1 + t, (if other < one then other else one), (if other > one then other else one)) := by
    refine ⟨?_, ?_, ?_, ?_, ?_⟩
    · simp only; omega
    · simp only; omega
    · simp only; split <;> omega
    · simp only; split <;> split <;> omega
    · simp only; split <;> omega
  obtain ⟨q1, q2, q3⟩ := addT_ok hf hfit
  refine ⟨c3, _, some (.d (.int one)), some (.d (.int other)), ?_, p3, ⟨q1, q2⟩, q3⟩
  have hPn : P ≠ 0 := by omega
  have hput := put_tk' (1 + t) (if other < one then other else one) (if other > one then other else one) fd
  have hz : fd.length < 16777216 := by omega
  unfold b__law_web_1
  rw [seqS_nx (env1 := [some (.c c1), r1, r2, some (.d (.int P)), some (.c (.t (fd.map tkD))), some (.d (.int wide)), r6, some (.d (.int one)), r8]) (by simp [Ev.runD, Ev.startE, Ev.outsOf, Ev.retR, Ev.isN, Ev.notN, Ev.chainF, Ev.callY, Ev.permL, Ev.prep, Ev.prep1, Ev.asD, Ev.asDs, Ev.frzI, Ev.rdRs, Ev.rdR, Ev.lentP, Ev.setAllE, Ev.noB, Ev.argI, Ev.seqI, Ev.forS, Ev.unpS, Ev.setS, Ev.settle, Ev.storeM, Ev.putI, Ev.settles, Ev.storeAll, Ev.asgT, Ev.asgTs, Ev.updC, Ev.setC, Ev.tyM, Ev.tyR, Ev.appM, Ev.popM, Ev.appC, Ev.popC, Ev.dat, Ev.lst, Ev.lstOf, Ev.seqOf, Ev.isaF, Ev.isaD, Ev.lenR, Ev.allR, Ev.anyR, Ev.boolsOf, Ev.intsOf, Ev.sumR, Ev.absR, Ev.tupleR, Ev.listR, Ev.reprR, Ev.intR, Ev.divmodR, Ev.min2R, Ev.max2R, Ev.mulR, Ev.addR, Ev.subF, Ev.modF, Ev.divF, Ev.powF, Ev.i2, Ev.i2c, Ev.ixF, Ev.ixR, Ev.partM, Ev.cutF, Ev.cutR, Ev.inF, Ev.inR', Ev.dict1V, Ev.bi2, Ev.ca, Ev.negR, Ev.dKey, Ev.dKeys, Ev.truth, Ev.truM, Ev.bM, Ev.isNone, Ev.starM, Ev.sortSetR, PyData.isTuple, PyData.isInt, PyData.isBool, PyData.isStr, PyData.isList, PyData.isDict, PySem.sizeLine_eq, cond, e1])]
  rw [seqS_nx (env1 := [some (.c c2), r1, r2, some (.d (.int P)), some (.c (.t (fd.map tkD))), some (.d (.int wide)), r6, some (.d (.int one)), some (.d (.int other))]) (by simp [Ev.runD, Ev.startE, Ev.outsOf, Ev.retR, Ev.isN, Ev.notN, Ev.chainF, Ev.callY, Ev.permL, Ev.prep, Ev.prep1, Ev.asD, Ev.asDs, Ev.frzI, Ev.rdRs, Ev.rdR, Ev.lentP, Ev.setAllE, Ev.noB, Ev.argI, Ev.seqI, Ev.forS, Ev.unpS, Ev.setS, Ev.settle, Ev.storeM, Ev.putI, Ev.settles, Ev.storeAll, Ev.asgT, Ev.asgTs, Ev.updC, Ev.setC, Ev.tyM, Ev.tyR, Ev.appM, Ev.popM, Ev.appC, Ev.popC, Ev.dat, Ev.lst, Ev.lstOf, Ev.seqOf, Ev.isaF, Ev.isaD, Ev.lenR, Ev.allR, Ev.anyR, Ev.boolsOf, Ev.intsOf, Ev.sumR, Ev.absR, Ev.tupleR, Ev.listR, Ev.reprR, Ev.intR, Ev.divmodR, Ev.min2R, Ev.max2R, Ev.mulR, Ev.addR, Ev.subF, Ev.modF, Ev.divF, Ev.powF, Ev.i2, Ev.i2c, Ev.ixF, Ev.ixR, Ev.partM, Ev.cutF, Ev.cutR, Ev.inF, Ev.inR', Ev.dict1V, Ev.bi2, Ev.ca, Ev.negR, Ev.dKey, Ev.dKeys, Ev.truth, Ev.truM, Ev.bM, Ev.isNone, Ev.starM, Ev.sortSetR, PyData.isTuple, PyData.isInt, PyData.isBool, PyData.isStr, PyData.isList, PyData.isDict, PySem.sizeLine_eq, cond, e2, hPn, ho])]
  simp [Ev.runD, Ev.startE, Ev.outsOf, Ev.retR, Ev.isN, Ev.notN, Ev.chainF, Ev.callY, Ev.permL, Ev.prep, Ev.prep1, Ev.asD, Ev.asDs, Ev.frzI, Ev.rdRs, Ev.rdR, Ev.lentP, Ev.setAllE, Ev.noB, Ev.argI, Ev.seqI, Ev.forS, Ev.unpS, Ev.setS, Ev.settle, Ev.storeM, Ev.putI, Ev.settles, Ev.storeAll, Ev.asgT, Ev.asgTs, Ev.updC, Ev.setC, Ev.tyM, Ev.tyR, Ev.appM, Ev.popM, Ev.appC, Ev.popC, Ev.dat, Ev.lst, Ev.lstOf, Ev.seqOf, Ev.isaF, Ev.isaD, Ev.lenR, Ev.allR, Ev.anyR, Ev.boolsOf, Ev.intsOf, Ev.sumR, Ev.absR, Ev.tupleR, Ev.listR, Ev.reprR, Ev.intR, Ev.divmodR, Ev.min2R, Ev.max2R, Ev.mulR, Ev.addR, Ev.subF, Ev.modF, Ev.divF, Ev.powF, Ev.i2, Ev.i2c, Ev.ixF, Ev.ixR, Ev.partM, Ev.cutF, Ev.cutR, Ev.inF, Ev.inR', Ev.dict1V, Ev.bi2, Ev.ca, Ev.negR, Ev.dKey, Ev.dKeys, Ev.truth, Ev.truM, Ev.bM, Ev.isNone, Ev.starM, Ev.sortSetR, PyData.isTuple, PyData.isInt, PyData.isBool, PyData.isStr, PyData.isList, PyData.isDict, PySem.sizeLine_eq, cond, e3, hput, hz]
end K44
set_option maxHeartbeats 1000000
namespace K44
open PySem Ev Way
theorem mlt_irr (m : Mt) : ¬ mlt m m := by unfold mlt; omega
theorem mlt_tr (a b c : Mt) (h1 : mlt a b) (h2 : mlt b c) : mlt a c := by unfold mlt at *; omega
theorem mlt_tot (a b : Mt) : mlt a b ∨ a = b ∨ mlt b a := by
  obtain ⟨t, x, y⟩ := a
  obtain ⟨t', x', y'⟩ := b
  unfold mlt
  simp only [Prod.mk.injEq]
  omega
/-- sorted meetings -/
def sortM (fd : List Mt) : List Mt := fd.mergeSort fun a b => !PySem.W.dataLt (mD b) (mD a)
theorem sort_ms (fd : List Mt) : sortD (fd.map mD) = (sortM fd).map mD := sortD_map (lt := fun a b => PySem.W.dataLt (mD a) (mD b)) fun _ _ _ _ => rfl
theorem mem_sortM {fd : List Mt} {m : Mt} : m ∈ sortM fd ↔ m ∈ fd := mem_ms
theorem len_sortM (fd : List Mt) : (sortM fd).length = fd.length := List.length_mergeSort fd
theorem pw_sortM {fd : List Mt} (h : fd.Nodup) : (sortM fd).Pairwise mlt := by
  refine (ms_pw (lt := fun a b => PySem.W.dataLt (mD a) (mD b)) (fun a b h => ?_) (fun a b c h1 h2 => ?_) (fun a b => ?_) h).imp fun {a b} h => (dlt_m a b).mp h
  · cases hb : PySem.W.dataLt (mD b) (mD a) with
    | false => rfl
    | true => exact absurd (mlt_tr _ _ _ ((dlt_m a b).mp h) ((dlt_m b a).mp hb)) (mlt_irr a)
  · exact (dlt_m a c).mpr (mlt_tr _ _ _ ((dlt_m a b).mp h1) ((dlt_m b c).mp h2))
  · rcases mlt_tot a b with h | h | h
    · exact .inl ((dlt_m a b).mpr h)
    · exact .inr (.inl h)
    · exact .inr (.inr ((dlt_m b a).mpr h))
theorem sortOk_ms (fd : List Mt) : sortOk (fd.map mD) = true := by
  unfold sortOk alikeOk
  simp [isTupCons, mD, PyData.depth, PyData.depthAll, PySem.W.alike, PySem.W.alikeAll]
theorem kind_of {d : PyData} (h : d ∈ [PyData.str "strict", .str "loose"]) : ∃ loose, d = kindD loose := by
  simp only [List.mem_cons, List.not_mem_nil, or_false] at h
  rcases h with rfl | rfl
  · exact ⟨false, rfl⟩
  · exact ⟨true, rfl⟩
theorem wide_of {d : PyData} (h : d ∈ [PyData.int 2, .int 4, .int 7, .int 20]) : ∃ w : Int, d = .int w ∧ 1 ≤ w ∧ w ≤ 20 := by
  simp only [List.mem_cons, List.not_mem_nil, or_false] at h
  rcases h with rfl | rfl | rfl | rfl
  · exact ⟨2, rfl, by omega, by omega⟩
  · exact ⟨4, rfl, by omega, by omega⟩
  · exact ⟨7, rfl, by omega, by omega⟩
  · exact ⟨20, rfl, by omega, by omega⟩
theorem web_ok {n : Nat} {c : C} {most many : Int} (hc : PoolOk n c) (hn : n < 800000) (hm : 2 ≤ most) (hm6 : most ≤ 6) (hy : 0 ≤ many) (hy2 : many ≤ 12) :
    ∃ (P : Int) (ms : List Mt) (loose : Bool) (c' : C), p__law_web [.c c, .d (.int most), .d (.int many)] = .ok (.t [webD P ms, kindD loose]) [.c c'] ∧ PoolOk (n + 100) c' ∧ 2 ≤ P ∧ P ≤ most ∧ Web P ms ∧ (ms.length : Int) ≤ many := by
  obtain ⟨d, c1, e1, p1, a1, a2⟩ := take_ok (z := most - 1) hc (by omega) (by omega) (by omega)
  obtain ⟨w, c2, e2, p2, w1⟩ := of_ok (xs := [.int 2, .int 4, .int 7, .int 20]) p1 (by omega) (by simp) (by simp)
  obtain ⟨wide, rfl, w2, w3⟩ := wide_of w1
  obtain ⟨cnt, c3, e3, p3, b1, b2⟩ := take_ok (z := many + 1) p2 (by omega) (by omega) (by omega)
  have hP2 : 2 ≤ 2 + d := by omega
  have hPm : 2 + d ≤ most := by omega
  generalize hP : 2 + d = P at hP2 hPm
  obtain ⟨env', g1, c4, fd, o6, o7, o8, rfl, g2, g3, g4⟩ := forL_ix (gd := [0]) (t := .n 6) (f := b__law_web_1)
    (fun i env => ∃ (c' : C) (fd : List Mt) (o6 o7 o8 : Option R), env = [some (.c c'), some (.d (.int most)), some (.d (.int many)), some (.d (.int P)), some (.c (.t (fd.map tkD))), some (.d (.int wide)), o6, o7, o8] ∧ PoolOk (n + 3 + 3 * i) c' ∧ (fd.Nodup ∧ ∀ m ∈ fd, Fit P m) ∧ fd.length ≤ i)
    ((List.range cnt.toNat).map fun k => .int (k : Nat))
    (fun i d hd env hI => by
      obtain ⟨c', fd, o6, o7, o8, rfl, q1, q2, q3⟩ := hI
      have hi : i < cnt.toNat := by
        have := (List.getElem?_eq_some_iff.mp hd).1
        simpa using this
      have hd' : d = .int (i : Nat) := by
        simp [hi] at hd
        exact hd.symm
      subst hd'
      obtain ⟨c2, fd2, r7, r8, hb, z1, z2, z3⟩ := b_web (r1 := some (.d (.int most))) (r2 := some (.d (.int many))) (r6 := some (.d (.int (i : Nat)))) (r7 := o7) (r8 := o8) q1 (by omega) hP2 (by omega) w2 w3 q2 (by omega)
      refine ⟨_, _, ?_, hb, c2, fd2, _, r7, r8, rfl, z1.more (by omega), z2, by omega⟩
      simp [Ev.runD, Ev.startE, Ev.outsOf, Ev.retR, Ev.isN, Ev.notN, Ev.chainF, Ev.callY, Ev.permL, Ev.prep, Ev.prep1, Ev.asD, Ev.asDs, Ev.frzI, Ev.rdRs, Ev.rdR, Ev.lentP, Ev.setAllE, Ev.noB, Ev.argI, Ev.seqI, Ev.forS, Ev.unpS, Ev.setS, Ev.settle, Ev.storeM, Ev.putI, Ev.settles, Ev.storeAll, Ev.asgT, Ev.asgTs, Ev.updC, Ev.setC, Ev.tyM, Ev.tyR, Ev.appM, Ev.popM, Ev.appC, Ev.popC, Ev.dat, Ev.lst, Ev.lstOf, Ev.seqOf, Ev.isaF, Ev.isaD, Ev.lenR, Ev.allR, Ev.anyR, Ev.boolsOf, Ev.intsOf, Ev.sumR, Ev.absR, Ev.tupleR, Ev.listR, Ev.reprR, Ev.intR, Ev.divmodR, Ev.min2R, Ev.max2R, Ev.mulR, Ev.addR, Ev.subF, Ev.modF, Ev.divF, Ev.powF, Ev.i2, Ev.i2c, Ev.ixF, Ev.ixR, Ev.partM, Ev.cutF, Ev.cutR, Ev.inF, Ev.inR', Ev.dict1V, Ev.bi2, Ev.ca, Ev.negR, Ev.dKey, Ev.dKeys, Ev.truth, Ev.truM, Ev.bM, Ev.isNone, Ev.starM, Ev.sortSetR, PyData.isTuple, PyData.isInt, PyData.isBool, PyData.isStr, PyData.isList, PyData.isDict, PySem.sizeLine_eq, cond])
    ((List.range cnt.toNat).map fun k => .int (k : Nat)) 0 rfl [some (.c c3), some (.d (.int most)), some (.d (.int many)), some (.d (.int P)), some (.c (.t (([] : List Mt).map tkD))), some (.d (.int wide)), none, none, none]
    ⟨c3, [], none, none, none, rfl, p3, ⟨by simp, fun m hm => by cases hm⟩, by simp⟩
  rw [List.length_map, List.length_range, Nat.zero_add] at g2 g4
  obtain ⟨kd, c5, e5, p5, k1⟩ := of_ok (xs := [.str "strict", .str "loose"]) g2 (by omega) (by simp) (by simp)
  obtain ⟨loose, rfl⟩ := kind_of k1
  have hlen := len_sortM fd
  refine ⟨P, sortM fd, loose, c5, ?_, p5.more (by omega), hP2, hPm, ⟨fun m hm => g3.2 m (mem_sortM.mp hm), pw_sortM g3.1⟩, by omega⟩
  refine runD_rt (env := [some (.c c5), some (.d (.int most)), some (.d (.int many)), some (.d (.int P)), some (.c (.t (fd.map tkD))), some (.d (.int wide)), o6, o7, o8]) (r := .t [webD P (sortM fd), kindD loose]) ?_ rfl rfl
  show f__law_web [some (.c c), some (.d (.int most)), some (.d (.int many)), none, none, none, none, none, none] = _
  unfold f__law_web
  rw [seqS_nx (env1 := [some (.c c2), some (.d (.int most)), some (.d (.int many)), some (.d (.int P)), some (.c (.t [])), some (.d (.int wide)), none, none, none]) (by simp [Ev.runD, Ev.startE, Ev.outsOf, Ev.retR, Ev.isN, Ev.notN, Ev.chainF, Ev.callY, Ev.permL, Ev.prep, Ev.prep1, Ev.asD, Ev.asDs, Ev.frzI, Ev.rdRs, Ev.rdR, Ev.lentP, Ev.setAllE, Ev.noB, Ev.argI, Ev.seqI, Ev.forS, Ev.unpS, Ev.setS, Ev.settle, Ev.storeM, Ev.putI, Ev.settles, Ev.storeAll, Ev.asgT, Ev.asgTs, Ev.updC, Ev.setC, Ev.tyM, Ev.tyR, Ev.appM, Ev.popM, Ev.appC, Ev.popC, Ev.dat, Ev.lst, Ev.lstOf, Ev.seqOf, Ev.isaF, Ev.isaD, Ev.lenR, Ev.allR, Ev.anyR, Ev.boolsOf, Ev.intsOf, Ev.sumR, Ev.absR, Ev.tupleR, Ev.listR, Ev.reprR, Ev.intR, Ev.divmodR, Ev.min2R, Ev.max2R, Ev.mulR, Ev.addR, Ev.subF, Ev.modF, Ev.divF, Ev.powF, Ev.i2, Ev.i2c, Ev.ixF, Ev.ixR, Ev.partM, Ev.cutF, Ev.cutR, Ev.inF, Ev.inR', Ev.dict1V, Ev.bi2, Ev.ca, Ev.negR, Ev.dKey, Ev.dKeys, Ev.truth, Ev.truM, Ev.bM, Ev.isNone, Ev.starM, Ev.sortSetR, PyData.isTuple, PyData.isInt, PyData.isBool, PyData.isStr, PyData.isList, PyData.isDict, PySem.sizeLine_eq, cond, e1, e2, hP])]
  have hk : argI (argsV [(callM p__law_take [0] [true, false] (argsV [(vVar 0), (bi2 (vVar 2) (vC (.int 1)) (lift2 addR))]))]) rngK1 [some (.c c2), some (.d (.int most)), some (.d (.int many)), some (.d (.int P)), some (.c (.t [])), some (.d (.int wide)), none, none, none] = .ok ((List.range cnt.toNat).map fun k => .int (k : Nat)) [some (.c c3), some (.d (.int most)), some (.d (.int many)), some (.d (.int P)), some (.c (.t [])), some (.d (.int wide)), none, none, none] := by
    refine argI_ok (rs := [.d (.int cnt)]) (ds := [.int cnt]) (env1 := [some (.c c3), some (.d (.int most)), some (.d (.int many)), some (.d (.int P)), some (.c (.t [])), some (.d (.int wide)), none, none, none]) (by simp [Ev.runD, Ev.startE, Ev.outsOf, Ev.retR, Ev.isN, Ev.notN, Ev.chainF, Ev.callY, Ev.permL, Ev.prep, Ev.prep1, Ev.asD, Ev.asDs, Ev.frzI, Ev.rdRs, Ev.rdR, Ev.lentP, Ev.setAllE, Ev.noB, Ev.argI, Ev.seqI, Ev.forS, Ev.unpS, Ev.setS, Ev.settle, Ev.storeM, Ev.putI, Ev.settles, Ev.storeAll, Ev.asgT, Ev.asgTs, Ev.updC, Ev.setC, Ev.tyM, Ev.tyR, Ev.appM, Ev.popM, Ev.appC, Ev.popC, Ev.dat, Ev.lst, Ev.lstOf, Ev.seqOf, Ev.isaF, Ev.isaD, Ev.lenR, Ev.allR, Ev.anyR, Ev.boolsOf, Ev.intsOf, Ev.sumR, Ev.absR, Ev.tupleR, Ev.listR, Ev.reprR, Ev.intR, Ev.divmodR, Ev.min2R, Ev.max2R, Ev.mulR, Ev.addR, Ev.subF, Ev.modF, Ev.divF, Ev.powF, Ev.i2, Ev.i2c, Ev.ixF, Ev.ixR, Ev.partM, Ev.cutF, Ev.cutR, Ev.inF, Ev.inR', Ev.dict1V, Ev.bi2, Ev.ca, Ev.negR, Ev.dKey, Ev.dKeys, Ev.truth, Ev.truM, Ev.bM, Ev.isNone, Ev.starM, Ev.sortSetR, PyData.isTuple, PyData.isInt, PyData.isBool, PyData.isStr, PyData.isList, PyData.isDict, PySem.sizeLine_eq, cond, e3]) (by simp [Ev.runD, Ev.startE, Ev.outsOf, Ev.retR, Ev.isN, Ev.notN, Ev.chainF, Ev.callY, Ev.permL, Ev.prep, Ev.prep1, Ev.asD, Ev.asDs, Ev.frzI, Ev.rdRs, Ev.rdR, Ev.lentP, Ev.setAllE, Ev.noB, Ev.argI, Ev.seqI, Ev.forS, Ev.unpS, Ev.setS, Ev.settle, Ev.storeM, Ev.putI, Ev.settles, Ev.storeAll, Ev.asgT, Ev.asgTs, Ev.updC, Ev.setC, Ev.tyM, Ev.tyR, Ev.appM, Ev.popM, Ev.appC, Ev.popC, Ev.dat, Ev.lst, Ev.lstOf, Ev.seqOf, Ev.isaF, Ev.isaD, Ev.lenR, Ev.allR, Ev.anyR, Ev.boolsOf, Ev.intsOf, Ev.sumR, Ev.absR, Ev.tupleR, Ev.listR, Ev.reprR, Ev.intR, Ev.divmodR, Ev.min2R, Ev.max2R, Ev.mulR, Ev.addR, Ev.subF, Ev.modF, Ev.divF, Ev.powF, Ev.i2, Ev.i2c, Ev.ixF, Ev.ixR, Ev.partM, Ev.cutF, Ev.cutR, Ev.inF, Ev.inR', Ev.dict1V, Ev.bi2, Ev.ca, Ev.negR, Ev.dKey, Ev.dKeys, Ev.truth, Ev.truM, Ev.bM, Ev.isNone, Ev.starM, Ev.sortSetR, PyData.isTuple, PyData.isInt, PyData.isBool, PyData.isStr, PyData.isList, PyData.isDict, PySem.sizeLine_eq, cond]) ?_
    have := rngK_nat (n := cnt.toNat) (by omega)
    have hP2 : ((cnt.toNat : Nat) : Int) = cnt := by omega
    rwa [hP2] at this
  rw [seqS_nx ((forS_ok hk).trans g1)]
  have hso := sortOk_ms fd
  have hsd := sort_ms fd
  have hkT := keysT_ms fd
  have hsr : sortRR (.c (.t (fd.map tkD))) = some (.n (.l ((sortM fd).map mD))) := by
    unfold sortRR
    simp only [hkT, hso, hsd, if_true]
  have hz : (sortM fd).length ≤ 16777216 := by omega
  simp [Ev.runD, Ev.startE, Ev.outsOf, Ev.retR, Ev.isN, Ev.notN, Ev.chainF, Ev.callY, Ev.permL, Ev.prep, Ev.prep1, Ev.asD, Ev.asDs, Ev.frzI, Ev.rdRs, Ev.rdR, Ev.lentP, Ev.setAllE, Ev.noB, Ev.argI, Ev.seqI, Ev.forS, Ev.unpS, Ev.setS, Ev.settle, Ev.storeM, Ev.putI, Ev.settles, Ev.storeAll, Ev.asgT, Ev.asgTs, Ev.updC, Ev.setC, Ev.tyM, Ev.tyR, Ev.appM, Ev.popM, Ev.appC, Ev.popC, Ev.dat, Ev.lst, Ev.lstOf, Ev.seqOf, Ev.isaF, Ev.isaD, Ev.lenR, Ev.allR, Ev.anyR, Ev.boolsOf, Ev.intsOf, Ev.sumR, Ev.absR, Ev.tupleR, Ev.listR, Ev.reprR, Ev.intR, Ev.divmodR, Ev.min2R, Ev.max2R, Ev.mulR, Ev.addR, Ev.subF, Ev.modF, Ev.divF, Ev.powF, Ev.i2, Ev.i2c, Ev.ixF, Ev.ixR, Ev.partM, Ev.cutF, Ev.cutR, Ev.inF, Ev.inR', Ev.dict1V, Ev.bi2, Ev.ca, Ev.negR, Ev.dKey, Ev.dKeys, Ev.truth, Ev.truM, Ev.bM, Ev.isNone, Ev.starM, Ev.sortSetR, PyData.isTuple, PyData.isInt, PyData.isBool, PyData.isStr, PyData.isList, PyData.isDict, PySem.sizeLine_eq, cond, hsr, e5, webD]
end K44
set_option maxHeartbeats 1000000
namespace K44
open PySem Ev Way
/-! ### rooms: a meeting later -/
theorem web_erase {P : Int} {ms : List Mt} (h : Web P ms) (k : Nat) : Web P (ms.eraseIdx k) :=
  ⟨fun m hm => h.1 m (List.mem_of_mem_eraseIdx hm), h.2.sublist (List.eraseIdx_sublist ms k)⟩
theorem sh_tab (ls : List (List Int)) : SeqAt.shaped (.tuple (ls.map fun l => .tuple (intsD l))) = true := by
  have h1 : ∀ ls : List (List Int), PyData.canLayAll0 (ls.map fun l => .tuple (intsD l)) = true := fun ls => by
    induction ls with
    | nil => rfl
    | cons l ls ih => simpa [PyData.canLayAll0, PyData.canLay0, lay_ints] using ih
  have h2 : ∀ ls : List (List Int), PyData.depthAll (ls.map fun l => .tuple (intsD l)) ≤ 2 := fun ls => by
    induction ls with
    | nil => simp [PyData.depthAll]
    | cons l ls ih =>
      simp [PyData.depthAll, PyData.depth, dep_ints]
      omega
  have := h2 ls
  simp [SeqAt.shaped, PyData.canLay0, h1, PyData.depth]
  omega
theorem sh_tbl (P : Int) (ms : List Mt) (loose : Bool) : SeqAt.shaped (.tuple (tblD P ms loose)) = true := by
  have := sh_tab ((List.range P.toNat).map fun i => comeOf P ms loose (i : Nat))
  rw [List.map_map] at this
  exact this
theorem eq_tbl (P : Int) (ms ms' : List Mt) (loose : Bool) : eqR (.d (.tuple (tblD P ms' loose))) (.d (.tuple (tblD P ms loose))) = some (.bool (PyData.eqv (.tuple (tblD P ms' loose)) (.tuple (tblD P ms loose)))) := by
  unfold eqR
  simp only [dat, sh_tbl, and_self, if_true]
def movedM (m : Mt) (j : Int) : Mt := (m.1 + j, m.2.1, m.2.2)
def laterM (ms : List Mt) (k : Nat) (m : Mt) (j : Int) : List Mt := sortM (ms.eraseIdx k ++ [movedM m j])
def goB (ms : List Mt) (k : Nat) (m : Mt) (j : Int) : Bool := decide (m.1 + j ≤ 20) && !decide (movedM m j ∈ ms.eraseIdx k)
theorem eqv_m (a b : Mt) : PyData.eqv (mD a) (mD b) = decide (a = b) := by
  obtain ⟨t, x, y⟩ := a
  obtain ⟨t', x', y'⟩ := b
  rw [Bool.eq_iff_iff]
  simp [mD, PyData.eqv, PyData.eqvAll]
theorem any_ms (m : Mt) : ∀ ms : List Mt, ((ms.map mD).any fun z => PyData.eqv z (mD m)) = decide (m ∈ ms)
  | [] => by simp
  | n :: ms => by
    rw [List.map_cons, List.any_cons, eqv_m, any_ms m ms, Bool.eq_iff_iff]
    simp only [Bool.or_eq_true, decide_eq_true_eq, List.mem_cons]
    constructor
    · rintro (h | h)
      · exact .inl h.symm
      · exact .inr h
    · rintro (h | h)
      · exact .inl h.symm
      · exact .inr h
theorem sh_m (m : Mt) : SeqAt.shaped (mD m) = true := by
  simp [SeqAt.shaped, mD, PyData.canLay0, PyData.canLayAll0, PyData.depth, PyData.depthAll]
theorem in_ms (m : Mt) (ms : List Mt) : inR' (.d (mD m)) (.d (.tuple (ms.map mD))) = some (decide (m ∈ ms)) := by
  have h := any_ms m ms
  simp only [inR', dat, sh_m, shaped_ms, and_self, if_true, h]
theorem asDs_d : ∀ (xs : List PyData) (env : Ev.Env), asDs (xs.map .d) env = .ok xs env
  | [], env => rfl
  | x :: xs, env => by
    rw [List.map_cons, asDs]
    simp [asD, asDs_d xs]
theorem made_ok {P : Int} {fd : List Mt} (hz : fd.length < 1000) : p_made_web [.d (.int P), .d (.tuple (fd.map mD))] = .ok (.t [.int P, .tuple ((sortM fd).map mD)]) [] := by
  have hso := sortOk_ms fd
  have hsd := sort_ms fd
  have hs : sortRR (.d (.tuple (fd.map mD))) = some (.n (.l ((sortM fd).map mD))) := by
    unfold sortRR sortR
    simp only [seqOf, hso, hsd, if_true]
  have hl : ((sortM fd).map mD).length < 1000 := by rw [List.length_map, len_sortM]; exact hz
  generalize (sortM fd).map mD = X at hs hl ⊢
  generalize PyData.tuple (fd.map mD) = Y at hs ⊢
  have hl2 : X.length ≤ 16777216 := by omega
  unfold p_made_web
  simp [Ev.runD, Ev.startE, Ev.outsOf, Ev.retR, Ev.isN, Ev.notN, Ev.chainF, Ev.callY, Ev.permL, Ev.prep, Ev.prep1, Ev.asD, Ev.asDs, Ev.frzI, Ev.rdRs, Ev.rdR, Ev.lentP, Ev.setAllE, Ev.noB, Ev.argI, Ev.seqI, Ev.forS, Ev.unpS, Ev.setS, Ev.settle, Ev.storeM, Ev.putI, Ev.settles, Ev.storeAll, Ev.asgT, Ev.asgTs, Ev.updC, Ev.setC, Ev.tyM, Ev.tyR, Ev.appM, Ev.popM, Ev.appC, Ev.popC, Ev.dat, Ev.lst, Ev.lstOf, Ev.seqOf, Ev.isaF, Ev.isaD, Ev.lenR, Ev.allR, Ev.anyR, Ev.boolsOf, Ev.intsOf, Ev.sumR, Ev.absR, Ev.tupleR, Ev.listR, Ev.reprR, Ev.intR, Ev.divmodR, Ev.min2R, Ev.max2R, Ev.mulR, Ev.addR, Ev.subF, Ev.modF, Ev.divF, Ev.powF, Ev.i2, Ev.i2c, Ev.ixF, Ev.ixR, Ev.partM, Ev.cutF, Ev.cutR, Ev.inF, Ev.inR', Ev.dict1V, Ev.bi2, Ev.ca, Ev.negR, Ev.dKey, Ev.dKeys, Ev.truth, Ev.truM, Ev.bM, Ev.isNone, Ev.starM, Ev.sortSetR, PyData.isTuple, PyData.isInt, PyData.isBool, PyData.isStr, PyData.isList, PyData.isDict, PySem.sizeLine_eq, cond, f_made_web, hs]
def laterR (P : Int) (ms : List Mt) (k : Nat) (m : Mt) (j : Int) : Rv := if goB ms k m j = true then .t [.int P, .tuple ((laterM ms k m j).map mD)] else .d .none
noncomputable def laterRM : M Rv := (ifV (andT (vB (bi2 (bi2 (vVar 3) (vVar 2) (lift2 addR)) (vC (.int 20)) (look2 (ordR fun d e => !PySem.W.dataLt e d)))) (vB (bi2 (vVar 6) (vVar 7) (inF true)))) (callM p_made_web [] [false, false] (argsV [(bi2 (vVar 0) (vC (.int 0)) ixF), (tupV (M.bind (M.bind (vVar 7) starM) fun xs => M.bind (argsV [(vVar 6)]) fun ys => M.ret (xs ++ ys)))])) (vC .none))
theorem fl_eq : f_later_by = (seqS (unpS [] (.t [(.n 3), (.n 4), (.n 5)]) (bi2 (bi2 (vVar 0) (vC (.int 1)) ixF) (vVar 1) ixF))
  (seqS (parS [] [6, 7] (argsV [(tupV (argsV [(bi2 (vVar 3) (vVar 2) (lift2 addR)), (vVar 4), (vVar 5)])), (bi2 (callM p_without_by [] [false, false] (argsV [(vVar 0), (tupV (argsV [(vVar 1)]))])) (vC (.int 1)) ixF)]))
  (seqS (retS laterRM) skipS))) := rfl
theorem later_tup {env : Ev.Env} {xs : List PyData} {x : PyData} (h7 : vVar 7 env = .ok (.d (.tuple xs)) env) (h6 : vVar 6 env = .ok (.d x) env) (hz : xs.length < 1000) :
    tupV (M.bind (M.bind (vVar 7) starM) fun xs => M.bind (argsV [(vVar 6)]) fun ys => M.ret (xs ++ ys)) env = .ok (.t (xs ++ [x])) env := by
  have hs : starM (.d (.tuple xs)) env = .ok (xs.map .d) env := rfl
  have hd := asDs_d (xs ++ [x]) env
  rw [List.map_append] at hd
  have hl : (xs ++ [x]).length ≤ sizeLine := by rw [sizeLine_eq, List.length_append, List.length_singleton]; omega
  unfold tupV
  simp only [bind_eq, h7, hs, h6, argsV_cons, argsV_nil, ret_eq]
  simp only [List.map_cons, List.map_nil] at hd
  rw [hd]
  simp only [hl, if_true, ret_eq]
theorem laterRM_ok {P j : Int} {X : PyData} {rest : List Mt} {r1 : Option R} {m : Mt} (hz : rest.length < 900) :
    laterRM [some (.d (.tuple [.int P, X])), r1, some (.d (.int j)), some (.d (.int m.1)), some (.d (.int m.2.1)), some (.d (.int m.2.2)), some (.d (mD (movedM m j))), some (.d (.tuple (rest.map mD)))]
      = .ok (if (decide (m.1 + j ≤ 20) && !decide (movedM m j ∈ rest)) = true then .t [.int P, .tuple ((sortM (rest ++ [movedM m j])).map mD)] else .d .none) [some (.d (.tuple [.int P, X])), r1, some (.d (.int j)), some (.d (.int m.1)), some (.d (.int m.2.1)), some (.d (.int m.2.2)), some (.d (mD (movedM m j))), some (.d (.tuple (rest.map mD)))] := by
  have hi := in_ms (movedM m j) rest
  have hm := made_ok (P := P) (fd := rest ++ [movedM m j]) (by simp; omega)
  have ht := later_tup (env := [some (.d (.tuple [.int P, X])), r1, some (.d (.int j)), some (.d (.int m.1)), some (.d (.int m.2.1)), some (.d (.int m.2.2)), some (.d (mD (movedM m j))), some (.d (.tuple (rest.map mD)))]) (xs := rest.map mD) (x := mD (movedM m j)) (by simp) (by simp) (by simp; omega)
  rw [List.map_append, List.map_cons, List.map_nil] at hm
  generalize rest.map mD ++ [mD (movedM m j)] = Y at hm ht
  generalize (sortM (rest ++ [movedM m j])).map mD = Z at hm ⊢
  generalize rest.map mD = RR at hi ht ⊢
  generalize mD (movedM m j) = MM at hi ht ⊢
  have e4 : (!decide ((20 : Int) < m.1 + j)) = decide (m.1 + j ≤ 20) := by rw [Bool.eq_iff_iff]; simp
  unfold laterRM
  cases h1 : decide (m.1 + j ≤ 20) with
  | false => simp [Ev.runD, Ev.startE, Ev.outsOf, Ev.retR, Ev.isN, Ev.notN, Ev.chainF, Ev.callY, Ev.permL, Ev.prep, Ev.prep1, Ev.asD, Ev.asDs, Ev.frzI, Ev.rdRs, Ev.rdR, Ev.lentP, Ev.setAllE, Ev.noB, Ev.argI, Ev.seqI, Ev.forS, Ev.unpS, Ev.setS, Ev.settle, Ev.storeM, Ev.putI, Ev.settles, Ev.storeAll, Ev.asgT, Ev.asgTs, Ev.updC, Ev.setC, Ev.tyM, Ev.tyR, Ev.appM, Ev.popM, Ev.appC, Ev.popC, Ev.dat, Ev.lst, Ev.lstOf, Ev.seqOf, Ev.isaF, Ev.isaD, Ev.lenR, Ev.allR, Ev.anyR, Ev.boolsOf, Ev.intsOf, Ev.sumR, Ev.absR, Ev.tupleR, Ev.listR, Ev.reprR, Ev.intR, Ev.divmodR, Ev.min2R, Ev.max2R, Ev.mulR, Ev.addR, Ev.subF, Ev.modF, Ev.divF, Ev.powF, Ev.i2, Ev.i2c, Ev.ixF, Ev.ixR, Ev.partM, Ev.cutF, Ev.cutR, Ev.inF, Ev.dict1V, Ev.bi2, Ev.ca, Ev.negR, Ev.dKey, Ev.dKeys, Ev.truth, Ev.truM, Ev.bM, Ev.isNone, Ev.starM, Ev.sortSetR, PyData.isTuple, PyData.isInt, PyData.isBool, PyData.isStr, PyData.isList, PyData.isDict, PySem.sizeLine_eq, cond, e4, h1]
  | true =>
    cases h2 : decide (movedM m j ∈ rest) with
    | true => rw [h2] at hi; simp [Ev.runD, Ev.startE, Ev.outsOf, Ev.retR, Ev.isN, Ev.notN, Ev.chainF, Ev.callY, Ev.permL, Ev.prep, Ev.prep1, Ev.asD, Ev.asDs, Ev.frzI, Ev.rdRs, Ev.rdR, Ev.lentP, Ev.setAllE, Ev.noB, Ev.argI, Ev.seqI, Ev.forS, Ev.unpS, Ev.setS, Ev.settle, Ev.storeM, Ev.putI, Ev.settles, Ev.storeAll, Ev.asgT, Ev.asgTs, Ev.updC, Ev.setC, Ev.tyM, Ev.tyR, Ev.appM, Ev.popM, Ev.appC, Ev.popC, Ev.dat, Ev.lst, Ev.lstOf, Ev.seqOf, Ev.isaF, Ev.isaD, Ev.lenR, Ev.allR, Ev.anyR, Ev.boolsOf, Ev.intsOf, Ev.sumR, Ev.absR, Ev.tupleR, Ev.listR, Ev.reprR, Ev.intR, Ev.divmodR, Ev.min2R, Ev.max2R, Ev.mulR, Ev.addR, Ev.subF, Ev.modF, Ev.divF, Ev.powF, Ev.i2, Ev.i2c, Ev.ixF, Ev.ixR, Ev.partM, Ev.cutF, Ev.cutR, Ev.inF, Ev.dict1V, Ev.bi2, Ev.ca, Ev.negR, Ev.dKey, Ev.dKeys, Ev.truth, Ev.truM, Ev.bM, Ev.isNone, Ev.starM, Ev.sortSetR, PyData.isTuple, PyData.isInt, PyData.isBool, PyData.isStr, PyData.isList, PyData.isDict, PySem.sizeLine_eq, cond, e4, h1, hi]
    | false =>
      rw [h2] at hi
      simp [Ev.runD, Ev.startE, Ev.outsOf, Ev.retR, Ev.isN, Ev.notN, Ev.chainF, Ev.callY, Ev.permL, Ev.prep, Ev.prep1, Ev.asD, Ev.asDs, Ev.frzI, Ev.rdRs, Ev.rdR, Ev.lentP, Ev.setAllE, Ev.noB, Ev.argI, Ev.seqI, Ev.forS, Ev.unpS, Ev.setS, Ev.settle, Ev.storeM, Ev.putI, Ev.settles, Ev.storeAll, Ev.asgT, Ev.asgTs, Ev.updC, Ev.setC, Ev.tyM, Ev.tyR, Ev.appM, Ev.popM, Ev.appC, Ev.popC, Ev.dat, Ev.lst, Ev.lstOf, Ev.seqOf, Ev.isaF, Ev.isaD, Ev.lenR, Ev.allR, Ev.anyR, Ev.boolsOf, Ev.intsOf, Ev.sumR, Ev.absR, Ev.tupleR, Ev.listR, Ev.reprR, Ev.intR, Ev.divmodR, Ev.min2R, Ev.max2R, Ev.mulR, Ev.addR, Ev.subF, Ev.modF, Ev.divF, Ev.powF, Ev.i2, Ev.i2c, Ev.ixF, Ev.ixR, Ev.partM, Ev.cutF, Ev.cutR, Ev.inF, Ev.dict1V, Ev.bi2, Ev.ca, Ev.negR, Ev.dKey, Ev.dKeys, Ev.truth, Ev.truM, Ev.bM, Ev.isNone, Ev.starM, Ev.sortSetR, PyData.isTuple, PyData.isInt, PyData.isBool, PyData.isStr, PyData.isList, PyData.isDict, PySem.sizeLine_eq, cond, -tupV_eq, e4, h1, hi, ht, hm]
theorem laterR_eq (P : Int) (ms : List Mt) (k : Nat) (m : Mt) (j : Int) : laterR P ms k m j = if (decide (m.1 + j ≤ 20) && !decide (movedM m j ∈ ms.eraseIdx k)) = true then .t [.int P, .tuple ((sortM (ms.eraseIdx k ++ [movedM m j])).map mD)] else .d .none := rfl
theorem later_ok {P j : Int} {ms : List Mt} {k : Nat} {m : Mt} (hm : ms[k]? = some m) (hz : ms.length < 900) : p_later_by [.d (webD P ms), .d (.int (k : Nat)), .d (.int j)] = .ok (laterR P ms k m j) [] := by
  have hk : k < ms.length := (List.getElem?_eq_some_iff.mp hm).1
  have hat : L2.atI (ms.map mD) (k : Int) = some (mD m) := by
    rw [atI_nat (by simpa using hk), List.getElem?_map, hm]; rfl
  have hl := List.length_eraseIdx_le ms k
  have hwo := without_eq (P := P) (ms := ms) (k := k) (by omega)
  have hr := laterRM_ok (P := P) (j := j) (X := .tuple (ms.map mD)) (rest := ms.eraseIdx k) (r1 := some (.d (.int (k : Nat)))) (m := m) (by omega)
  rw [← laterR_eq] at hr
  unfold webD at hwo ⊢
  have hnb : retR [] [some (.d (.tuple [.int P, .tuple (ms.map mD)])), some (.d (.int (k : Nat))), some (.d (.int j)), some (.d (.int m.1)), some (.d (.int m.2.1)), some (.d (.int m.2.2)), some (.d (mD (movedM m j))), some (.d (.tuple ((ms.eraseIdx k).map mD)))] (laterR P ms k m j) = some (laterR P ms k m j) := by
    unfold laterR; split <;> rfl
  generalize laterR P ms k m j = RR at hr hnb ⊢
  generalize (ms.eraseIdx k).map mD = Y at hwo hr hnb ⊢
  generalize ms.map mD = X at hat hwo hr hnb ⊢
  refine runD_rt (env := [some (.d (.tuple [.int P, .tuple X])), some (.d (.int (k : Nat))), some (.d (.int j)), some (.d (.int m.1)), some (.d (.int m.2.1)), some (.d (.int m.2.2)), some (.d (mD (movedM m j))), some (.d (.tuple Y))]) (r := RR) ?_ rfl hnb
  show f_later_by [some (.d (.tuple [.int P, .tuple X])), some (.d (.int (k : Nat))), some (.d (.int j)), none, none, none, none, none] = _
  rw [fl_eq]
  rw [seqS_nx (env1 := [some (.d (.tuple [.int P, .tuple X])), some (.d (.int (k : Nat))), some (.d (.int j)), some (.d (.int m.1)), some (.d (.int m.2.1)), some (.d (.int m.2.2)), none, none]) (unpS_ok (d := mD m) (env1 := [some (.d (.tuple [.int P, .tuple X])), some (.d (.int (k : Nat))), some (.d (.int j)), none, none, none, none, none]) (by simp [Ev.runD, Ev.startE, Ev.outsOf, Ev.retR, Ev.isN, Ev.notN, Ev.chainF, Ev.callY, Ev.permL, Ev.prep, Ev.prep1, Ev.asD, Ev.asDs, Ev.frzI, Ev.rdRs, Ev.rdR, Ev.lentP, Ev.setAllE, Ev.noB, Ev.argI, Ev.seqI, Ev.forS, Ev.unpS, Ev.setS, Ev.settle, Ev.storeM, Ev.putI, Ev.settles, Ev.storeAll, Ev.asgT, Ev.asgTs, Ev.updC, Ev.setC, Ev.tyM, Ev.tyR, Ev.appM, Ev.popM, Ev.appC, Ev.popC, Ev.dat, Ev.lst, Ev.lstOf, Ev.seqOf, Ev.isaF, Ev.isaD, Ev.lenR, Ev.allR, Ev.anyR, Ev.boolsOf, Ev.intsOf, Ev.sumR, Ev.absR, Ev.tupleR, Ev.listR, Ev.reprR, Ev.intR, Ev.divmodR, Ev.min2R, Ev.max2R, Ev.mulR, Ev.addR, Ev.subF, Ev.modF, Ev.divF, Ev.powF, Ev.i2, Ev.i2c, Ev.ixF, Ev.ixR, Ev.partM, Ev.cutF, Ev.cutR, Ev.inF, Ev.inR', Ev.dict1V, Ev.bi2, Ev.ca, Ev.negR, Ev.dKey, Ev.dKeys, Ev.truth, Ev.truM, Ev.bM, Ev.isNone, Ev.starM, Ev.sortSetR, PyData.isTuple, PyData.isInt, PyData.isBool, PyData.isStr, PyData.isList, PyData.isDict, PySem.sizeLine_eq, cond, hat]) (by simp [Ev.runD, Ev.startE, Ev.outsOf, Ev.retR, Ev.isN, Ev.notN, Ev.chainF, Ev.callY, Ev.permL, Ev.prep, Ev.prep1, Ev.asD, Ev.asDs, Ev.frzI, Ev.rdRs, Ev.rdR, Ev.lentP, Ev.setAllE, Ev.noB, Ev.argI, Ev.seqI, Ev.forS, Ev.unpS, Ev.setS, Ev.settle, Ev.storeM, Ev.putI, Ev.settles, Ev.storeAll, Ev.asgT, Ev.asgTs, Ev.updC, Ev.setC, Ev.tyM, Ev.tyR, Ev.appM, Ev.popM, Ev.appC, Ev.popC, Ev.dat, Ev.lst, Ev.lstOf, Ev.seqOf, Ev.isaF, Ev.isaD, Ev.lenR, Ev.allR, Ev.anyR, Ev.boolsOf, Ev.intsOf, Ev.sumR, Ev.absR, Ev.tupleR, Ev.listR, Ev.reprR, Ev.intR, Ev.divmodR, Ev.min2R, Ev.max2R, Ev.mulR, Ev.addR, Ev.subF, Ev.modF, Ev.divF, Ev.powF, Ev.i2, Ev.i2c, Ev.ixF, Ev.ixR, Ev.partM, Ev.cutF, Ev.cutR, Ev.inF, Ev.inR', Ev.dict1V, Ev.bi2, Ev.ca, Ev.negR, Ev.dKey, Ev.dKeys, Ev.truth, Ev.truM, Ev.bM, Ev.isNone, Ev.starM, Ev.sortSetR, PyData.isTuple, PyData.isInt, PyData.isBool, PyData.isStr, PyData.isList, PyData.isDict, PySem.sizeLine_eq, cond, mD]))]
  rw [seqS_nx (env1 := [some (.d (.tuple [.int P, .tuple X])), some (.d (.int (k : Nat))), some (.d (.int j)), some (.d (.int m.1)), some (.d (.int m.2.1)), some (.d (.int m.2.2)), some (.d (mD (movedM m j))), some (.d (.tuple Y))]) (by simp [Ev.runD, Ev.startE, Ev.outsOf, Ev.retR, Ev.isN, Ev.notN, Ev.chainF, Ev.callY, Ev.permL, Ev.prep, Ev.prep1, Ev.asD, Ev.asDs, Ev.frzI, Ev.rdRs, Ev.rdR, Ev.lentP, Ev.setAllE, Ev.noB, Ev.argI, Ev.seqI, Ev.forS, Ev.unpS, Ev.setS, Ev.settle, Ev.storeM, Ev.putI, Ev.settles, Ev.storeAll, Ev.asgT, Ev.asgTs, Ev.updC, Ev.setC, Ev.tyM, Ev.tyR, Ev.appM, Ev.popM, Ev.appC, Ev.popC, Ev.dat, Ev.lst, Ev.lstOf, Ev.seqOf, Ev.isaF, Ev.isaD, Ev.lenR, Ev.allR, Ev.anyR, Ev.boolsOf, Ev.intsOf, Ev.sumR, Ev.absR, Ev.tupleR, Ev.listR, Ev.reprR, Ev.intR, Ev.divmodR, Ev.min2R, Ev.max2R, Ev.mulR, Ev.addR, Ev.subF, Ev.modF, Ev.divF, Ev.powF, Ev.i2, Ev.i2c, Ev.ixF, Ev.ixR, Ev.partM, Ev.cutF, Ev.cutR, Ev.inF, Ev.inR', Ev.dict1V, Ev.bi2, Ev.ca, Ev.negR, Ev.dKey, Ev.dKeys, Ev.truth, Ev.truM, Ev.bM, Ev.isNone, Ev.starM, Ev.sortSetR, PyData.isTuple, PyData.isInt, PyData.isBool, PyData.isStr, PyData.isList, PyData.isDict, PySem.sizeLine_eq, cond, hwo, mD, movedM])]
  rw [seqS_eq, retS_eq, hr]
/-! ### how far: the first step that may not be -/
def cntF (f : Nat → Bool) : Nat → Nat → Nat
  | 0, j => j
  | n + 1, j => if f (j + 1) = true then cntF f n (j + 1) else j
theorem cntF_of {f : Nat → Bool} {n : Nat} (h : ∀ j, 1 ≤ j → j ≤ n → f j = true) (h2 : f (n + 1) = false) : ∀ (fuel j : Nat), j ≤ n → n - j < fuel → cntF f fuel j = n
  | 0, j, h3, h4 => by omega
  | fuel + 1, j, h3, h4 => by
    unfold cntF
    by_cases e : j = n
    · rw [e, h2]; simp
    · rw [h (j + 1) (by omega) (by omega)]
      simp only [if_true]
      exact cntF_of h h2 fuel (j + 1) (by omega) (by omega)
noncomputable def stepB (P : Int) (ms : List Mt) (loose : Bool) (k : Nat) (m : Mt) (j : Nat) : Bool := goB ms k m (j : Nat) && PyData.eqv (.tuple (tblD P (laterM ms k m (j : Nat)) loose)) (.tuple (tblD P ms loose))
noncomputable def roomN (P : Int) (ms : List Mt) (loose : Bool) (k : Nat) (m : Mt) : Nat := cntF (stepB P ms loose k m) 20 0
theorem web_later {P j : Int} {ms : List Mt} {k : Nat} {m : Mt} (hw : Web P ms) (hm : m ∈ ms) (hj : 0 ≤ j) (hg : goB ms k m j = true) : Web P (laterM ms k m j) := by
  unfold goB at hg
  rw [Bool.and_eq_true, decide_eq_true_eq, Bool.not_eq_true', decide_eq_false_iff_not] at hg
  have hf := hw.1 m hm
  have he := web_erase hw k
  refine ⟨fun q hq => ?_, pw_sortM ?_⟩
  · unfold laterM at hq
    rw [mem_sortM] at hq
    rcases List.mem_append.mp hq with hq | hq
    · exact he.1 q hq
    · simp at hq
      rw [hq]
      have h1 := hf.t1
      exact ⟨by simp only [movedM]; omega, by simp only [movedM]; omega, hf.a0, hf.ab, hf.bP⟩
  · rw [List.nodup_append]
    refine ⟨pw_nodup mlt_irr he.2, by simp, fun a ha b hb e2 => ?_⟩
    simp at hb
    rw [hb] at e2
    rw [e2] at ha
    exact hg.2 ha
theorem len_later (ms : List Mt) (k : Nat) (m : Mt) (j : Int) : (laterM ms k m j).length ≤ ms.length + 1 := by
  have := List.length_eraseIdx_le ms k
  unfold laterM
  rw [len_sortM, List.length_append, List.length_singleton]
  omega
end K44
set_option maxHeartbeats 1000000
namespace K44
open PySem Ev Way
def laterD (P : Int) (ms : List Mt) (k : Nat) (m : Mt) (j : Int) : PyData := if goB ms k m j = true then webD P (laterM ms k m j) else .none
theorem w_room {P : Int} {ms : List Mt} {loose : Bool} {k : Nat} {m : Mt} {j : Nat} {r0 r2 r3 : Option R} (hP : 0 ≤ P) (hP6 : P ≤ 6) (hw : Web P ms) (hz : ms.length < 300) (hm : m ∈ ms) :
    w_room_by_1 [r0, some (.d (kindD loose)), r2, r3, some (.d (.tuple (tblD P ms loose))), some (.d (laterD P ms k m (j : Nat)))] = .ok (stepB P ms loose k m j) [r0, some (.d (kindD loose)), r2, r3, some (.d (.tuple (tblD P ms loose))), some (.d (laterD P ms k m (j : Nat)))] := by
  unfold w_room_by_1 stepB laterD
  cases hg : goB ms k m (j : Nat) with
  | false => simp [Ev.runD, Ev.startE, Ev.outsOf, Ev.retR, Ev.isN, Ev.notN, Ev.chainF, Ev.callY, Ev.permL, Ev.prep, Ev.prep1, Ev.asD, Ev.asDs, Ev.frzI, Ev.rdRs, Ev.rdR, Ev.lentP, Ev.setAllE, Ev.noB, Ev.argI, Ev.seqI, Ev.forS, Ev.unpS, Ev.setS, Ev.settle, Ev.storeM, Ev.putI, Ev.settles, Ev.storeAll, Ev.asgT, Ev.asgTs, Ev.updC, Ev.setC, Ev.tyM, Ev.tyR, Ev.appM, Ev.popM, Ev.appC, Ev.popC, Ev.dat, Ev.lst, Ev.lstOf, Ev.seqOf, Ev.isaF, Ev.isaD, Ev.lenR, Ev.allR, Ev.anyR, Ev.boolsOf, Ev.intsOf, Ev.sumR, Ev.absR, Ev.tupleR, Ev.listR, Ev.reprR, Ev.intR, Ev.divmodR, Ev.min2R, Ev.max2R, Ev.mulR, Ev.addR, Ev.subF, Ev.modF, Ev.divF, Ev.powF, Ev.i2, Ev.i2c, Ev.ixF, Ev.ixR, Ev.partM, Ev.cutF, Ev.cutR, Ev.inF, Ev.inR', Ev.dict1V, Ev.bi2, Ev.ca, Ev.negR, Ev.dKey, Ev.dKeys, Ev.truth, Ev.truM, Ev.bM, Ev.isNone, Ev.starM, Ev.sortSetR, PyData.isTuple, PyData.isInt, PyData.isBool, PyData.isStr, PyData.isList, PyData.isDict, PySem.sizeLine_eq, cond]
  | true =>
    have hl := len_later ms k m (j : Nat)
    have ht := table_ok (loose := loose) hP hP6 (web_later hw hm (by omega) hg) (by omega)
    have he := eq_tbl P ms (laterM ms k m (j : Nat)) loose
    have hn : isNone (.d (webD P (laterM ms k m (j : Nat)))) = false := rfl
    simp only [if_true, Bool.true_and]
    generalize webD P (laterM ms k m (j : Nat)) = WL at ht hn ⊢
    generalize PyData.eqv (.tuple (tblD P (laterM ms k m (j : Nat)) loose)) (.tuple (tblD P ms loose)) = bb at he ⊢
    generalize PyData.tuple (tblD P (laterM ms k m (j : Nat)) loose) = T1 at ht he
    generalize PyData.tuple (tblD P ms loose) = T0 at he ⊢
    simp [Ev.runD, Ev.startE, Ev.outsOf, Ev.retR, Ev.isN, Ev.notN, Ev.chainF, Ev.callY, Ev.permL, Ev.prep, Ev.prep1, Ev.asD, Ev.asDs, Ev.frzI, Ev.rdRs, Ev.rdR, Ev.lentP, Ev.setAllE, Ev.noB, Ev.argI, Ev.seqI, Ev.forS, Ev.unpS, Ev.setS, Ev.settle, Ev.storeM, Ev.putI, Ev.settles, Ev.storeAll, Ev.asgT, Ev.asgTs, Ev.updC, Ev.setC, Ev.tyM, Ev.tyR, Ev.appM, Ev.popM, Ev.appC, Ev.popC, Ev.dat, Ev.lst, Ev.lstOf, Ev.seqOf, Ev.isaF, Ev.isaD, Ev.lenR, Ev.allR, Ev.anyR, Ev.boolsOf, Ev.intsOf, Ev.sumR, Ev.absR, Ev.tupleR, Ev.listR, Ev.reprR, Ev.intR, Ev.divmodR, Ev.min2R, Ev.max2R, Ev.mulR, Ev.addR, Ev.subF, Ev.modF, Ev.divF, Ev.powF, Ev.i2, Ev.i2c, Ev.ixF, Ev.ixR, Ev.partM, Ev.cutF, Ev.cutR, Ev.inF, Ev.inR', Ev.dict1V, Ev.bi2, Ev.ca, Ev.negR, Ev.dKey, Ev.dKeys, Ev.truth, Ev.truM, Ev.bM, Ev.starM, Ev.sortSetR, PyData.isTuple, PyData.isInt, PyData.isBool, PyData.isStr, PyData.isList, PyData.isDict, PySem.sizeLine_eq, cond, hn, ht, he]
theorem b_room {P : Int} {ms : List Mt} {k : Nat} {m : Mt} {j : Nat} {r1 r4 r5 : Option R} (hm : ms[k]? = some m) (hz : ms.length < 300) :
    b_room_by_2 [some (.d (webD P ms)), r1, some (.d (.int (k : Nat))), some (.d (.int (j : Nat))), r4, r5] = .ok .nx [some (.d (webD P ms)), r1, some (.d (.int (k : Nat))), some (.d (.int ((j + 1 : Nat) : Int))), r4, some (.d (laterD P ms k m ((j + 2 : Nat) : Int)))] := by
  have h := later_ok (P := P) (j := ((j + 2 : Nat) : Int)) hm (by omega)
  have e1 : (j : Int) + 1 = ((j + 1 : Nat) : Int) := by omega
  have e2 : ((j + 1 : Nat) : Int) + 1 = ((j + 2 : Nat) : Int) := by omega
  unfold b_room_by_2
  rw [seqS_nx (env1 := [some (.d (webD P ms)), r1, some (.d (.int (k : Nat))), some (.d (.int ((j + 1 : Nat) : Int))), r4, r5]) (by rw [← e1]; simp [Ev.runD, Ev.startE, Ev.outsOf, Ev.retR, Ev.isN, Ev.notN, Ev.chainF, Ev.callY, Ev.permL, Ev.prep, Ev.prep1, Ev.asD, Ev.asDs, Ev.frzI, Ev.rdRs, Ev.rdR, Ev.lentP, Ev.setAllE, Ev.noB, Ev.argI, Ev.seqI, Ev.forS, Ev.unpS, Ev.setS, Ev.settle, Ev.storeM, Ev.putI, Ev.settles, Ev.storeAll, Ev.asgT, Ev.asgTs, Ev.updC, Ev.setC, Ev.tyM, Ev.tyR, Ev.appM, Ev.popM, Ev.appC, Ev.popC, Ev.dat, Ev.lst, Ev.lstOf, Ev.seqOf, Ev.isaF, Ev.isaD, Ev.lenR, Ev.allR, Ev.anyR, Ev.boolsOf, Ev.intsOf, Ev.sumR, Ev.absR, Ev.tupleR, Ev.listR, Ev.reprR, Ev.intR, Ev.divmodR, Ev.min2R, Ev.max2R, Ev.mulR, Ev.addR, Ev.subF, Ev.modF, Ev.divF, Ev.powF, Ev.i2, Ev.i2c, Ev.ixF, Ev.ixR, Ev.partM, Ev.cutF, Ev.cutR, Ev.inF, Ev.inR', Ev.dict1V, Ev.bi2, Ev.ca, Ev.negR, Ev.dKey, Ev.dKeys, Ev.truth, Ev.truM, Ev.bM, Ev.isNone, Ev.starM, Ev.sortSetR, PyData.isTuple, PyData.isInt, PyData.isBool, PyData.isStr, PyData.isList, PyData.isDict, PySem.sizeLine_eq, cond])]
  unfold laterR at h
  unfold laterD
  generalize hj2 : ((j + 2 : Nat) : Int) = j2 at h e2 ⊢
  generalize ((j + 1 : Nat) : Int) = j1 at e2 ⊢
  have hwd : PyData.tuple [.int P, .tuple ((laterM ms k m j2).map mD)] = webD P (laterM ms k m j2) := rfl
  rw [← hwd]
  generalize webD P ms = W at h ⊢
  generalize (laterM ms k m j2).map mD = X at h ⊢
  cases hg : goB ms k m j2 with
  | false => rw [hg] at h; simp [Ev.runD, Ev.startE, Ev.outsOf, Ev.retR, Ev.isN, Ev.notN, Ev.chainF, Ev.callY, Ev.permL, Ev.prep, Ev.prep1, Ev.asD, Ev.asDs, Ev.frzI, Ev.rdRs, Ev.rdR, Ev.lentP, Ev.setAllE, Ev.noB, Ev.argI, Ev.seqI, Ev.forS, Ev.unpS, Ev.setS, Ev.settle, Ev.storeM, Ev.putI, Ev.settles, Ev.storeAll, Ev.asgT, Ev.asgTs, Ev.updC, Ev.setC, Ev.tyM, Ev.tyR, Ev.appM, Ev.popM, Ev.appC, Ev.popC, Ev.dat, Ev.lst, Ev.lstOf, Ev.seqOf, Ev.isaF, Ev.isaD, Ev.lenR, Ev.allR, Ev.anyR, Ev.boolsOf, Ev.intsOf, Ev.sumR, Ev.absR, Ev.tupleR, Ev.listR, Ev.reprR, Ev.intR, Ev.divmodR, Ev.min2R, Ev.max2R, Ev.mulR, Ev.addR, Ev.subF, Ev.modF, Ev.divF, Ev.powF, Ev.i2, Ev.i2c, Ev.ixF, Ev.ixR, Ev.partM, Ev.cutF, Ev.cutR, Ev.inF, Ev.inR', Ev.dict1V, Ev.bi2, Ev.ca, Ev.negR, Ev.dKey, Ev.dKeys, Ev.truth, Ev.truM, Ev.bM, Ev.isNone, Ev.starM, Ev.sortSetR, PyData.isTuple, PyData.isInt, PyData.isBool, PyData.isStr, PyData.isList, PyData.isDict, PySem.sizeLine_eq, cond, e2, h]
  | true => rw [hg] at h; simp [Ev.runD, Ev.startE, Ev.outsOf, Ev.retR, Ev.isN, Ev.notN, Ev.chainF, Ev.callY, Ev.permL, Ev.prep, Ev.prep1, Ev.asD, Ev.asDs, Ev.frzI, Ev.rdRs, Ev.rdR, Ev.lentP, Ev.setAllE, Ev.noB, Ev.argI, Ev.seqI, Ev.forS, Ev.unpS, Ev.setS, Ev.settle, Ev.storeM, Ev.putI, Ev.settles, Ev.storeAll, Ev.asgT, Ev.asgTs, Ev.updC, Ev.setC, Ev.tyM, Ev.tyR, Ev.appM, Ev.popM, Ev.appC, Ev.popC, Ev.dat, Ev.lst, Ev.lstOf, Ev.seqOf, Ev.isaF, Ev.isaD, Ev.lenR, Ev.allR, Ev.anyR, Ev.boolsOf, Ev.intsOf, Ev.sumR, Ev.absR, Ev.tupleR, Ev.listR, Ev.reprR, Ev.intR, Ev.divmodR, Ev.min2R, Ev.max2R, Ev.mulR, Ev.addR, Ev.subF, Ev.modF, Ev.divF, Ev.powF, Ev.i2, Ev.i2c, Ev.ixF, Ev.ixR, Ev.partM, Ev.cutF, Ev.cutR, Ev.inF, Ev.inR', Ev.dict1V, Ev.bi2, Ev.ca, Ev.negR, Ev.dKey, Ev.dKeys, Ev.truth, Ev.truM, Ev.bM, Ev.isNone, Ev.starM, Ev.sortSetR, PyData.isTuple, PyData.isInt, PyData.isBool, PyData.isStr, PyData.isList, PyData.isDict, PySem.sizeLine_eq, cond, e2, h]
theorem room_w {P : Int} {ms : List Mt} {loose : Bool} {k : Nat} {m : Mt} (hP : 0 ≤ P) (hP6 : P ≤ 6) (hw : Web P ms) (hz : ms.length < 300) (hm : ms[k]? = some m) :
    ∃ o5, whileW w_room_by_1 b_room_by_2 [some (.d (webD P ms)), some (.d (kindD loose)), some (.d (.int (k : Nat))), some (.d (.int ((0 : Nat) : Int))), some (.d (.tuple (tblD P ms loose))), some (.d (laterD P ms k m ((1 : Nat) : Int)))]
      = .ok .nx [some (.d (webD P ms)), some (.d (kindD loose)), some (.d (.int (k : Nat))), some (.d (.int (roomN P ms loose k m : Nat))), some (.d (.tuple (tblD P ms loose))), o5] := by
  have hmem := List.mem_of_getElem? hm
  have hno : ∀ j : Nat, 20 ≤ j → stepB P ms loose k m j = false := fun j hj => by
    have := (hw.1 m hmem).t1
    unfold stepB goB
    rw [decide_eq_false (by omega)]
    simp
  obtain ⟨env', e1, o5, rfl⟩ := whileW_ind (c := w_room_by_1) (f := b_room_by_2)
    (Inv := fun n env => ∃ j : Nat, n + j = 20 ∧ env = [some (.d (webD P ms)), some (.d (kindD loose)), some (.d (.int (k : Nat))), some (.d (.int (j : Nat))), some (.d (.tuple (tblD P ms loose))), some (.d (laterD P ms k m ((j + 1 : Nat) : Int)))] ∧ cntF (stepB P ms loose k m) n j = roomN P ms loose k m)
    (Q := fun env => ∃ o5, env = [some (.d (webD P ms)), some (.d (kindD loose)), some (.d (.int (k : Nat))), some (.d (.int (roomN P ms loose k m : Nat))), some (.d (.tuple (tblD P ms loose))), o5])
    (fun n env hI => by
      obtain ⟨j, hj, rfl, hc⟩ := hI
      have ht := w_room (loose := loose) (k := k) (j := j + 1) (r0 := some (.d (webD P ms))) (r2 := some (.d (.int (k : Nat)))) (r3 := some (.d (.int (j : Nat)))) hP hP6 hw hz hmem
      cases hs : stepB P ms loose k m (j + 1) with
      | false =>
        rw [hs] at ht
        left
        refine ⟨_, ht, some (.d (laterD P ms k m ((j + 1 : Nat) : Int))), ?_⟩
        have : cntF (stepB P ms loose k m) n j = j := by
          cases n with
          | zero => rfl
          | succ n => unfold cntF; rw [hs]; simp
        rw [← hc, this]
      | true =>
        rw [hs] at ht
        right
        cases n with
        | zero => rw [hno (j + 1) (by omega)] at hs; cases hs
        | succ n =>
          refine ⟨_, _, n, ht, b_room hm hz, by omega, j + 1, by omega, rfl, ?_⟩
          rw [← hc, cntF, hs]
          simp)
    20 _ ⟨0, by omega, rfl, rfl⟩
  exact ⟨o5, e1⟩
theorem roomb_ok {P : Int} {ms : List Mt} {loose : Bool} {k : Nat} {m : Mt} (hP : 0 ≤ P) (hP6 : P ≤ 6) (hw : Web P ms) (hz : ms.length < 300) (hm : ms[k]? = some m) :
    p_room_by [.d (webD P ms), .d (kindD loose), .d (.int (k : Nat))] = .ok (.d (.int (roomN P ms loose k m : Nat))) [] := by
  obtain ⟨o5, h⟩ := room_w (loose := loose) hP hP6 hw hz hm
  have ht := table_ok (loose := loose) hP hP6 hw (by omega)
  have hl := later_ok (P := P) (j := ((1 : Nat) : Int)) hm (by omega)
  unfold laterR at hl
  unfold laterD at h
  have hwd : PyData.tuple [.int P, .tuple ((laterM ms k m ((1 : Nat) : Int)).map mD)] = webD P (laterM ms k m ((1 : Nat) : Int)) := rfl
  rw [← hwd] at h
  generalize webD P ms = W at h ht hl ⊢
  generalize (laterM ms k m ((1 : Nat) : Int)).map mD = X at h hl
  generalize PyData.tuple (tblD P ms loose) = T at h ht
  generalize kindD loose = K at h ht ⊢
  generalize (roomN P ms loose k m) = N at h ⊢
  refine runD_rt (env := [some (.d W), some (.d K), some (.d (.int (k : Nat))), some (.d (.int (N : Nat))), some (.d T), o5]) (r := .d (.int (N : Nat))) ?_ rfl rfl
  show f_room_by [some (.d W), some (.d K), some (.d (.int (k : Nat))), none, none, none] = _
  unfold f_room_by
  rw [seqS_nx (env1 := [some (.d W), some (.d K), some (.d (.int (k : Nat))), some (.d (.int ((0 : Nat) : Int))), some (.d T), none]) (by simp [Ev.runD, Ev.startE, Ev.outsOf, Ev.retR, Ev.isN, Ev.notN, Ev.chainF, Ev.callY, Ev.permL, Ev.prep, Ev.prep1, Ev.asD, Ev.asDs, Ev.frzI, Ev.rdRs, Ev.rdR, Ev.lentP, Ev.setAllE, Ev.noB, Ev.argI, Ev.seqI, Ev.forS, Ev.unpS, Ev.setS, Ev.settle, Ev.storeM, Ev.putI, Ev.settles, Ev.storeAll, Ev.asgT, Ev.asgTs, Ev.updC, Ev.setC, Ev.tyM, Ev.tyR, Ev.appM, Ev.popM, Ev.appC, Ev.popC, Ev.dat, Ev.lst, Ev.lstOf, Ev.seqOf, Ev.isaF, Ev.isaD, Ev.lenR, Ev.allR, Ev.anyR, Ev.boolsOf, Ev.intsOf, Ev.sumR, Ev.absR, Ev.tupleR, Ev.listR, Ev.reprR, Ev.intR, Ev.divmodR, Ev.min2R, Ev.max2R, Ev.mulR, Ev.addR, Ev.subF, Ev.modF, Ev.divF, Ev.powF, Ev.i2, Ev.i2c, Ev.ixF, Ev.ixR, Ev.partM, Ev.cutF, Ev.cutR, Ev.inF, Ev.inR', Ev.dict1V, Ev.bi2, Ev.ca, Ev.negR, Ev.dKey, Ev.dKeys, Ev.truth, Ev.truM, Ev.bM, Ev.isNone, Ev.starM, Ev.sortSetR, PyData.isTuple, PyData.isInt, PyData.isBool, PyData.isStr, PyData.isList, PyData.isDict, PySem.sizeLine_eq, cond, ht])]
  cases hg : goB ms k m ((1 : Nat) : Int) with
  | false =>
    rw [hg] at hl h
    rw [seqS_nx (env1 := [some (.d W), some (.d K), some (.d (.int (k : Nat))), some (.d (.int ((0 : Nat) : Int))), some (.d T), some (.d .none)]) (by simp at hl; simp [Ev.runD, Ev.startE, Ev.outsOf, Ev.retR, Ev.isN, Ev.notN, Ev.chainF, Ev.callY, Ev.permL, Ev.prep, Ev.prep1, Ev.asD, Ev.asDs, Ev.frzI, Ev.rdRs, Ev.rdR, Ev.lentP, Ev.setAllE, Ev.noB, Ev.argI, Ev.seqI, Ev.forS, Ev.unpS, Ev.setS, Ev.settle, Ev.storeM, Ev.putI, Ev.settles, Ev.storeAll, Ev.asgT, Ev.asgTs, Ev.updC, Ev.setC, Ev.tyM, Ev.tyR, Ev.appM, Ev.popM, Ev.appC, Ev.popC, Ev.dat, Ev.lst, Ev.lstOf, Ev.seqOf, Ev.isaF, Ev.isaD, Ev.lenR, Ev.allR, Ev.anyR, Ev.boolsOf, Ev.intsOf, Ev.sumR, Ev.absR, Ev.tupleR, Ev.listR, Ev.reprR, Ev.intR, Ev.divmodR, Ev.min2R, Ev.max2R, Ev.mulR, Ev.addR, Ev.subF, Ev.modF, Ev.divF, Ev.powF, Ev.i2, Ev.i2c, Ev.ixF, Ev.ixR, Ev.partM, Ev.cutF, Ev.cutR, Ev.inF, Ev.inR', Ev.dict1V, Ev.bi2, Ev.ca, Ev.negR, Ev.dKey, Ev.dKeys, Ev.truth, Ev.truM, Ev.bM, Ev.isNone, Ev.starM, Ev.sortSetR, PyData.isTuple, PyData.isInt, PyData.isBool, PyData.isStr, PyData.isList, PyData.isDict, PySem.sizeLine_eq, cond, hl])]
    simp at h
    rw [seqS_nx (by simpa using h)]
    simp
  | true =>
    rw [hg] at hl h
    rw [seqS_nx (env1 := [some (.d W), some (.d K), some (.d (.int (k : Nat))), some (.d (.int ((0 : Nat) : Int))), some (.d T), some (.d (.tuple [.int P, .tuple X]))]) (by simp at hl; simp [Ev.runD, Ev.startE, Ev.outsOf, Ev.retR, Ev.isN, Ev.notN, Ev.chainF, Ev.callY, Ev.permL, Ev.prep, Ev.prep1, Ev.asD, Ev.asDs, Ev.frzI, Ev.rdRs, Ev.rdR, Ev.lentP, Ev.setAllE, Ev.noB, Ev.argI, Ev.seqI, Ev.forS, Ev.unpS, Ev.setS, Ev.settle, Ev.storeM, Ev.putI, Ev.settles, Ev.storeAll, Ev.asgT, Ev.asgTs, Ev.updC, Ev.setC, Ev.tyM, Ev.tyR, Ev.appM, Ev.popM, Ev.appC, Ev.popC, Ev.dat, Ev.lst, Ev.lstOf, Ev.seqOf, Ev.isaF, Ev.isaD, Ev.lenR, Ev.allR, Ev.anyR, Ev.boolsOf, Ev.intsOf, Ev.sumR, Ev.absR, Ev.tupleR, Ev.listR, Ev.reprR, Ev.intR, Ev.divmodR, Ev.min2R, Ev.max2R, Ev.mulR, Ev.addR, Ev.subF, Ev.modF, Ev.divF, Ev.powF, Ev.i2, Ev.i2c, Ev.ixF, Ev.ixR, Ev.partM, Ev.cutF, Ev.cutR, Ev.inF, Ev.inR', Ev.dict1V, Ev.bi2, Ev.ca, Ev.negR, Ev.dKey, Ev.dKeys, Ev.truth, Ev.truM, Ev.bM, Ev.isNone, Ev.starM, Ev.sortSetR, PyData.isTuple, PyData.isInt, PyData.isBool, PyData.isStr, PyData.isList, PyData.isDict, PySem.sizeLine_eq, cond, hl])]
    simp at h
    rw [seqS_nx (by simpa using h)]
    simp
theorem meeting_ok {P : Int} {ms : List Mt} {k : Nat} (hk : k < ms.length) : p_check_meeting [.d (webD P ms), .d (.int (k : Nat))] = .ok (.d .none) [] := by
  have h1 : p_is_meeting [.d (webD P ms), .d (.int (k : Nat))] = .ok (.d (.bool true)) [] := by
    have hb := between_int (k : Nat) 0 ((ms.length : Int) - 1)
    rw [decide_eq_true (show (0 : Int) ≤ (k : Nat) by omega), decide_eq_true (show ((k : Nat) : Int) ≤ (ms.length : Int) - 1 by omega)] at hb
    unfold p_is_meeting webD
    simp [Ev.runD, Ev.startE, Ev.outsOf, Ev.retR, Ev.isN, Ev.notN, Ev.chainF, Ev.callY, Ev.permL, Ev.prep, Ev.prep1, Ev.asD, Ev.asDs, Ev.frzI, Ev.rdRs, Ev.rdR, Ev.lentP, Ev.setAllE, Ev.noB, Ev.argI, Ev.seqI, Ev.forS, Ev.unpS, Ev.setS, Ev.settle, Ev.storeM, Ev.putI, Ev.settles, Ev.storeAll, Ev.asgT, Ev.asgTs, Ev.updC, Ev.setC, Ev.tyM, Ev.tyR, Ev.appM, Ev.popM, Ev.appC, Ev.popC, Ev.dat, Ev.lst, Ev.lstOf, Ev.seqOf, Ev.isaF, Ev.isaD, Ev.lenR, Ev.allR, Ev.anyR, Ev.boolsOf, Ev.intsOf, Ev.sumR, Ev.absR, Ev.tupleR, Ev.listR, Ev.reprR, Ev.intR, Ev.divmodR, Ev.min2R, Ev.max2R, Ev.mulR, Ev.addR, Ev.subF, Ev.modF, Ev.divF, Ev.powF, Ev.i2, Ev.i2c, Ev.ixF, Ev.ixR, Ev.partM, Ev.cutF, Ev.cutR, Ev.inF, Ev.inR', Ev.dict1V, Ev.bi2, Ev.ca, Ev.negR, Ev.dKey, Ev.dKeys, Ev.truth, Ev.truM, Ev.bM, Ev.isNone, Ev.starM, Ev.sortSetR, PyData.isTuple, PyData.isInt, PyData.isBool, PyData.isStr, PyData.isList, PyData.isDict, PySem.sizeLine_eq, cond, f_is_meeting, hb]
  generalize webD P ms = W at h1 ⊢
  unfold p_check_meeting
  simp [Ev.runD, Ev.startE, Ev.outsOf, Ev.retR, Ev.isN, Ev.notN, Ev.chainF, Ev.callY, Ev.permL, Ev.prep, Ev.prep1, Ev.asD, Ev.asDs, Ev.frzI, Ev.rdRs, Ev.rdR, Ev.lentP, Ev.setAllE, Ev.noB, Ev.argI, Ev.seqI, Ev.forS, Ev.unpS, Ev.setS, Ev.settle, Ev.storeM, Ev.putI, Ev.settles, Ev.storeAll, Ev.asgT, Ev.asgTs, Ev.updC, Ev.setC, Ev.tyM, Ev.tyR, Ev.appM, Ev.popM, Ev.appC, Ev.popC, Ev.dat, Ev.lst, Ev.lstOf, Ev.seqOf, Ev.isaF, Ev.isaD, Ev.lenR, Ev.allR, Ev.anyR, Ev.boolsOf, Ev.intsOf, Ev.sumR, Ev.absR, Ev.tupleR, Ev.listR, Ev.reprR, Ev.intR, Ev.divmodR, Ev.min2R, Ev.max2R, Ev.mulR, Ev.addR, Ev.subF, Ev.modF, Ev.divF, Ev.powF, Ev.i2, Ev.i2c, Ev.ixF, Ev.ixR, Ev.partM, Ev.cutF, Ev.cutR, Ev.inF, Ev.inR', Ev.dict1V, Ev.bi2, Ev.ca, Ev.negR, Ev.dKey, Ev.dKeys, Ev.truth, Ev.truM, Ev.bM, Ev.isNone, Ev.starM, Ev.sortSetR, PyData.isTuple, PyData.isInt, PyData.isBool, PyData.isStr, PyData.isList, PyData.isDict, PySem.sizeLine_eq, cond, f_check_meeting, h1]
theorem room_ok {P : Int} {ms : List Mt} {loose : Bool} {k : Nat} {m : Mt} (h2 : 2 ≤ P) (hP6 : P ≤ 6) (hw : Web P ms) (hz : ms.length ≤ 12) (hm : ms[k]? = some m) :
    p_room [.d (webD P ms), .d (kindD loose), .d (.int (k : Nat))] = .ok (.d (.int (roomN P ms loose k m : Nat))) [] := by
  have h3 := roomb_ok (loose := loose) (by omega) hP6 hw (by omega) hm
  have h4 := meeting_ok (P := P) (List.getElem?_eq_some_iff.mp hm).1
  have h5 := checked (loose := loose) h2 hP6 hz hw
  generalize webD P ms = W at h3 h4 h5 ⊢
  generalize kindD loose = K at h3 h5 ⊢
  have h6 : p_check_roomed [.d W, .d K, .d (.int (k : Nat))] = .ok (.d .none) [] := by
    unfold p_check_roomed
    simp [Ev.runD, Ev.startE, Ev.outsOf, Ev.retR, Ev.isN, Ev.notN, Ev.chainF, Ev.callY, Ev.permL, Ev.prep, Ev.prep1, Ev.asD, Ev.asDs, Ev.frzI, Ev.rdRs, Ev.rdR, Ev.lentP, Ev.setAllE, Ev.noB, Ev.argI, Ev.seqI, Ev.forS, Ev.unpS, Ev.setS, Ev.settle, Ev.storeM, Ev.putI, Ev.settles, Ev.storeAll, Ev.asgT, Ev.asgTs, Ev.updC, Ev.setC, Ev.tyM, Ev.tyR, Ev.appM, Ev.popM, Ev.appC, Ev.popC, Ev.dat, Ev.lst, Ev.lstOf, Ev.seqOf, Ev.isaF, Ev.isaD, Ev.lenR, Ev.allR, Ev.anyR, Ev.boolsOf, Ev.intsOf, Ev.sumR, Ev.absR, Ev.tupleR, Ev.listR, Ev.reprR, Ev.intR, Ev.divmodR, Ev.min2R, Ev.max2R, Ev.mulR, Ev.addR, Ev.subF, Ev.modF, Ev.divF, Ev.powF, Ev.i2, Ev.i2c, Ev.ixF, Ev.ixR, Ev.partM, Ev.cutF, Ev.cutR, Ev.inF, Ev.inR', Ev.dict1V, Ev.bi2, Ev.ca, Ev.negR, Ev.dKey, Ev.dKeys, Ev.truth, Ev.truM, Ev.bM, Ev.isNone, Ev.starM, Ev.sortSetR, PyData.isTuple, PyData.isInt, PyData.isBool, PyData.isStr, PyData.isList, PyData.isDict, PySem.sizeLine_eq, cond, f_check_roomed, h4, h5]
  unfold p_room
  simp [Ev.runD, Ev.startE, Ev.outsOf, Ev.retR, Ev.isN, Ev.notN, Ev.chainF, Ev.callY, Ev.permL, Ev.prep, Ev.prep1, Ev.asD, Ev.asDs, Ev.frzI, Ev.rdRs, Ev.rdR, Ev.lentP, Ev.setAllE, Ev.noB, Ev.argI, Ev.seqI, Ev.forS, Ev.unpS, Ev.setS, Ev.settle, Ev.storeM, Ev.putI, Ev.settles, Ev.storeAll, Ev.asgT, Ev.asgTs, Ev.updC, Ev.setC, Ev.tyM, Ev.tyR, Ev.appM, Ev.popM, Ev.appC, Ev.popC, Ev.dat, Ev.lst, Ev.lstOf, Ev.seqOf, Ev.isaF, Ev.isaD, Ev.lenR, Ev.allR, Ev.anyR, Ev.boolsOf, Ev.intsOf, Ev.sumR, Ev.absR, Ev.tupleR, Ev.listR, Ev.reprR, Ev.intR, Ev.divmodR, Ev.min2R, Ev.max2R, Ev.mulR, Ev.addR, Ev.subF, Ev.modF, Ev.divF, Ev.powF, Ev.i2, Ev.i2c, Ev.ixF, Ev.ixR, Ev.partM, Ev.cutF, Ev.cutR, Ev.inF, Ev.inR', Ev.dict1V, Ev.bi2, Ev.ca, Ev.negR, Ev.dKey, Ev.dKeys, Ev.truth, Ev.truM, Ev.bM, Ev.isNone, Ev.starM, Ev.sortSetR, PyData.isTuple, PyData.isInt, PyData.isBool, PyData.isStr, PyData.isList, PyData.isDict, PySem.sizeLine_eq, cond, f_room, h3, h6]
end K44
set_option maxHeartbeats 1000000
namespace K44
open PySem Ev Way
/-! ### the law's own way to rooms -/
theorem cut_ms (ms : List Mt) {k : Nat} (hk : k < ms.length) : cutD (ms.map mD) none (some (k : Int)) ++ cutD (ms.map mD) (some ((k : Int) + 1)) none = (ms.eraseIdx k).map mD := by
  rw [cutD_to (by simp; omega)]
  have := cutD_from (xs := ms.map mD) (k := k + 1) (by simp; omega)
  rw [show ((k + 1 : Nat) : Int) = (k : Int) + 1 from by omega] at this
  rw [this, List.eraseIdx_eq_take_drop_succ, List.map_append, List.map_take, List.map_drop]
theorem sortRR_ms (fd : List Mt) : sortRR (.d (.tuple (fd.map mD))) = some (.n (.l ((sortM fd).map mD))) := by
  have hso := sortOk_ms fd
  have hsd := sort_ms fd
  unfold sortRR sortR
  simp only [seqOf, hso, hsd, if_true]
theorem w_lr {j : Nat} {t : Int} (b : Bool) {r0 r1 r2 r3 r4 r5 r6 r10 r11 r12 r13 : Option R} :
    w__law_right_1 [r0, r1, r2, r3, r4, r5, r6, some (.d (.int (j : Nat))), some (.d (.bool b)), some (.d (.int t)), r10, r11, r12, r13] = .ok (b && decide (t + (j : Nat) < 20)) [r0, r1, r2, r3, r4, r5, r6, some (.d (.int (j : Nat))), some (.d (.bool b)), some (.d (.int t)), r10, r11, r12, r13] := by
  unfold w__law_right_1
  cases b <;> simp [Ev.runD, Ev.startE, Ev.outsOf, Ev.retR, Ev.isN, Ev.notN, Ev.chainF, Ev.callY, Ev.permL, Ev.prep, Ev.prep1, Ev.asD, Ev.asDs, Ev.frzI, Ev.rdRs, Ev.rdR, Ev.lentP, Ev.setAllE, Ev.noB, Ev.argI, Ev.seqI, Ev.forS, Ev.unpS, Ev.setS, Ev.settle, Ev.storeM, Ev.putI, Ev.settles, Ev.storeAll, Ev.asgT, Ev.asgTs, Ev.updC, Ev.setC, Ev.tyM, Ev.tyR, Ev.appM, Ev.popM, Ev.appC, Ev.popC, Ev.dat, Ev.lst, Ev.lstOf, Ev.seqOf, Ev.isaF, Ev.isaD, Ev.lenR, Ev.allR, Ev.anyR, Ev.boolsOf, Ev.intsOf, Ev.sumR, Ev.absR, Ev.tupleR, Ev.listR, Ev.reprR, Ev.intR, Ev.divmodR, Ev.min2R, Ev.max2R, Ev.mulR, Ev.addR, Ev.subF, Ev.modF, Ev.divF, Ev.powF, Ev.i2, Ev.i2c, Ev.ixF, Ev.ixR, Ev.partM, Ev.cutF, Ev.cutR, Ev.inF, Ev.inR', Ev.dict1V, Ev.bi2, Ev.ca, Ev.negR, Ev.dKey, Ev.dKeys, Ev.truth, Ev.truM, Ev.bM, Ev.isNone, Ev.starM, Ev.sortSetR, PyData.isTuple, PyData.isInt, PyData.isBool, PyData.isStr, PyData.isList, PyData.isDict, PySem.sizeLine_eq, cond]
noncomputable def freeM : M Rv := (andV (bi2 (vVar 12) (vVar 13) (inF true)) (bi2 (callM p__law_table [] [false, false, false] (argsV [(tupV (argsV [(bi2 (vVar 2) (vC (.int 0)) ixF), (M.bind (argsV [(M.bind (argsV [(bi2 (vVar 13) (tupV (argsV [(vVar 12)])) (lift2 addR))]) (un1 sortRR))]) (un1 tupleR))])), (vVar 3), (vC (.int 19))])) (vVar 4) (look2 eqR)))
theorem bl_eq : b__law_right_2 = (seqS (asgS [0] 12 (tupV (argsV [(bi2 (bi2 (vVar 9) (vVar 7) (lift2 addR)) (vC (.int 1)) (lift2 addR)), (vVar 10), (vVar 11)])))
  (seqS (asgS [0] 13 (bi2 (sliceV (bi2 (vVar 2) (vC (.int 1)) ixF) (M.ret none) (M.bind (vVar 6) partM)) (sliceV (bi2 (vVar 2) (vC (.int 1)) ixF) (M.bind (bi2 (vVar 6) (vC (.int 1)) (lift2 addR)) partM) (M.ret none)) (lift2 addR)))
  (seqS (asgS [0] 8 freeM)
  (seqS (asgS [0] 7 (bi2 (vVar 7) (M.bind (argsV [(vVar 8)]) (un1 intR)) (lift2 addR)))
  skipS)))) := rfl
theorem freeM_ok {P : Int} {X : PyData} {ms rest : List Mt} {m : Mt} {loose : Bool} {r0 r1 r5 r6 r7 r8 r9 r10 r11 : Option R} (hP : 0 ≤ P) (hP5 : P ≤ 5) (hwl : m ∉ rest → Web P (sortM (rest ++ [m]))) (hz : rest.length ≤ 8) :
    freeM [r0, r1, some (.d (.tuple [.int P, X])), some (.d (kindD loose)), some (.d (.tuple (tblD P ms loose))), r5, r6, r7, r8, r9, r10, r11, some (.d (mD m)), some (.d (.tuple (rest.map mD)))]
      = .ok (.d (.bool (!decide (m ∈ rest) && PyData.eqv (.tuple (tblD P (sortM (rest ++ [m])) loose)) (.tuple (tblD P ms loose))))) [r0, r1, some (.d (.tuple [.int P, X])), some (.d (kindD loose)), some (.d (.tuple (tblD P ms loose))), r5, r6, r7, r8, r9, r10, r11, some (.d (mD m)), some (.d (.tuple (rest.map mD)))] := by
  have hi := in_ms m rest
  unfold freeM
  by_cases h : m ∈ rest
  · rw [decide_eq_true h] at hi ⊢
    generalize rest.map mD = RR at hi ⊢
    generalize mD m = MM at hi ⊢
    simp [Ev.runD, Ev.startE, Ev.outsOf, Ev.retR, Ev.isN, Ev.notN, Ev.chainF, Ev.callY, Ev.permL, Ev.prep, Ev.prep1, Ev.asD, Ev.asDs, Ev.frzI, Ev.rdRs, Ev.rdR, Ev.lentP, Ev.setAllE, Ev.noB, Ev.argI, Ev.seqI, Ev.forS, Ev.unpS, Ev.setS, Ev.settle, Ev.storeM, Ev.putI, Ev.settles, Ev.storeAll, Ev.asgT, Ev.asgTs, Ev.updC, Ev.setC, Ev.tyM, Ev.tyR, Ev.appM, Ev.popM, Ev.appC, Ev.popC, Ev.dat, Ev.lst, Ev.lstOf, Ev.seqOf, Ev.isaF, Ev.isaD, Ev.lenR, Ev.allR, Ev.anyR, Ev.boolsOf, Ev.intsOf, Ev.sumR, Ev.absR, Ev.tupleR, Ev.listR, Ev.reprR, Ev.intR, Ev.divmodR, Ev.min2R, Ev.max2R, Ev.mulR, Ev.addR, Ev.subF, Ev.modF, Ev.divF, Ev.powF, Ev.i2, Ev.i2c, Ev.ixF, Ev.ixR, Ev.partM, Ev.cutF, Ev.cutR, Ev.inF, Ev.dict1V, Ev.bi2, Ev.ca, Ev.negR, Ev.dKey, Ev.dKeys, Ev.truth, Ev.truM, Ev.bM, Ev.isNone, Ev.starM, Ev.sortSetR, PyData.isTuple, PyData.isInt, PyData.isBool, PyData.isStr, PyData.isList, PyData.isDict, PySem.sizeLine_eq, cond, hi]
  · have hw := hwl h
    rw [decide_eq_false h] at hi ⊢
    have hlen : (sortM (rest ++ [m])).length ≤ 9 := by rw [len_sortM, List.length_append, List.length_singleton]; omega
    have hlt := ltable_ok (loose := loose) (pt := 19) hw hP hP5 hlen
    rw [tblP_19 hw (by omega)] at hlt
    unfold webD at hlt
    have hs := sortRR_ms (rest ++ [m])
    rw [List.map_append, List.map_cons, List.map_nil] at hs
    have he := eq_tbl P ms (sortM (rest ++ [m])) loose
    have hl : (rest.map mD).length + 1 ≤ 16777216 := by rw [List.length_map]; omega
    generalize PyData.eqv (.tuple (tblD P (sortM (rest ++ [m])) loose)) (.tuple (tblD P ms loose)) = bb at he ⊢
    generalize PyData.tuple (tblD P (sortM (rest ++ [m])) loose) = T1 at hlt he
    generalize PyData.tuple (tblD P ms loose) = T0 at he ⊢
    generalize (sortM (rest ++ [m])).map mD = S at hlt hs
    generalize kindD loose = K at hlt ⊢
    generalize rest.map mD = RR at hi hs hl ⊢
    generalize mD m = MM at hi hs ⊢
    simp [Ev.runD, Ev.startE, Ev.outsOf, Ev.retR, Ev.isN, Ev.notN, Ev.chainF, Ev.callY, Ev.permL, Ev.prep, Ev.prep1, Ev.asD, Ev.asDs, Ev.frzI, Ev.rdRs, Ev.rdR, Ev.lentP, Ev.setAllE, Ev.noB, Ev.argI, Ev.seqI, Ev.forS, Ev.unpS, Ev.setS, Ev.settle, Ev.storeM, Ev.putI, Ev.settles, Ev.storeAll, Ev.asgT, Ev.asgTs, Ev.updC, Ev.setC, Ev.tyM, Ev.tyR, Ev.appM, Ev.popM, Ev.appC, Ev.popC, Ev.dat, Ev.lst, Ev.lstOf, Ev.seqOf, Ev.isaF, Ev.isaD, Ev.lenR, Ev.allR, Ev.anyR, Ev.boolsOf, Ev.intsOf, Ev.sumR, Ev.absR, Ev.tupleR, Ev.listR, Ev.reprR, Ev.intR, Ev.divmodR, Ev.min2R, Ev.max2R, Ev.mulR, Ev.addR, Ev.subF, Ev.modF, Ev.divF, Ev.powF, Ev.i2, Ev.i2c, Ev.ixF, Ev.ixR, Ev.partM, Ev.cutF, Ev.cutR, Ev.inF, Ev.dict1V, Ev.bi2, Ev.ca, Ev.negR, Ev.dKey, Ev.dKeys, Ev.truth, Ev.truM, Ev.bM, Ev.isNone, Ev.starM, Ev.sortSetR, PyData.isTuple, PyData.isInt, PyData.isBool, PyData.isStr, PyData.isList, PyData.isDict, PySem.sizeLine_eq, cond, hi, hs, hlt, he, hl]
theorem b_lr {P : Int} {ms : List Mt} {loose : Bool} {k : Nat} {m : Mt} {j : Nat} {r0 r1 r5 r8 o12 o13 : Option R} (hP : 0 ≤ P) (hP5 : P ≤ 5) (hw : Web P ms) (hz : ms.length ≤ 8) (hm : ms[k]? = some m) (hj : m.1 + (j : Nat) < 20) :
    ∃ o12' o13', b__law_right_2 [r0, r1, some (.d (webD P ms)), some (.d (kindD loose)), some (.d (.tuple (tblD P ms loose))), r5, some (.d (.int (k : Nat))), some (.d (.int (j : Nat))), r8, some (.d (.int m.1)), some (.d (.int m.2.1)), some (.d (.int m.2.2)), o12, o13]
      = .ok .nx [r0, r1, some (.d (webD P ms)), some (.d (kindD loose)), some (.d (.tuple (tblD P ms loose))), r5, some (.d (.int (k : Nat))), some (.d (.int ((if stepB P ms loose k m (j + 1) = true then j + 1 else j : Nat) : Int))), some (.d (.bool (stepB P ms loose k m (j + 1)))), some (.d (.int m.1)), some (.d (.int m.2.1)), some (.d (.int m.2.2)), o12', o13'] := by
  have hmem := List.mem_of_getElem? hm
  have hk : k < ms.length := (List.getElem?_eq_some_iff.mp hm).1
  have hl := List.length_eraseIdx_le ms k
  have hc := cut_ms ms hk
  have hst : stepB P ms loose k m (j + 1) = (!decide (movedM m ((j + 1 : Nat) : Int) ∈ ms.eraseIdx k) && PyData.eqv (.tuple (tblD P (sortM (ms.eraseIdx k ++ [movedM m ((j + 1 : Nat) : Int)])) loose)) (.tuple (tblD P ms loose))) := by
    have h20 : decide (m.1 + ((j + 1 : Nat) : Int) ≤ 20) = true := decide_eq_true (by omega)
    unfold stepB goB laterM
    rw [h20, Bool.true_and]
  have hf := freeM_ok (P := P) (X := .tuple (ms.map mD)) (ms := ms) (rest := ms.eraseIdx k) (m := movedM m ((j + 1 : Nat) : Int)) (loose := loose) (r0 := r0) (r1 := r1) (r5 := r5) (r6 := some (.d (.int (k : Nat)))) (r7 := some (.d (.int (j : Nat)))) (r8 := r8) (r9 := some (.d (.int m.1))) (r10 := some (.d (.int m.2.1))) (r11 := some (.d (.int m.2.2))) hP hP5 (fun hn => web_later hw hmem (j := ((j + 1 : Nat) : Int)) (by omega) (by unfold goB; rw [decide_eq_true (by omega), decide_eq_false hn]; rfl)) (by omega)
  rw [← hst] at hf
  have hmv : PyData.tuple [.int (m.1 + (j : Int) + 1), .int m.2.1, .int m.2.2] = mD (movedM m ((j + 1 : Nat) : Int)) := by
    have e : m.1 + (j : Int) + 1 = m.1 + ((j + 1 : Nat) : Int) := by omega
    rw [e]; rfl
  have z1 : (cutD (ms.map mD) none (some (k : Int))).length + (cutD (ms.map mD) (some ((k : Int) + 1)) none).length ≤ 16777216 := by
    rw [← List.length_append, hc, List.length_map]; omega
  refine ⟨some (.d (mD (movedM m ((j + 1 : Nat) : Int)))), some (.d (.tuple ((ms.eraseIdx k).map mD))), ?_⟩
  rw [bl_eq]
  unfold webD
  generalize stepB P ms loose k m (j + 1) = bb at hf ⊢
  generalize (ms.eraseIdx k).map mD = RR at hf hc ⊢
  generalize ms.map mD = X at hf hc z1 ⊢
  generalize mD (movedM m ((j + 1 : Nat) : Int)) = MM at hf hmv ⊢
  generalize PyData.tuple (tblD P ms loose) = T at hf ⊢
  generalize kindD loose = K at hf ⊢
  rw [seqS_nx (env1 := [r0, r1, some (.d (.tuple [.int P, .tuple X])), some (.d K), some (.d T), r5, some (.d (.int (k : Nat))), some (.d (.int (j : Nat))), r8, some (.d (.int m.1)), some (.d (.int m.2.1)), some (.d (.int m.2.2)), some (.d MM), o13]) (by simp [Ev.runD, Ev.startE, Ev.outsOf, Ev.retR, Ev.isN, Ev.notN, Ev.chainF, Ev.callY, Ev.permL, Ev.prep, Ev.prep1, Ev.asD, Ev.asDs, Ev.frzI, Ev.rdRs, Ev.rdR, Ev.lentP, Ev.setAllE, Ev.noB, Ev.argI, Ev.seqI, Ev.forS, Ev.unpS, Ev.setS, Ev.settle, Ev.storeM, Ev.putI, Ev.settles, Ev.storeAll, Ev.asgT, Ev.asgTs, Ev.updC, Ev.setC, Ev.tyM, Ev.tyR, Ev.appM, Ev.popM, Ev.appC, Ev.popC, Ev.dat, Ev.lst, Ev.lstOf, Ev.seqOf, Ev.isaF, Ev.isaD, Ev.lenR, Ev.allR, Ev.anyR, Ev.boolsOf, Ev.intsOf, Ev.sumR, Ev.absR, Ev.tupleR, Ev.listR, Ev.reprR, Ev.intR, Ev.divmodR, Ev.min2R, Ev.max2R, Ev.mulR, Ev.addR, Ev.subF, Ev.modF, Ev.divF, Ev.powF, Ev.i2, Ev.i2c, Ev.ixF, Ev.ixR, Ev.partM, Ev.cutF, Ev.cutR, Ev.inF, Ev.inR', Ev.dict1V, Ev.bi2, Ev.ca, Ev.negR, Ev.dKey, Ev.dKeys, Ev.truth, Ev.truM, Ev.bM, Ev.isNone, Ev.starM, Ev.sortSetR, PyData.isTuple, PyData.isInt, PyData.isBool, PyData.isStr, PyData.isList, PyData.isDict, PySem.sizeLine_eq, cond, hmv])]
  rw [seqS_nx (env1 := [r0, r1, some (.d (.tuple [.int P, .tuple X])), some (.d K), some (.d T), r5, some (.d (.int (k : Nat))), some (.d (.int (j : Nat))), r8, some (.d (.int m.1)), some (.d (.int m.2.1)), some (.d (.int m.2.2)), some (.d MM), some (.d (.tuple RR))]) (by simp [Ev.runD, Ev.startE, Ev.outsOf, Ev.retR, Ev.isN, Ev.notN, Ev.chainF, Ev.callY, Ev.permL, Ev.prep, Ev.prep1, Ev.asD, Ev.asDs, Ev.frzI, Ev.rdRs, Ev.rdR, Ev.lentP, Ev.setAllE, Ev.noB, Ev.argI, Ev.seqI, Ev.forS, Ev.unpS, Ev.setS, Ev.settle, Ev.storeM, Ev.putI, Ev.settles, Ev.storeAll, Ev.asgT, Ev.asgTs, Ev.updC, Ev.setC, Ev.tyM, Ev.tyR, Ev.appM, Ev.popM, Ev.appC, Ev.popC, Ev.dat, Ev.lst, Ev.lstOf, Ev.seqOf, Ev.isaF, Ev.isaD, Ev.lenR, Ev.allR, Ev.anyR, Ev.boolsOf, Ev.intsOf, Ev.sumR, Ev.absR, Ev.tupleR, Ev.listR, Ev.reprR, Ev.intR, Ev.divmodR, Ev.min2R, Ev.max2R, Ev.mulR, Ev.addR, Ev.subF, Ev.modF, Ev.divF, Ev.powF, Ev.i2, Ev.i2c, Ev.ixF, Ev.ixR, Ev.partM, Ev.cutF, Ev.cutR, Ev.inF, Ev.inR', Ev.dict1V, Ev.bi2, Ev.ca, Ev.negR, Ev.dKey, Ev.dKeys, Ev.truth, Ev.truM, Ev.bM, Ev.isNone, Ev.starM, Ev.sortSetR, PyData.isTuple, PyData.isInt, PyData.isBool, PyData.isStr, PyData.isList, PyData.isDict, PySem.sizeLine_eq, cond, z1, hc])]
  rw [seqS_nx (env1 := [r0, r1, some (.d (.tuple [.int P, .tuple X])), some (.d K), some (.d T), r5, some (.d (.int (k : Nat))), some (.d (.int (j : Nat))), some (.d (.bool bb)), some (.d (.int m.1)), some (.d (.int m.2.1)), some (.d (.int m.2.2)), some (.d MM), some (.d (.tuple RR))]) (by rw [asgS_eq, bind_eq, hf]; simp [Ev.runD, Ev.startE, Ev.outsOf, Ev.retR, Ev.isN, Ev.notN, Ev.chainF, Ev.callY, Ev.permL, Ev.prep, Ev.prep1, Ev.asD, Ev.asDs, Ev.frzI, Ev.rdRs, Ev.rdR, Ev.lentP, Ev.setAllE, Ev.noB, Ev.argI, Ev.seqI, Ev.forS, Ev.unpS, Ev.setS, Ev.settle, Ev.storeM, Ev.putI, Ev.settles, Ev.storeAll, Ev.asgT, Ev.asgTs, Ev.updC, Ev.setC, Ev.tyM, Ev.tyR, Ev.appM, Ev.popM, Ev.appC, Ev.popC, Ev.dat, Ev.lst, Ev.lstOf, Ev.seqOf, Ev.isaF, Ev.isaD, Ev.lenR, Ev.allR, Ev.anyR, Ev.boolsOf, Ev.intsOf, Ev.sumR, Ev.absR, Ev.tupleR, Ev.listR, Ev.reprR, Ev.intR, Ev.divmodR, Ev.min2R, Ev.max2R, Ev.mulR, Ev.addR, Ev.subF, Ev.modF, Ev.divF, Ev.powF, Ev.i2, Ev.i2c, Ev.ixF, Ev.ixR, Ev.partM, Ev.cutF, Ev.cutR, Ev.inF, Ev.inR', Ev.dict1V, Ev.bi2, Ev.ca, Ev.negR, Ev.dKey, Ev.dKeys, Ev.truth, Ev.truM, Ev.bM, Ev.isNone, Ev.starM, Ev.sortSetR, PyData.isTuple, PyData.isInt, PyData.isBool, PyData.isStr, PyData.isList, PyData.isDict, PySem.sizeLine_eq, cond])]
  cases bb <;> simp [Ev.runD, Ev.startE, Ev.outsOf, Ev.retR, Ev.isN, Ev.notN, Ev.chainF, Ev.callY, Ev.permL, Ev.prep, Ev.prep1, Ev.asD, Ev.asDs, Ev.frzI, Ev.rdRs, Ev.rdR, Ev.lentP, Ev.setAllE, Ev.noB, Ev.argI, Ev.seqI, Ev.forS, Ev.unpS, Ev.setS, Ev.settle, Ev.storeM, Ev.putI, Ev.settles, Ev.storeAll, Ev.asgT, Ev.asgTs, Ev.updC, Ev.setC, Ev.tyM, Ev.tyR, Ev.appM, Ev.popM, Ev.appC, Ev.popC, Ev.dat, Ev.lst, Ev.lstOf, Ev.seqOf, Ev.isaF, Ev.isaD, Ev.lenR, Ev.allR, Ev.anyR, Ev.boolsOf, Ev.intsOf, Ev.sumR, Ev.absR, Ev.tupleR, Ev.listR, Ev.reprR, Ev.intR, Ev.divmodR, Ev.min2R, Ev.max2R, Ev.mulR, Ev.addR, Ev.subF, Ev.modF, Ev.divF, Ev.powF, Ev.i2, Ev.i2c, Ev.ixF, Ev.ixR, Ev.partM, Ev.cutF, Ev.cutR, Ev.inF, Ev.inR', Ev.dict1V, Ev.bi2, Ev.ca, Ev.negR, Ev.dKey, Ev.dKeys, Ev.truth, Ev.truM, Ev.bM, Ev.isNone, Ev.starM, Ev.sortSetR, PyData.isTuple, PyData.isInt, PyData.isBool, PyData.isStr, PyData.isList, PyData.isDict, PySem.sizeLine_eq, cond]
theorem lr_w {P : Int} {ms : List Mt} {loose : Bool} {k : Nat} {m : Mt} {r0 r1 r5 o12 o13 : Option R} (hP : 0 ≤ P) (hP5 : P ≤ 5) (hw : Web P ms) (hz : ms.length ≤ 8) (hm : ms[k]? = some m) :
    ∃ o8 o12' o13', whileW w__law_right_1 b__law_right_2 [r0, r1, some (.d (webD P ms)), some (.d (kindD loose)), some (.d (.tuple (tblD P ms loose))), r5, some (.d (.int (k : Nat))), some (.d (.int ((0 : Nat) : Int))), some (.d (.bool true)), some (.d (.int m.1)), some (.d (.int m.2.1)), some (.d (.int m.2.2)), o12, o13]
      = .ok .nx [r0, r1, some (.d (webD P ms)), some (.d (kindD loose)), some (.d (.tuple (tblD P ms loose))), r5, some (.d (.int (k : Nat))), some (.d (.int (roomN P ms loose k m : Nat))), o8, some (.d (.int m.1)), some (.d (.int m.2.1)), some (.d (.int m.2.2)), o12', o13'] := by
  have hmem := List.mem_of_getElem? hm
  have hno : ∀ j : Nat, 20 ≤ m.1 + (j : Nat) → stepB P ms loose k m (j + 1) = false := fun j hj => by
    unfold stepB goB
    rw [decide_eq_false (by omega)]
    simp
  have h1 := (hw.1 m hmem).t1
  obtain ⟨env', e1, o8, o12', o13', rfl⟩ := whileW_ind (c := w__law_right_1) (f := b__law_right_2)
    (Inv := fun n env => ∃ (j : Nat) (b : Bool) (o12 o13 : Option R), env = [r0, r1, some (.d (webD P ms)), some (.d (kindD loose)), some (.d (.tuple (tblD P ms loose))), r5, some (.d (.int (k : Nat))), some (.d (.int (j : Nat))), some (.d (.bool b)), some (.d (.int m.1)), some (.d (.int m.2.1)), some (.d (.int m.2.2)), o12, o13] ∧
      ((b = true ∧ ∃ n', n = n' + 1 ∧ n' + j = 20 ∧ cntF (stepB P ms loose k m) n' j = roomN P ms loose k m) ∨ (b = false ∧ n = 0 ∧ j = roomN P ms loose k m)))
    (Q := fun env => ∃ o8 o12' o13', env = [r0, r1, some (.d (webD P ms)), some (.d (kindD loose)), some (.d (.tuple (tblD P ms loose))), r5, some (.d (.int (k : Nat))), some (.d (.int (roomN P ms loose k m : Nat))), o8, some (.d (.int m.1)), some (.d (.int m.2.1)), some (.d (.int m.2.2)), o12', o13'])
    (fun n env hI => by
      obtain ⟨j, b, o12, o13, rfl, hI⟩ := hI
      have ht := w_lr (j := j) (t := m.1) b (r0 := r0) (r1 := r1) (r2 := some (.d (webD P ms))) (r3 := some (.d (kindD loose))) (r4 := some (.d (.tuple (tblD P ms loose)))) (r5 := r5) (r6 := some (.d (.int (k : Nat)))) (r10 := some (.d (.int m.2.1))) (r11 := some (.d (.int m.2.2))) (r12 := o12) (r13 := o13)
      rcases hI with ⟨rfl, n', rfl, hn, hc⟩ | ⟨rfl, rfl, rfl⟩
      · by_cases hlt : m.1 + (j : Nat) < 20
        · rw [decide_eq_true hlt] at ht
          right
          obtain ⟨p12, p13, hb⟩ := b_lr (r0 := r0) (r1 := r1) (r5 := r5) (r8 := some (.d (.bool true))) (o12 := o12) (o13 := o13) (loose := loose) hP hP5 hw hz hm hlt
          cases hs : stepB P ms loose k m (j + 1) with
          | false =>
            rw [hs] at hb
            refine ⟨_, _, 0, ht, hb, by omega, j, false, p12, p13, rfl, .inr ⟨rfl, rfl, ?_⟩⟩
            rw [← hc]
            cases n' with
            | zero => rfl
            | succ n' => unfold cntF; rw [hs]; simp
          | true =>
            rw [hs] at hb
            cases n' with
            | zero => omega
            | succ n' =>
              refine ⟨_, _, n' + 1, ht, hb, by omega, j + 1, true, p12, p13, rfl, .inl ⟨rfl, n', rfl, by omega, ?_⟩⟩
              rw [← hc, cntF, hs]
              simp
        · rw [decide_eq_false hlt] at ht
          left
          refine ⟨_, ht, some (.d (.bool true)), o12, o13, ?_⟩
          have hs := hno j (by omega)
          have : cntF (stepB P ms loose k m) n' j = j := by
            cases n' with
            | zero => rfl
            | succ n => unfold cntF; rw [hs]; simp
          rw [← hc, this]
      · left
        rw [Bool.false_and] at ht
        exact ⟨_, ht, _, _, _, rfl⟩)
    21 _ ⟨0, true, o12, o13, rfl, .inl ⟨rfl, 20, rfl, by omega, rfl⟩⟩
  exact ⟨o8, o12', o13', e1⟩
end K44
set_option maxHeartbeats 1000000
namespace K44
open PySem Ev Way
/-! ### the last question -/
def msR : List Mt := [(1, 0, 1), (2, 1, 2)]
theorem webR : Web 3 msR := by
  refine ⟨fun m hm => ?_, ?_⟩
  · simp only [msR, List.mem_cons, List.not_mem_nil, or_false] at hm
    rcases hm with rfl | rfl <;> exact ⟨by decide, by decide, by decide, by decide, by decide⟩
  · simp [msR, mlt]
section
variable {ms : List Mt} {t : Int} (h : ∀ q, q ∈ ms ↔ q = (1, 0, 1) ∨ q = (t, 1, 2)) (ht : 2 ≤ t)
include h ht
theorem rch2 {p l : Int} (hr : Rch ms false 2 p l) : p = 2 ∨ (p = 1 ∧ t ≤ l) := by
  induction hr with
  | base => exact .inl rfl
  | @step p l t' a b hr hm hl hab ih =>
    have hl : l < t' := by
      rcases hl with e | ⟨_, e⟩
      · exact e
      · cases e
    rcases (h _).mp hm with e | e
    · cases e
      rcases ih with ih | ⟨ih, ih2⟩ <;> omega
    · cases e
      rcases ih with ih | ⟨ih, ih2⟩ <;> omega
theorem comeR : comeOf 3 ms false 0 = [0, 1, 2] ∧ comeOf 3 ms false 1 = [0, 1, 2] ∧ comeOf 3 ms false 2 = [1, 2] := by
  have m1 : (1, 0, 1) ∈ ms := (h _).mpr (.inl rfl)
  have m2 : (t, 1, 2) ∈ ms := (h _).mpr (.inr rfl)
  have go : ∀ {s p l t a b : Int}, Rch ms false s p l → (t, a, b) ∈ ms → l < t → (p = a ∨ p = b) → ∀ q, q = a + b - p → Rch ms false s q t := fun {s p l t a b} hr hm hl hab q hq => by
    rw [hq]; exact .step hr hm (.inl hl) hab
  refine ⟨asc_uni asc_come (by simp) fun p => ?_, asc_uni asc_come (by simp) fun p => ?_, asc_uni asc_come (by simp) fun p => ?_⟩
  · rw [mem_come]
    constructor
    · rintro ⟨h1, _⟩; simp; omega
    · intro hp
      have r0 : Rch ms false 0 0 0 := .base
      have r1 := go r0 m1 (by omega) (.inl rfl) 1 (by omega)
      have r2 := go r1 m2 (by omega) (.inl rfl) 2 (by omega)
      simp at hp
      rcases hp with rfl | rfl | rfl
      · exact ⟨by omega, _, r0⟩
      · exact ⟨by omega, _, r1⟩
      · exact ⟨by omega, _, r2⟩
  · rw [mem_come]
    constructor
    · rintro ⟨h1, _⟩; simp; omega
    · intro hp
      have r1 : Rch ms false 1 1 0 := .base
      have r0 := go r1 m1 (by omega) (.inr rfl) 0 (by omega)
      have r2 := go r1 m2 (by omega) (.inl rfl) 2 (by omega)
      simp at hp
      rcases hp with rfl | rfl | rfl
      · exact ⟨by omega, _, r0⟩
      · exact ⟨by omega, _, r1⟩
      · exact ⟨by omega, _, r2⟩
  · rw [mem_come]
    constructor
    · rintro ⟨h1, l, hr⟩
      have := rch2 h ht hr
      simp; omega
    · intro hp
      have r2 : Rch ms false 2 2 0 := .base
      have r1 := go r2 m2 (by omega) (.inr rfl) 1 (by omega)
      simp at hp
      rcases hp with rfl | rfl
      · exact ⟨by omega, _, r1⟩
      · exact ⟨by omega, _, r2⟩
theorem tblR : tblD 3 ms false = [.tuple [.int 0, .int 1, .int 2], .tuple [.int 0, .int 1, .int 2], .tuple [.int 1, .int 2]] := by
  obtain ⟨e0, e1, e2⟩ := comeR h ht
  have e0 : comeOf 3 ms false ((0 : Nat) : Int) = [0, 1, 2] := e0
  have e1 : comeOf 3 ms false ((1 : Nat) : Int) = [0, 1, 2] := e1
  have e2 : comeOf 3 ms false ((2 : Nat) : Int) = [1, 2] := e2
  unfold tblD
  show (List.range 3).map _ = _
  rw [List.range_succ, List.range_succ, List.range_succ]
  simp only [List.range_zero, List.nil_append, List.map_cons, List.map_nil, List.map_append, List.cons_append, e0, e1, e2]
  rfl
end
theorem stepR {j : Nat} (h1 : 1 ≤ j) (h2 : j ≤ 18) : stepB 3 msR false 1 (2, 1, 2) j = true := by
  have hb : tblD 3 msR false = _ := tblR (t := 2) (fun q => by simp [msR]) (by omega)
  have hl : tblD 3 (laterM msR 1 (2, 1, 2) (j : Nat)) false = _ := tblR (t := 2 + (j : Nat)) (fun q => by
    unfold laterM
    rw [mem_sortM]
    simp [msR, movedM]) (by omega)
  have hs : PyData.eqv (.tuple [.tuple [.int 0, .int 1, .int 2], .tuple [.int 0, .int 1, .int 2], .tuple [.int 1, .int 2]]) (.tuple [.tuple [.int 0, .int 1, .int 2], .tuple [.int 0, .int 1, .int 2], .tuple [.int 1, .int 2]]) = true := by simp [PyData.eqv, PyData.eqvAll]
  unfold stepB goB
  rw [hb, hl, hs, decide_eq_true (by simp only; omega), decide_eq_false]
  · rfl
  · simp [msR, movedM]
theorem roomR : roomN 3 msR false 1 (2, 1, 2) = 18 := by
  refine cntF_of (fun j h1 h2 => stepR h1 h2) ?_ 20 0 (by omega) (by omega)
  unfold stepB goB
  rw [decide_eq_false (by decide)]
  simp
theorem roomH : p_room [.d (.tuple [.int 3, .tuple [.tuple [.int 1, .int 0, .int 1], .tuple [.int 2, .int 1, .int 2]]]), .d (.str "strict"), .d (.int 1)] = .ok (.d (.int 18)) [] := by
  have := room_ok (loose := false) (k := 1) (m := (2, 1, 2)) (by omega) (by omega) webR (by simp [msR]) rfl
  rw [roomR] at this
  exact this
/-! ### one turn of the law's look -/
theorem cntF_le (f : Nat → Bool) : ∀ (n j : Nat), cntF f n j ≤ j + n
  | 0, j => by simp [cntF]
  | n + 1, j => by
    unfold cntF
    have := cntF_le f n (j + 1)
    split <;> omega
theorem rep_ints {N : Nat} (h : N ≤ 20) : reprOk (.list [.int (N : Nat), .int (N : Nat)]) = true ∧ PyData.strOk (PyData.shown (.list [.int (N : Nat), .int (N : Nat)])) = true := by
  refine repr_num ?_ ?_ ?_ (.inl ⟨_, rfl⟩)
  · simp [numD, numDs]; omega
  · have hl : N.log2 < 10 := by
      by_cases e : N = 0
      · subst e; decide
      · rw [Nat.log2_lt e]; omega
    simp only [PyData.weight, PyData.weightAll, Int.natAbs_natCast]
    split <;> omega
  · simp [PyData.depth, PyData.depthAll]
noncomputable def reprM : M Bool := (vB (bi2 (M.bind (argsV [(lstV (argsV [(callM p_room [] [false, false, false] (argsV [(vVar 2), (vVar 3), (vVar 6)])), (callKM p_room [] [false, false, false] [2, 1, 0] (M.ret []) (argsV [(vVar 6), (vVar 3), (vVar 2)]))]))]) (un1 reprR)) (M.bind (argsV [(lstV (argsV [(vVar 7), (vVar 7)]))]) (un1 reprR)) (look2 neR)))
theorem b3_eq' : b__law_right_3 = (seqS (parS [0] [6, 7, 8] (argsV [(callM p__law_take [0] [true, false] (argsV [(vVar 0), (M.bind (argsV [(bi2 (vVar 2) (vC (.int 1)) ixF)]) (un1 lenR))])), (vC (.int 0)), (vC (.bool true))]))
  (seqS (unpS [0] (.t [(.n 9), (.n 10), (.n 11)]) (bi2 (bi2 (vVar 2) (vC (.int 1)) ixF) (vVar 6) ixF))
  (seqS (whileW w__law_right_1 b__law_right_2)
  (seqS (ifS reprM (seqS (retS (vC (.bool false))) skipS) skipS)
  skipS)))) := rfl
theorem reprM_ok {W K : PyData} {k N : Int} {r0 r1 r4 r5 r8 r9 r10 r11 r12 r13 : Option R} (hid : p_room [.d W, .d K, .d (.int k)] = .ok (.d (.int N)) []) (hr : reprOk (.list [.int N, .int N]) = true) (hs : PyData.strOk (PyData.shown (.list [.int N, .int N])) = true) :
    reprM [r0, r1, some (.d W), some (.d K), r4, r5, some (.d (.int k)), some (.d (.int N)), r8, r9, r10, r11, r12, r13] = .ok false [r0, r1, some (.d W), some (.d K), r4, r5, some (.d (.int k)), some (.d (.int N)), r8, r9, r10, r11, r12, r13] := by
  have hn := ne_str hs
  unfold reprM
  simp [Ev.runD, Ev.startE, Ev.outsOf, Ev.retR, Ev.isN, Ev.notN, Ev.chainF, Ev.callY, Ev.permL, Ev.prep, Ev.prep1, Ev.asD, Ev.asDs, Ev.frzI, Ev.rdRs, Ev.rdR, Ev.lentP, Ev.setAllE, Ev.noB, Ev.argI, Ev.seqI, Ev.forS, Ev.unpS, Ev.setS, Ev.settle, Ev.storeM, Ev.putI, Ev.settles, Ev.storeAll, Ev.asgT, Ev.asgTs, Ev.updC, Ev.setC, Ev.tyM, Ev.tyR, Ev.appM, Ev.popM, Ev.appC, Ev.popC, Ev.dat, Ev.lst, Ev.lstOf, Ev.seqOf, Ev.isaF, Ev.isaD, Ev.lenR, Ev.allR, Ev.anyR, Ev.boolsOf, Ev.intsOf, Ev.sumR, Ev.absR, Ev.tupleR, Ev.listR, Ev.reprR, Ev.intR, Ev.divmodR, Ev.min2R, Ev.max2R, Ev.mulR, Ev.addR, Ev.subF, Ev.modF, Ev.divF, Ev.powF, Ev.i2, Ev.i2c, Ev.ixF, Ev.ixR, Ev.partM, Ev.cutF, Ev.cutR, Ev.inF, Ev.inR', Ev.dict1V, Ev.bi2, Ev.ca, Ev.negR, Ev.dKey, Ev.dKeys, Ev.truth, Ev.truM, Ev.bM, Ev.isNone, Ev.starM, Ev.sortSetR, PyData.isTuple, PyData.isInt, PyData.isBool, PyData.isStr, PyData.isList, PyData.isDict, PySem.sizeLine_eq, cond, hid, hr, hn]
theorem turn_ok {n : Nat} {c : C} {P : Int} {ms : List Mt} {loose : Bool} {r1 r5 o6 o7 o8 o9 o10 o11 o12 o13 : Option R} (hc : PoolOk n c) (hn : n < 900000) (hP : 2 ≤ P) (hP5 : P ≤ 5) (hw : Web P ms) (hz : ms.length ≤ 8) (hpos : 0 < ms.length) :
    ∃ (c' : C) (p6 p7 p8 p9 p10 p11 p12 p13 : Option R), b__law_right_3 [some (.c c), r1, some (.d (webD P ms)), some (.d (kindD loose)), some (.d (.tuple (tblD P ms loose))), r5, o6, o7, o8, o9, o10, o11, o12, o13]
      = .ok .nx [some (.c c'), r1, some (.d (webD P ms)), some (.d (kindD loose)), some (.d (.tuple (tblD P ms loose))), r5, p6, p7, p8, p9, p10, p11, p12, p13] ∧ PoolOk (n + 1) c' := by
  obtain ⟨d, c', e1, e2, d0, d1⟩ := take_ok (z := (ms.length : Nat)) hc (by omega) (by omega) (by omega)
  have hk : d.toNat < ms.length := by omega
  have hd : ((d.toNat : Nat) : Int) = d := by omega
  generalize d.toNat = k at hk hd
  subst hd
  obtain ⟨m, hm⟩ : ∃ m, ms[k]? = some m := ⟨_, List.getElem?_eq_getElem hk⟩
  have hat : L2.atI (ms.map mD) (k : Int) = some (mD m) := by
    rw [atI_nat (by simpa using hk), List.getElem?_map, hm]; rfl
  obtain ⟨o8', o12', o13', hwh⟩ := lr_w (r0 := some (.c c')) (r1 := r1) (r5 := r5) (o12 := o12) (o13 := o13) (loose := loose) (by omega) hP5 hw hz hm
  have hroom := room_ok (loose := loose) hP (by omega) hw (by omega) hm
  have hN : roomN P ms loose k m ≤ 20 := by
    have := cntF_le (stepB P ms loose k m) 20 0
    exact Nat.le_trans this (by omega)
  obtain ⟨h1, h2⟩ := rep_ints hN
  have hre := reprM_ok (r0 := some (.c c')) (r1 := r1) (r4 := some (.d (.tuple (tblD P ms loose)))) (r5 := r5) (r8 := o8') (r9 := some (.d (.int m.1))) (r10 := some (.d (.int m.2.1))) (r11 := some (.d (.int m.2.2))) (r12 := o12') (r13 := o13') hroom h1 h2
  refine ⟨c', some (.d (.int (k : Nat))), some (.d (.int (roomN P ms loose k m : Nat))), o8', some (.d (.int m.1)), some (.d (.int m.2.1)), some (.d (.int m.2.2)), o12', o13', ?_, e2⟩
  have hlen : argsV [(M.bind (argsV [(bi2 (vVar 2) (vC (.int 1)) ixF)]) (un1 lenR))] [some (.c c), r1, some (.d (webD P ms)), some (.d (kindD loose)), some (.d (.tuple (tblD P ms loose))), r5, o6, o7, o8, o9, o10, o11, o12, o13] = .ok [.d (.int (ms.length : Nat))] [some (.c c), r1, some (.d (webD P ms)), some (.d (kindD loose)), some (.d (.tuple (tblD P ms loose))), r5, o6, o7, o8, o9, o10, o11, o12, o13] := by
    simp [Ev.runD, Ev.startE, Ev.outsOf, Ev.retR, Ev.isN, Ev.notN, Ev.chainF, Ev.callY, Ev.permL, Ev.prep, Ev.prep1, Ev.asD, Ev.asDs, Ev.frzI, Ev.rdRs, Ev.rdR, Ev.lentP, Ev.setAllE, Ev.noB, Ev.argI, Ev.seqI, Ev.forS, Ev.unpS, Ev.setS, Ev.settle, Ev.storeM, Ev.putI, Ev.settles, Ev.storeAll, Ev.asgT, Ev.asgTs, Ev.updC, Ev.setC, Ev.tyM, Ev.tyR, Ev.appM, Ev.popM, Ev.appC, Ev.popC, Ev.dat, Ev.lst, Ev.lstOf, Ev.seqOf, Ev.isaF, Ev.isaD, Ev.lenR, Ev.allR, Ev.anyR, Ev.boolsOf, Ev.intsOf, Ev.sumR, Ev.absR, Ev.tupleR, Ev.listR, Ev.reprR, Ev.intR, Ev.divmodR, Ev.min2R, Ev.max2R, Ev.mulR, Ev.addR, Ev.subF, Ev.modF, Ev.divF, Ev.powF, Ev.i2, Ev.i2c, Ev.ixF, Ev.ixR, Ev.partM, Ev.cutF, Ev.cutR, Ev.inF, Ev.inR', Ev.dict1V, Ev.bi2, Ev.ca, Ev.negR, Ev.dKey, Ev.dKeys, Ev.truth, Ev.truM, Ev.bM, Ev.isNone, Ev.starM, Ev.sortSetR, PyData.isTuple, PyData.isInt, PyData.isBool, PyData.isStr, PyData.isList, PyData.isDict, PySem.sizeLine_eq, cond, webD]
  rw [b3_eq']
  rw [seqS_nx (env1 := [some (.c c'), r1, some (.d (webD P ms)), some (.d (kindD loose)), some (.d (.tuple (tblD P ms loose))), r5, some (.d (.int (k : Nat))), some (.d (.int ((0 : Nat) : Int))), some (.d (.bool true)), o9, o10, o11, o12, o13]) (by
    have hz2 : ((ms.map mD).length : Int) = (ms.length : Nat) := by simp
    unfold webD
    generalize ms.map mD = X at hz2 ⊢
    simp [Ev.runD, Ev.startE, Ev.outsOf, Ev.retR, Ev.isN, Ev.notN, Ev.chainF, Ev.callY, Ev.permL, Ev.prep, Ev.prep1, Ev.asD, Ev.asDs, Ev.frzI, Ev.rdRs, Ev.rdR, Ev.lentP, Ev.setAllE, Ev.noB, Ev.argI, Ev.seqI, Ev.forS, Ev.unpS, Ev.setS, Ev.settle, Ev.storeM, Ev.putI, Ev.settles, Ev.storeAll, Ev.asgT, Ev.asgTs, Ev.updC, Ev.setC, Ev.tyM, Ev.tyR, Ev.appM, Ev.popM, Ev.appC, Ev.popC, Ev.dat, Ev.lst, Ev.lstOf, Ev.seqOf, Ev.isaF, Ev.isaD, Ev.lenR, Ev.allR, Ev.anyR, Ev.boolsOf, Ev.intsOf, Ev.sumR, Ev.absR, Ev.tupleR, Ev.listR, Ev.reprR, Ev.intR, Ev.divmodR, Ev.min2R, Ev.max2R, Ev.mulR, Ev.addR, Ev.subF, Ev.modF, Ev.divF, Ev.powF, Ev.i2, Ev.i2c, Ev.ixF, Ev.ixR, Ev.partM, Ev.cutF, Ev.cutR, Ev.inF, Ev.inR', Ev.dict1V, Ev.bi2, Ev.ca, Ev.negR, Ev.dKey, Ev.dKeys, Ev.truth, Ev.truM, Ev.bM, Ev.isNone, Ev.starM, Ev.sortSetR, PyData.isTuple, PyData.isInt, PyData.isBool, PyData.isStr, PyData.isList, PyData.isDict, PySem.sizeLine_eq, cond, hz2, e1])]
  rw [seqS_nx (env1 := [some (.c c'), r1, some (.d (webD P ms)), some (.d (kindD loose)), some (.d (.tuple (tblD P ms loose))), r5, some (.d (.int (k : Nat))), some (.d (.int ((0 : Nat) : Int))), some (.d (.bool true)), some (.d (.int m.1)), some (.d (.int m.2.1)), some (.d (.int m.2.2)), o12, o13]) (unpS_ok (d := mD m) (env1 := [some (.c c'), r1, some (.d (webD P ms)), some (.d (kindD loose)), some (.d (.tuple (tblD P ms loose))), r5, some (.d (.int (k : Nat))), some (.d (.int ((0 : Nat) : Int))), some (.d (.bool true)), o9, o10, o11, o12, o13]) (by
    unfold webD
    generalize ms.map mD = X at hat ⊢
    simp [Ev.runD, Ev.startE, Ev.outsOf, Ev.retR, Ev.isN, Ev.notN, Ev.chainF, Ev.callY, Ev.permL, Ev.prep, Ev.prep1, Ev.asD, Ev.asDs, Ev.frzI, Ev.rdRs, Ev.rdR, Ev.lentP, Ev.setAllE, Ev.noB, Ev.argI, Ev.seqI, Ev.forS, Ev.unpS, Ev.setS, Ev.settle, Ev.storeM, Ev.putI, Ev.settles, Ev.storeAll, Ev.asgT, Ev.asgTs, Ev.updC, Ev.setC, Ev.tyM, Ev.tyR, Ev.appM, Ev.popM, Ev.appC, Ev.popC, Ev.dat, Ev.lst, Ev.lstOf, Ev.seqOf, Ev.isaF, Ev.isaD, Ev.lenR, Ev.allR, Ev.anyR, Ev.boolsOf, Ev.intsOf, Ev.sumR, Ev.absR, Ev.tupleR, Ev.listR, Ev.reprR, Ev.intR, Ev.divmodR, Ev.min2R, Ev.max2R, Ev.mulR, Ev.addR, Ev.subF, Ev.modF, Ev.divF, Ev.powF, Ev.i2, Ev.i2c, Ev.ixF, Ev.ixR, Ev.partM, Ev.cutF, Ev.cutR, Ev.inF, Ev.inR', Ev.dict1V, Ev.bi2, Ev.ca, Ev.negR, Ev.dKey, Ev.dKeys, Ev.truth, Ev.truM, Ev.bM, Ev.isNone, Ev.starM, Ev.sortSetR, PyData.isTuple, PyData.isInt, PyData.isBool, PyData.isStr, PyData.isList, PyData.isDict, PySem.sizeLine_eq, cond, hat]) (by simp [Ev.runD, Ev.startE, Ev.outsOf, Ev.retR, Ev.isN, Ev.notN, Ev.chainF, Ev.callY, Ev.permL, Ev.prep, Ev.prep1, Ev.asD, Ev.asDs, Ev.frzI, Ev.rdRs, Ev.rdR, Ev.lentP, Ev.setAllE, Ev.noB, Ev.argI, Ev.seqI, Ev.forS, Ev.unpS, Ev.setS, Ev.settle, Ev.storeM, Ev.putI, Ev.settles, Ev.storeAll, Ev.asgT, Ev.asgTs, Ev.updC, Ev.setC, Ev.tyM, Ev.tyR, Ev.appM, Ev.popM, Ev.appC, Ev.popC, Ev.dat, Ev.lst, Ev.lstOf, Ev.seqOf, Ev.isaF, Ev.isaD, Ev.lenR, Ev.allR, Ev.anyR, Ev.boolsOf, Ev.intsOf, Ev.sumR, Ev.absR, Ev.tupleR, Ev.listR, Ev.reprR, Ev.intR, Ev.divmodR, Ev.min2R, Ev.max2R, Ev.mulR, Ev.addR, Ev.subF, Ev.modF, Ev.divF, Ev.powF, Ev.i2, Ev.i2c, Ev.ixF, Ev.ixR, Ev.partM, Ev.cutF, Ev.cutR, Ev.inF, Ev.inR', Ev.dict1V, Ev.bi2, Ev.ca, Ev.negR, Ev.dKey, Ev.dKeys, Ev.truth, Ev.truM, Ev.bM, Ev.isNone, Ev.starM, Ev.sortSetR, PyData.isTuple, PyData.isInt, PyData.isBool, PyData.isStr, PyData.isList, PyData.isDict, PySem.sizeLine_eq, cond, mD]))]
  rw [seqS_nx hwh, seqS_eq, ifS_eq, hre]
  rfl
end K44
set_option maxHeartbeats 1000000
namespace K44
open PySem Ev Way
noncomputable def lastQ : M Rv := (bi2 (callM p_room [] [false, false, false] (argsV [(tupV (argsV [(vC (.int 3)), (tupV (argsV [(tupV (argsV [(vC (.int 1)), (vC (.int 0)), (vC (.int 1))])), (tupV (argsV [(vC (.int 2)), (vC (.int 1)), (vC (.int 2))]))]))])), (vC (.str "strict")), (vC (.int 1))])) (vC (.int 18)) (look2 eqR))
theorem lastQ_ok {env : Ev.Env} : lastQ env = .ok (.d (.bool true)) env := by
  have h := roomH
  unfold lastQ
  simp [Ev.runD, Ev.startE, Ev.outsOf, Ev.retR, Ev.isN, Ev.notN, Ev.chainF, Ev.callY, Ev.permL, Ev.prep, Ev.prep1, Ev.asD, Ev.asDs, Ev.frzI, Ev.rdRs, Ev.rdR, Ev.lentP, Ev.setAllE, Ev.noB, Ev.argI, Ev.seqI, Ev.forS, Ev.unpS, Ev.setS, Ev.settle, Ev.storeM, Ev.putI, Ev.settles, Ev.storeAll, Ev.asgT, Ev.asgTs, Ev.updC, Ev.setC, Ev.tyM, Ev.tyR, Ev.appM, Ev.popM, Ev.appC, Ev.popC, Ev.dat, Ev.lst, Ev.lstOf, Ev.seqOf, Ev.isaF, Ev.isaD, Ev.lenR, Ev.allR, Ev.anyR, Ev.boolsOf, Ev.intsOf, Ev.sumR, Ev.absR, Ev.tupleR, Ev.listR, Ev.reprR, Ev.intR, Ev.divmodR, Ev.min2R, Ev.max2R, Ev.mulR, Ev.addR, Ev.subF, Ev.modF, Ev.divF, Ev.powF, Ev.i2, Ev.i2c, Ev.ixF, Ev.ixR, Ev.partM, Ev.cutF, Ev.cutR, Ev.inF, Ev.inR', Ev.dict1V, Ev.bi2, Ev.ca, Ev.negR, Ev.dKey, Ev.dKeys, Ev.truth, Ev.truM, Ev.bM, Ev.isNone, Ev.starM, Ev.sortSetR, PyData.isTuple, PyData.isInt, PyData.isBool, PyData.isStr, PyData.isList, PyData.isDict, PySem.sizeLine_eq, cond, h]
theorem fr_eq : f__law_right = seqS (unpS [0] (.t [(.n 2), (.n 3)]) (callM p__law_web [0] [true, false, false] (argsV [(vVar 0), (bi2 (vVar 1) (vC (.int 0)) ixF), (bi2 (vVar 1) (vC (.int 1)) ixF)])))
  (seqS (asgS [0] 4 (callM p__law_table [] [false, false, false] (argsV [(vVar 2), (vVar 3), (vC (.int 19))])))
  (seqS (forS [0] (argI (argsV [(M.bind (argsV [(vC (.int 3)), (M.bind (argsV [(bi2 (vVar 2) (vC (.int 1)) ixF)]) (un1 lenR))]) (un2 min2R))]) rngK1) (.n 5) b__law_right_3)
  (seqS (retS lastQ) skipS))) := rfl
theorem webM_ok {c c' : C} {a b : Int} {W K : PyData} (e1 : p__law_web [.c c, .d (.int a), .d (.int b)] = .ok (.t [W, K]) [.c c']) {r4 r5 r6 r7 r8 r9 r10 r11 r12 r13 : Option R} :
    unpS [0] (.t [(.n 2), (.n 3)]) (callM p__law_web [0] [true, false, false] (argsV [(vVar 0), (bi2 (vVar 1) (vC (.int 0)) ixF), (bi2 (vVar 1) (vC (.int 1)) ixF)])) [some (.c c), some (.d (.tuple [.int a, .int b])), none, none, r4, r5, r6, r7, r8, r9, r10, r11, r12, r13]
      = .ok .nx [some (.c c'), some (.d (.tuple [.int a, .int b])), some (.d W), some (.d K), r4, r5, r6, r7, r8, r9, r10, r11, r12, r13] :=
  unpS_ok (d := .tuple [W, K]) (env1 := [some (.c c'), some (.d (.tuple [.int a, .int b])), none, none, r4, r5, r6, r7, r8, r9, r10, r11, r12, r13]) (by simp [Ev.runD, Ev.startE, Ev.outsOf, Ev.retR, Ev.isN, Ev.notN, Ev.chainF, Ev.callY, Ev.permL, Ev.prep, Ev.prep1, Ev.asD, Ev.asDs, Ev.frzI, Ev.rdRs, Ev.rdR, Ev.lentP, Ev.setAllE, Ev.noB, Ev.argI, Ev.seqI, Ev.forS, Ev.unpS, Ev.setS, Ev.settle, Ev.storeM, Ev.putI, Ev.settles, Ev.storeAll, Ev.asgT, Ev.asgTs, Ev.updC, Ev.setC, Ev.tyM, Ev.tyR, Ev.appM, Ev.popM, Ev.appC, Ev.popC, Ev.dat, Ev.lst, Ev.lstOf, Ev.seqOf, Ev.isaF, Ev.isaD, Ev.lenR, Ev.allR, Ev.anyR, Ev.boolsOf, Ev.intsOf, Ev.sumR, Ev.absR, Ev.tupleR, Ev.listR, Ev.reprR, Ev.intR, Ev.divmodR, Ev.min2R, Ev.max2R, Ev.mulR, Ev.addR, Ev.subF, Ev.modF, Ev.divF, Ev.powF, Ev.i2, Ev.i2c, Ev.ixF, Ev.ixR, Ev.partM, Ev.cutF, Ev.cutR, Ev.inF, Ev.inR', Ev.dict1V, Ev.bi2, Ev.ca, Ev.negR, Ev.dKey, Ev.dKeys, Ev.truth, Ev.truM, Ev.bM, Ev.isNone, Ev.starM, Ev.sortSetR, PyData.isTuple, PyData.isInt, PyData.isBool, PyData.isStr, PyData.isList, PyData.isDict, PySem.sizeLine_eq, cond, e1]) (by simp [Ev.runD, Ev.startE, Ev.outsOf, Ev.retR, Ev.isN, Ev.notN, Ev.chainF, Ev.callY, Ev.permL, Ev.prep, Ev.prep1, Ev.asD, Ev.asDs, Ev.frzI, Ev.rdRs, Ev.rdR, Ev.lentP, Ev.setAllE, Ev.noB, Ev.argI, Ev.seqI, Ev.forS, Ev.unpS, Ev.setS, Ev.settle, Ev.storeM, Ev.putI, Ev.settles, Ev.storeAll, Ev.asgT, Ev.asgTs, Ev.updC, Ev.setC, Ev.tyM, Ev.tyR, Ev.appM, Ev.popM, Ev.appC, Ev.popC, Ev.dat, Ev.lst, Ev.lstOf, Ev.seqOf, Ev.isaF, Ev.isaD, Ev.lenR, Ev.allR, Ev.anyR, Ev.boolsOf, Ev.intsOf, Ev.sumR, Ev.absR, Ev.tupleR, Ev.listR, Ev.reprR, Ev.intR, Ev.divmodR, Ev.min2R, Ev.max2R, Ev.mulR, Ev.addR, Ev.subF, Ev.modF, Ev.divF, Ev.powF, Ev.i2, Ev.i2c, Ev.ixF, Ev.ixR, Ev.partM, Ev.cutF, Ev.cutR, Ev.inF, Ev.inR', Ev.dict1V, Ev.bi2, Ev.ca, Ev.negR, Ev.dKey, Ev.dKeys, Ev.truth, Ev.truM, Ev.bM, Ev.isNone, Ev.starM, Ev.sortSetR, PyData.isTuple, PyData.isInt, PyData.isBool, PyData.isStr, PyData.isList, PyData.isDict, PySem.sizeLine_eq, cond])
theorem tabM_ok {W K T : PyData} {r0 r1 r4 r5 r6 r7 r8 r9 r10 r11 r12 r13 : Option R} (h : p__law_table [.d W, .d K, .d (.int 19)] = .ok (.d T) []) :
    asgS [0] 4 (callM p__law_table [] [false, false, false] (argsV [(vVar 2), (vVar 3), (vC (.int 19))])) [r0, r1, some (.d W), some (.d K), r4, r5, r6, r7, r8, r9, r10, r11, r12, r13] = .ok .nx [r0, r1, some (.d W), some (.d K), some (.d T), r5, r6, r7, r8, r9, r10, r11, r12, r13] := by
  simp [Ev.runD, Ev.startE, Ev.outsOf, Ev.retR, Ev.isN, Ev.notN, Ev.chainF, Ev.callY, Ev.permL, Ev.prep, Ev.prep1, Ev.asD, Ev.asDs, Ev.frzI, Ev.rdRs, Ev.rdR, Ev.lentP, Ev.setAllE, Ev.noB, Ev.argI, Ev.seqI, Ev.forS, Ev.unpS, Ev.setS, Ev.settle, Ev.storeM, Ev.putI, Ev.settles, Ev.storeAll, Ev.asgT, Ev.asgTs, Ev.updC, Ev.setC, Ev.tyM, Ev.tyR, Ev.appM, Ev.popM, Ev.appC, Ev.popC, Ev.dat, Ev.lst, Ev.lstOf, Ev.seqOf, Ev.isaF, Ev.isaD, Ev.lenR, Ev.allR, Ev.anyR, Ev.boolsOf, Ev.intsOf, Ev.sumR, Ev.absR, Ev.tupleR, Ev.listR, Ev.reprR, Ev.intR, Ev.divmodR, Ev.min2R, Ev.max2R, Ev.mulR, Ev.addR, Ev.subF, Ev.modF, Ev.divF, Ev.powF, Ev.i2, Ev.i2c, Ev.ixF, Ev.ixR, Ev.partM, Ev.cutF, Ev.cutR, Ev.inF, Ev.inR', Ev.dict1V, Ev.bi2, Ev.ca, Ev.negR, Ev.dKey, Ev.dKeys, Ev.truth, Ev.truM, Ev.bM, Ev.isNone, Ev.starM, Ev.sortSetR, PyData.isTuple, PyData.isInt, PyData.isBool, PyData.isStr, PyData.isList, PyData.isDict, PySem.sizeLine_eq, cond, h]
theorem lenM2_ok {P : Int} {ms : List Mt} {r0 r1 r3 r4 r5 r6 r7 r8 r9 r10 r11 r12 r13 : Option R} :
    argsV [(M.bind (argsV [(vC (.int 3)), (M.bind (argsV [(bi2 (vVar 2) (vC (.int 1)) ixF)]) (un1 lenR))]) (un2 min2R))] [r0, r1, some (.d (webD P ms)), r3, r4, r5, r6, r7, r8, r9, r10, r11, r12, r13] = .ok [.d (.int ((min 3 ms.length : Nat) : Int))] [r0, r1, some (.d (webD P ms)), r3, r4, r5, r6, r7, r8, r9, r10, r11, r12, r13] := by
  have hm : (if (ms.length : Int) < 3 then (ms.length : Int) else 3) = ((min 3 ms.length : Nat) : Int) := by
    by_cases h : ms.length < 3
    · rw [if_pos (by omega), Nat.min_eq_right (by omega)]
    · rw [if_neg (by omega), Nat.min_eq_left (by omega)]; rfl
  have hz2 : ((ms.map mD).length : Int) = (ms.length : Nat) := by simp
  generalize ((min 3 ms.length : Nat) : Int) = mn at hm ⊢
  unfold webD
  generalize ms.map mD = X at hz2 ⊢
  simp [Ev.runD, Ev.startE, Ev.outsOf, Ev.retR, Ev.isN, Ev.notN, Ev.chainF, Ev.callY, Ev.permL, Ev.prep, Ev.prep1, Ev.asD, Ev.asDs, Ev.frzI, Ev.rdRs, Ev.rdR, Ev.lentP, Ev.setAllE, Ev.noB, Ev.argI, Ev.seqI, Ev.forS, Ev.unpS, Ev.setS, Ev.settle, Ev.storeM, Ev.putI, Ev.settles, Ev.storeAll, Ev.asgT, Ev.asgTs, Ev.updC, Ev.setC, Ev.tyM, Ev.tyR, Ev.appM, Ev.popM, Ev.appC, Ev.popC, Ev.dat, Ev.lst, Ev.lstOf, Ev.seqOf, Ev.isaF, Ev.isaD, Ev.lenR, Ev.allR, Ev.anyR, Ev.boolsOf, Ev.intsOf, Ev.sumR, Ev.absR, Ev.tupleR, Ev.listR, Ev.reprR, Ev.intR, Ev.divmodR, Ev.min2R, Ev.max2R, Ev.mulR, Ev.addR, Ev.subF, Ev.modF, Ev.divF, Ev.powF, Ev.i2, Ev.i2c, Ev.ixF, Ev.ixR, Ev.partM, Ev.cutF, Ev.cutR, Ev.inF, Ev.inR', Ev.dict1V, Ev.bi2, Ev.ca, Ev.negR, Ev.dKey, Ev.dKeys, Ev.truth, Ev.truM, Ev.bM, Ev.isNone, Ev.starM, Ev.sortSetR, PyData.isTuple, PyData.isInt, PyData.isBool, PyData.isStr, PyData.isList, PyData.isDict, PySem.sizeLine_eq, cond, hz2, hm]
theorem right_loop {n : Nat} {c : C} {P : Int} {ms : List Mt} {loose : Bool} {r1 : Option R} (hc : PoolOk n c) (hn : n < 800000) (hP : 2 ≤ P) (hP5 : P ≤ 5) (hw : Web P ms) (hz : ms.length ≤ 8) :
    ∃ (c' : C) (o5 o6 o7 o8 o9 o10 o11 o12 o13 : Option R), forL [0] (.n 5) b__law_right_3 ((List.range (min 3 ms.length)).map fun k => .int (k : Nat)) [some (.c c), r1, some (.d (webD P ms)), some (.d (kindD loose)), some (.d (.tuple (tblD P ms loose))), none, none, none, none, none, none, none, none, none]
      = .ok .nx [some (.c c'), r1, some (.d (webD P ms)), some (.d (kindD loose)), some (.d (.tuple (tblD P ms loose))), o5, o6, o7, o8, o9, o10, o11, o12, o13] ∧ PoolOk (n + 3) c' := by
  obtain ⟨env', e1, c', o5, o6, o7, o8, o9, o10, o11, o12, o13, rfl, h⟩ := forL_ix (gd := [0]) (t := .n 5) (f := b__law_right_3)
    (fun i env => ∃ (c' : C) (o5 o6 o7 o8 o9 o10 o11 o12 o13 : Option R), env = [some (.c c'), r1, some (.d (webD P ms)), some (.d (kindD loose)), some (.d (.tuple (tblD P ms loose))), o5, o6, o7, o8, o9, o10, o11, o12, o13] ∧ PoolOk (n + i) c')
    ((List.range (min 3 ms.length)).map fun k => .int (k : Nat))
    (fun i d hd env hI => by
      obtain ⟨c', o5, o6, o7, o8, o9, o10, o11, o12, o13, rfl, h⟩ := hI
      have hi : i < min 3 ms.length := by
        have := (List.getElem?_eq_some_iff.mp hd).1
        simpa using this
      obtain ⟨c2, p6, p7, p8, p9, p10, p11, p12, p13, hb, h2⟩ := turn_ok (r1 := r1) (r5 := some (.d d)) (o6 := o6) (o7 := o7) (o8 := o8) (o9 := o9) (o10 := o10) (o11 := o11) (o12 := o12) (o13 := o13) (loose := loose) h (by omega) hP hP5 hw hz (by omega)
      refine ⟨_, _, ?_, hb, c2, _, _, _, _, _, _, _, _, _, rfl, h2⟩
      simp [Ev.runD, Ev.startE, Ev.outsOf, Ev.retR, Ev.isN, Ev.notN, Ev.chainF, Ev.callY, Ev.permL, Ev.prep, Ev.prep1, Ev.asD, Ev.asDs, Ev.frzI, Ev.rdRs, Ev.rdR, Ev.lentP, Ev.setAllE, Ev.noB, Ev.argI, Ev.seqI, Ev.forS, Ev.unpS, Ev.setS, Ev.settle, Ev.storeM, Ev.putI, Ev.settles, Ev.storeAll, Ev.asgT, Ev.asgTs, Ev.updC, Ev.setC, Ev.tyM, Ev.tyR, Ev.appM, Ev.popM, Ev.appC, Ev.popC, Ev.dat, Ev.lst, Ev.lstOf, Ev.seqOf, Ev.isaF, Ev.isaD, Ev.lenR, Ev.allR, Ev.anyR, Ev.boolsOf, Ev.intsOf, Ev.sumR, Ev.absR, Ev.tupleR, Ev.listR, Ev.reprR, Ev.intR, Ev.divmodR, Ev.min2R, Ev.max2R, Ev.mulR, Ev.addR, Ev.subF, Ev.modF, Ev.divF, Ev.powF, Ev.i2, Ev.i2c, Ev.ixF, Ev.ixR, Ev.partM, Ev.cutF, Ev.cutR, Ev.inF, Ev.inR', Ev.dict1V, Ev.bi2, Ev.ca, Ev.negR, Ev.dKey, Ev.dKeys, Ev.truth, Ev.truM, Ev.bM, Ev.isNone, Ev.starM, Ev.sortSetR, PyData.isTuple, PyData.isInt, PyData.isBool, PyData.isStr, PyData.isList, PyData.isDict, PySem.sizeLine_eq, cond])
    ((List.range (min 3 ms.length)).map fun k => .int (k : Nat)) 0 rfl [some (.c c), r1, some (.d (webD P ms)), some (.d (kindD loose)), some (.d (.tuple (tblD P ms loose))), none, none, none, none, none, none, none, none, none]
    ⟨c, none, none, none, none, none, none, none, none, none, rfl, hc⟩
  refine ⟨c', o5, o6, o7, o8, o9, o10, o11, o12, o13, e1, h.more ?_⟩
  rw [List.length_map, List.length_range]
  omega
theorem right_ok {n : Nat} {c : C} {a b : Int} (hc : PoolOk n c) (hn : n < 700000) (ha : 2 ≤ a) (ha5 : a ≤ 5) (hb : 0 ≤ b) (hb8 : b ≤ 8) :
    ∃ c', p__law_right [.c c, .d (.tuple [.int a, .int b])] = .ok (.d (.bool true)) [.c c'] ∧ PoolOk (n + 200) c' := by
  obtain ⟨P, ms, loose, c1, e1, e2, e3, e4, hw, e5⟩ := web_ok (most := a) (many := b) hc (by omega) ha (by omega) hb (by omega)
  obtain ⟨c', o5, o6, o7, o8, o9, o10, o11, o12, o13, hl, h2⟩ := right_loop (loose := loose) (r1 := some (.d (.tuple [.int a, .int b]))) e2 (by omega) e3 (by omega) hw (by omega)
  refine ⟨c', ?_, h2.more (by omega)⟩
  have hlt := ltable_ok (loose := loose) (pt := 19) hw (by omega) (by omega) (by omega)
  rw [tblP_19 hw (by omega)] at hlt
  refine runD_rt (env := [some (.c c'), some (.d (.tuple [.int a, .int b])), some (.d (webD P ms)), some (.d (kindD loose)), some (.d (.tuple (tblD P ms loose))), o5, o6, o7, o8, o9, o10, o11, o12, o13]) (r := .d (.bool true)) ?_ rfl rfl
  show f__law_right [some (.c c), some (.d (.tuple [.int a, .int b])), none, none, none, none, none, none, none, none, none, none, none, none] = _
  rw [fr_eq, seqS_nx (webM_ok e1), seqS_nx (tabM_ok hlt), seqS_nx ((forS_ok (argI_ok lenM2_ok rfl (rngK_nat (by omega)))).trans hl)]
  rw [seqS_eq, retS_eq, lastQ_ok]
theorem law1_ok {n : Nat} {c : C} {a b : Int} {r0 r1 : Option R} (hc : PoolOk n c) (hn : n < 700000) (ha : 2 ≤ a) (ha5 : a ≤ 5) (hb : 0 ≤ b) (hb8 : b ≤ 8) :
    ∃ c', b_law_1 [r0, r1, some (.c c), some (.d (.tuple [.int a, .int b]))] = .ok .nx [r0, r1, some (.c c'), some (.d (.tuple [.int a, .int b]))] ∧ PoolOk (n + 200) c' := by
  obtain ⟨c', e1, e2⟩ := right_ok hc hn ha ha5 hb hb8
  exact ⟨c', by simp [Ev.runD, Ev.startE, Ev.outsOf, Ev.retR, Ev.isN, Ev.notN, Ev.chainF, Ev.callY, Ev.permL, Ev.prep, Ev.prep1, Ev.asD, Ev.asDs, Ev.frzI, Ev.rdRs, Ev.rdR, Ev.lentP, Ev.setAllE, Ev.noB, Ev.argI, Ev.seqI, Ev.forS, Ev.unpS, Ev.setS, Ev.settle, Ev.storeM, Ev.putI, Ev.settles, Ev.storeAll, Ev.asgT, Ev.asgTs, Ev.updC, Ev.setC, Ev.tyM, Ev.tyR, Ev.appM, Ev.popM, Ev.appC, Ev.popC, Ev.dat, Ev.lst, Ev.lstOf, Ev.seqOf, Ev.isaF, Ev.isaD, Ev.lenR, Ev.allR, Ev.anyR, Ev.boolsOf, Ev.intsOf, Ev.sumR, Ev.absR, Ev.tupleR, Ev.listR, Ev.reprR, Ev.intR, Ev.divmodR, Ev.min2R, Ev.max2R, Ev.mulR, Ev.addR, Ev.subF, Ev.modF, Ev.divF, Ev.powF, Ev.i2, Ev.i2c, Ev.ixF, Ev.ixR, Ev.partM, Ev.cutF, Ev.cutR, Ev.inF, Ev.inR', Ev.dict1V, Ev.bi2, Ev.ca, Ev.negR, Ev.dKey, Ev.dKeys, Ev.truth, Ev.truM, Ev.bM, Ev.isNone, Ev.starM, Ev.sortSetR, PyData.isTuple, PyData.isInt, PyData.isBool, PyData.isStr, PyData.isList, PyData.isDict, PySem.sizeLine_eq, cond, b_law_1, e1], e2⟩
def mosts : List (Int × Int) := [(4, 6), (4, 5), (3, 6), (5, 5), (3, 4)]
theorem law2_ok (ns : List Int) {k : Int} {r2 r3 : Option R} (hk : 0 ≤ k) (hk2 : k ≤ 2) :
    ∃ c' r3', b_law_2 [some (.s ns), some (.d (.int k)), r2, r3] = .ok .nx [some (.s ns), some (.d (.int k)), some (.c c'), r3'] := by
  obtain ⟨c, e1, e2⟩ := pool_ok ns hk hk2
  obtain ⟨env', g1, c', r3', rfl, g2⟩ := forL_ix (gd := []) (t := .n 3) (f := b_law_1)
    (fun i env => ∃ c' r3', env = [some (.s ns), some (.d (.int k)), some (.c c'), r3'] ∧ PoolOk (200 * i) c') (mosts.map pairD)
    (fun i d hd env hI => by
      obtain ⟨c', r3', rfl, h⟩ := hI
      rw [List.getElem?_map] at hd
      cases hm : mosts[i]? with
      | none => rw [hm] at hd; cases hd
      | some m =>
        rw [hm] at hd
        cases hd
        have hmem := List.mem_of_getElem? hm
        have hi : i < 5 := (List.getElem?_eq_some_iff.mp hm).1
        have hb : 2 ≤ m.1 ∧ m.1 ≤ 5 ∧ 0 ≤ m.2 ∧ m.2 ≤ 8 := by
          simp only [mosts, List.mem_cons, List.not_mem_nil, or_false] at hmem
          rcases hmem with rfl | rfl | rfl | rfl | rfl <;> decide
        obtain ⟨c2, z1, z2⟩ := law1_ok (r0 := some (.s ns)) (r1 := some (.d (.int k))) h (by omega) hb.1 hb.2.1 hb.2.2.1 hb.2.2.2
        exact ⟨_, _, by simp [Ev.runD, Ev.startE, Ev.outsOf, Ev.retR, Ev.isN, Ev.notN, Ev.chainF, Ev.callY, Ev.permL, Ev.prep, Ev.prep1, Ev.asD, Ev.asDs, Ev.frzI, Ev.rdRs, Ev.rdR, Ev.lentP, Ev.setAllE, Ev.noB, Ev.argI, Ev.seqI, Ev.forS, Ev.unpS, Ev.setS, Ev.settle, Ev.storeM, Ev.putI, Ev.settles, Ev.storeAll, Ev.asgT, Ev.asgTs, Ev.updC, Ev.setC, Ev.tyM, Ev.tyR, Ev.appM, Ev.popM, Ev.appC, Ev.popC, Ev.dat, Ev.lst, Ev.lstOf, Ev.seqOf, Ev.isaF, Ev.isaD, Ev.lenR, Ev.allR, Ev.anyR, Ev.boolsOf, Ev.intsOf, Ev.sumR, Ev.absR, Ev.tupleR, Ev.listR, Ev.reprR, Ev.intR, Ev.divmodR, Ev.min2R, Ev.max2R, Ev.mulR, Ev.addR, Ev.subF, Ev.modF, Ev.divF, Ev.powF, Ev.i2, Ev.i2c, Ev.ixF, Ev.ixR, Ev.partM, Ev.cutF, Ev.cutR, Ev.inF, Ev.inR', Ev.dict1V, Ev.bi2, Ev.ca, Ev.negR, Ev.dKey, Ev.dKeys, Ev.truth, Ev.truM, Ev.bM, Ev.isNone, Ev.starM, Ev.sortSetR, PyData.isTuple, PyData.isInt, PyData.isBool, PyData.isStr, PyData.isList, PyData.isDict, PySem.sizeLine_eq, cond, pairD], z1, c2, _, rfl, z2.more (by omega)⟩)
    (mosts.map pairD) 0 rfl [some (.s ns), some (.d (.int k)), some (.c c), r3] ⟨c, r3, rfl, e2⟩
  refine ⟨c', r3', ?_⟩
  unfold b_law_2
  rw [seqS_nx (env1 := [some (.s ns), some (.d (.int k)), some (.c c), r3]) (by simp [Ev.runD, Ev.startE, Ev.outsOf, Ev.retR, Ev.isN, Ev.notN, Ev.chainF, Ev.callY, Ev.permL, Ev.prep, Ev.prep1, Ev.asD, Ev.asDs, Ev.frzI, Ev.rdRs, Ev.rdR, Ev.lentP, Ev.setAllE, Ev.noB, Ev.argI, Ev.seqI, Ev.forS, Ev.unpS, Ev.setS, Ev.settle, Ev.storeM, Ev.putI, Ev.settles, Ev.storeAll, Ev.asgT, Ev.asgTs, Ev.updC, Ev.setC, Ev.tyM, Ev.tyR, Ev.appM, Ev.popM, Ev.appC, Ev.popC, Ev.dat, Ev.lst, Ev.lstOf, Ev.seqOf, Ev.isaF, Ev.isaD, Ev.lenR, Ev.allR, Ev.anyR, Ev.boolsOf, Ev.intsOf, Ev.sumR, Ev.absR, Ev.tupleR, Ev.listR, Ev.reprR, Ev.intR, Ev.divmodR, Ev.min2R, Ev.max2R, Ev.mulR, Ev.addR, Ev.subF, Ev.modF, Ev.divF, Ev.powF, Ev.i2, Ev.i2c, Ev.ixF, Ev.ixR, Ev.partM, Ev.cutF, Ev.cutR, Ev.inF, Ev.inR', Ev.dict1V, Ev.bi2, Ev.ca, Ev.negR, Ev.dKey, Ev.dKeys, Ev.truth, Ev.truM, Ev.bM, Ev.isNone, Ev.starM, Ev.sortSetR, PyData.isTuple, PyData.isInt, PyData.isBool, PyData.isStr, PyData.isList, PyData.isDict, PySem.sizeLine_eq, cond, e1])]
  rw [seqS_nx ((forS_ok (ds := mosts.map pairD) (env1 := [some (.s ns), some (.d (.int k)), some (.c c), r3]) (by simp [Ev.runD, Ev.startE, Ev.outsOf, Ev.retR, Ev.isN, Ev.notN, Ev.chainF, Ev.callY, Ev.permL, Ev.prep, Ev.prep1, Ev.asD, Ev.asDs, Ev.frzI, Ev.rdRs, Ev.rdR, Ev.lentP, Ev.setAllE, Ev.noB, Ev.argI, Ev.seqI, Ev.forS, Ev.unpS, Ev.setS, Ev.settle, Ev.storeM, Ev.putI, Ev.settles, Ev.storeAll, Ev.asgT, Ev.asgTs, Ev.updC, Ev.setC, Ev.tyM, Ev.tyR, Ev.appM, Ev.popM, Ev.appC, Ev.popC, Ev.dat, Ev.lst, Ev.lstOf, Ev.seqOf, Ev.isaF, Ev.isaD, Ev.lenR, Ev.allR, Ev.anyR, Ev.boolsOf, Ev.intsOf, Ev.sumR, Ev.absR, Ev.tupleR, Ev.listR, Ev.reprR, Ev.intR, Ev.divmodR, Ev.min2R, Ev.max2R, Ev.mulR, Ev.addR, Ev.subF, Ev.modF, Ev.divF, Ev.powF, Ev.i2, Ev.i2c, Ev.ixF, Ev.ixR, Ev.partM, Ev.cutF, Ev.cutR, Ev.inF, Ev.inR', Ev.dict1V, Ev.bi2, Ev.ca, Ev.negR, Ev.dKey, Ev.dKeys, Ev.truth, Ev.truM, Ev.bM, Ev.isNone, Ev.starM, Ev.sortSetR, PyData.isTuple, PyData.isInt, PyData.isBool, PyData.isStr, PyData.isList, PyData.isDict, PySem.sizeLine_eq, cond, mosts, pairD])).trans g1)]
  simp
theorem law_ok (ns : List Int) : p_law [.s ns] = .ok (.d (.bool true)) [] := by
  obtain ⟨n, hn, hn3⟩ : ∃ n : Nat, (if (if (3 : Int) < (ns.length : Int) then (3 : Int) else (ns.length : Int)) > 2 then (if (3 : Int) < (ns.length : Int) then (3 : Int) else (ns.length : Int)) else 2) = (n : Int) ∧ n ≤ 3 := by
    by_cases h : (3 : Int) < (ns.length : Int)
    · rw [if_pos h]
      exact ⟨3, rfl, by omega⟩
    · rw [if_neg h]
      by_cases h2 : (ns.length : Int) > 2
      · rw [if_pos h2]; exact ⟨ns.length, rfl, by omega⟩
      · rw [if_neg h2]; exact ⟨2, rfl, by omega⟩
  obtain ⟨env', g1, o1, o2, o3, rfl⟩ := forL_ix (gd := []) (t := .n 1) (f := b_law_2)
    (fun i env => ∃ o1 o2 o3, env = [some (.s ns), o1, o2, o3]) ((List.range n).map fun k => .int (k : Nat))
    (fun i d hd env hI => by
      obtain ⟨o1, o2, o3, rfl⟩ := hI
      have hi : i < n := by
        have := (List.getElem?_eq_some_iff.mp hd).1
        simpa using this
      have hd' : d = .int (i : Nat) := by
        simp [hi] at hd
        exact hd.symm
      subst hd'
      obtain ⟨c', r3', h⟩ := law2_ok ns (k := (i : Nat)) (r2 := o2) (r3 := o3) (by omega) (by omega)
      exact ⟨_, _, by simp [Ev.runD, Ev.startE, Ev.outsOf, Ev.retR, Ev.isN, Ev.notN, Ev.chainF, Ev.callY, Ev.permL, Ev.prep, Ev.prep1, Ev.asD, Ev.asDs, Ev.frzI, Ev.rdRs, Ev.rdR, Ev.lentP, Ev.setAllE, Ev.noB, Ev.argI, Ev.seqI, Ev.forS, Ev.unpS, Ev.setS, Ev.settle, Ev.storeM, Ev.putI, Ev.settles, Ev.storeAll, Ev.asgT, Ev.asgTs, Ev.updC, Ev.setC, Ev.tyM, Ev.tyR, Ev.appM, Ev.popM, Ev.appC, Ev.popC, Ev.dat, Ev.lst, Ev.lstOf, Ev.seqOf, Ev.isaF, Ev.isaD, Ev.lenR, Ev.allR, Ev.anyR, Ev.boolsOf, Ev.intsOf, Ev.sumR, Ev.absR, Ev.tupleR, Ev.listR, Ev.reprR, Ev.intR, Ev.divmodR, Ev.min2R, Ev.max2R, Ev.mulR, Ev.addR, Ev.subF, Ev.modF, Ev.divF, Ev.powF, Ev.i2, Ev.i2c, Ev.ixF, Ev.ixR, Ev.partM, Ev.cutF, Ev.cutR, Ev.inF, Ev.inR', Ev.dict1V, Ev.bi2, Ev.ca, Ev.negR, Ev.dKey, Ev.dKeys, Ev.truth, Ev.truM, Ev.bM, Ev.isNone, Ev.starM, Ev.sortSetR, PyData.isTuple, PyData.isInt, PyData.isBool, PyData.isStr, PyData.isList, PyData.isDict, PySem.sizeLine_eq, cond], h, _, _, _, rfl⟩)
    ((List.range n).map fun k => .int (k : Nat)) 0 rfl [some (.s ns), none, none, none] ⟨none, none, none, rfl⟩
  refine runD_rt (env := [some (.s ns), o1, o2, o3]) (r := .d (.bool true)) ?_ rfl rfl
  show f_law [some (.s ns), none, none, none] = _
  unfold f_law
  rw [seqS_nx ((forS_ok (argI_ok (rs := [.d (.int (n : Int))]) (ds := [.int (n : Int)]) (env1 := [some (.s ns), none, none, none]) ?_ rfl (rngK_nat (by omega)))).trans g1)]
  · simp
  · rw [← hn]
    simp [Ev.runD, Ev.startE, Ev.outsOf, Ev.retR, Ev.isN, Ev.notN, Ev.chainF, Ev.callY, Ev.permL, Ev.prep, Ev.prep1, Ev.asD, Ev.asDs, Ev.frzI, Ev.rdRs, Ev.rdR, Ev.lentP, Ev.setAllE, Ev.noB, Ev.argI, Ev.seqI, Ev.forS, Ev.unpS, Ev.setS, Ev.settle, Ev.storeM, Ev.putI, Ev.settles, Ev.storeAll, Ev.asgT, Ev.asgTs, Ev.updC, Ev.setC, Ev.tyM, Ev.tyR, Ev.appM, Ev.popM, Ev.appC, Ev.popC, Ev.dat, Ev.lst, Ev.lstOf, Ev.seqOf, Ev.isaF, Ev.isaD, Ev.lenR, Ev.allR, Ev.anyR, Ev.boolsOf, Ev.intsOf, Ev.sumR, Ev.absR, Ev.tupleR, Ev.listR, Ev.reprR, Ev.intR, Ev.divmodR, Ev.min2R, Ev.max2R, Ev.mulR, Ev.addR, Ev.subF, Ev.modF, Ev.divF, Ev.powF, Ev.i2, Ev.i2c, Ev.ixF, Ev.ixR, Ev.partM, Ev.cutF, Ev.cutR, Ev.inF, Ev.inR', Ev.dict1V, Ev.bi2, Ev.ca, Ev.negR, Ev.dKey, Ev.dKeys, Ev.truth, Ev.truM, Ev.bM, Ev.isNone, Ev.starM, Ev.sortSetR, PyData.isTuple, PyData.isInt, PyData.isBool, PyData.isStr, PyData.isList, PyData.isDict, PySem.sizeLine_eq, cond]
end K44
open PySem PySem.W PyProof.Rows Ev K44
set_option maxRecDepth 100000 in
set_option maxHeartbeats 0 in
theorem PySem.Challenge.cw_timedways_k44_rooms_holds : PySem.Challenge.rw_timedways_k44_rooms.Holds := by
  w_on; o_law; k_head; (case hw => w_witness2)
  k_fill
  refine walkG (l := PySem.Challenge.rw_timedways_k44_rooms) (n := 63) (k := 14) (x := "script") ["wrong_meeting"] [("KINDS", [(.str "strict"), (.str "loose")])] rfl (by decide) rfl ⟨rfl, by decide, by decide⟩ ?HT (fun mg h X p hp => by
    simp only [List.mem_cons, List.not_mem_nil, or_false] at hp
    rcases hp with rfl <;> exact tupAt_of X.2 (by repeat first | exact List.mem_cons_self .. | apply List.mem_cons_of_mem) (by rfl) (by simp [sizeLine])) (fun w h Y => PySem.W.km_in_of Y) ?F
  case HT => decide +kernel
  case F =>
    intro w mg fa h F0 KX G hmg hG hN
    refine' all_mk KX G hmg hN (hG ("KINDS", _) (by simp)) ?a__law_pool ?l__law_pool ?c__law_pool ?k__law_pool ?a__law_take ?l__law_take ?c__law_take ?k__law_take ?a__law_of ?l__law_of ?c__law_of ?k__law_of ?a__law_web ?l__law_web ?c__law_web ?k__law_web ?a__law_table ?l__law_table ?c__law_table ?k__law_table ?a_first_wrong ?l_first_wrong ?c_first_wrong ?k_first_wrong ?a_is_tuple_of ?l_is_tuple_of ?c_is_tuple_of ?k_is_tuple_of ?a_is_whole ?l_is_whole ?c_is_whole ?k_is_whole ?a_is_between ?l_is_between ?c_is_between ?k_is_between ?a_is_triple ?l_is_triple ?c_is_triple ?k_is_triple ?a_is_next ?l_is_next ?c_is_next ?k_is_next ?a_wrong_meeting ?l_wrong_meeting ?c_wrong_meeting ?k_wrong_meeting ?t_wrong_meeting ?u_wrong_meeting ?a_is_places ?l_is_places ?c_is_places ?k_is_places ?a_is_row ?l_is_row ?c_is_row ?k_is_row ?a_is_frame ?l_is_frame ?c_is_frame ?k_is_frame ?a_check_web ?l_check_web ?c_check_web ?k_check_web ?a_is_string ?l_is_string ?c_is_string ?k_is_string ?a_is_kind ?l_is_kind ?c_is_kind ?k_is_kind ?a_check_kind ?l_check_kind ?c_check_kind ?k_check_kind ?a_check_kinded ?l_check_kinded ?c_check_kinded ?k_check_kinded ?a_is_meeting ?l_is_meeting ?c_is_meeting ?k_is_meeting ?a_check_meeting ?l_check_meeting ?c_check_meeting ?k_check_meeting ?a_check_roomed ?l_check_roomed ?c_check_roomed ?k_check_roomed ?a_made_web ?l_made_web ?c_made_web ?k_made_web ?a_without_by ?l_without_by ?c_without_by ?k_without_by ?a_later_by ?l_later_by ?c_later_by ?k_later_by ?a_led_at ?l_led_at ?c_led_at ?k_led_at ?a_ends_of ?l_ends_of ?c_ends_of ?k_ends_of ?a_arrivals_by ?l_arrivals_by ?c_arrivals_by ?k_arrivals_by ?a_come_by ?l_come_by ?c_come_by ?k_come_by ?a_table_by ?l_table_by ?c_table_by ?k_table_by ?a_room_by ?l_room_by ?c_room_by ?k_room_by ?a_room ?l_room ?c_room ?k_room ?a__law_right ?l__law_right ?c__law_right ?k__law_right ?a_law ?l_law ?c_law ?k_law ?z_FEWEST_PLACES ?z_MOST_MEETINGS ?z_MOST_PLACES ?z_MOST_TIME ?z_STRICT ?zb_abs ?zb_all ?zb_bool ?zb_divmod ?zb_enumerate ?zb_int ?zb_isinstance ?zb_len ?zb_list ?zb_max ?zb_min ?zb_range ?zb_repr ?zb_set ?zb_sorted ?zb_str ?zb_sum ?zb_tuple (fun ns _ => K44.law_ok ns)
    (case a__law_pool => k_is)
    (case l__law_pool => k_is)
    (case c__law_pool => k_is)
    (case k__law_pool => k_is)
    (case a__law_take => k_is)
    (case l__law_take => k_is)
    (case c__law_take => k_is)
    (case k__law_take => k_is)
    (case a__law_of => k_is)
    (case l__law_of => k_is)
    (case c__law_of => k_is)
    (case k__law_of => k_is)
    (case a__law_web => k_is)
    (case l__law_web => k_is)
    (case c__law_web => k_is)
    (case k__law_web => k_is)
    (case a__law_table => k_is)
    (case l__law_table => k_is)
    (case c__law_table => k_is)
    (case k__law_table => k_is)
    (case a_first_wrong => k_is)
    (case l_first_wrong => k_is)
    (case c_first_wrong => k_is)
    (case k_first_wrong => k_is)
    (case a_is_tuple_of => k_is)
    (case l_is_tuple_of => k_is)
    (case c_is_tuple_of => k_is)
    (case k_is_tuple_of => k_is)
    (case a_is_whole => k_is)
    (case l_is_whole => k_is)
    (case c_is_whole => k_is)
    (case k_is_whole => k_is)
    (case a_is_between => k_is)
    (case l_is_between => k_is)
    (case c_is_between => k_is)
    (case k_is_between => k_is)
    (case a_is_triple => k_is)
    (case l_is_triple => k_is)
    (case c_is_triple => k_is)
    (case k_is_triple => k_is)
    (case a_is_next => k_is)
    (case l_is_next => k_is)
    (case c_is_next => k_is)
    (case k_is_next => k_is)
    (case a_wrong_meeting => k_is)
    (case l_wrong_meeting => k_is)
    (case c_wrong_meeting => k_is)
    (case k_wrong_meeting => k_is)
    (case t_wrong_meeting => rfl)
    (case u_wrong_meeting => rfl)
    (case a_is_places => k_is)
    (case l_is_places => k_is)
    (case c_is_places => k_is)
    (case k_is_places => k_is)
    (case a_is_row => k_is)
    (case l_is_row => k_is)
    (case c_is_row => k_is)
    (case k_is_row => k_is)
    (case a_is_frame => k_is)
    (case l_is_frame => k_is)
    (case c_is_frame => k_is)
    (case k_is_frame => k_is)
    (case a_check_web => k_is)
    (case l_check_web => k_is)
    (case c_check_web => k_is)
    (case k_check_web => k_is)
    (case a_is_string => k_is)
    (case l_is_string => k_is)
    (case c_is_string => k_is)
    (case k_is_string => k_is)
    (case a_is_kind => k_is)
    (case l_is_kind => k_is)
    (case c_is_kind => k_is)
    (case k_is_kind => k_is)
    (case a_check_kind => k_is)
    (case l_check_kind => k_is)
    (case c_check_kind => k_is)
    (case k_check_kind => k_is)
    (case a_check_kinded => k_is)
    (case l_check_kinded => k_is)
    (case c_check_kinded => k_is)
    (case k_check_kinded => k_is)
    (case a_is_meeting => k_is)
    (case l_is_meeting => k_is)
    (case c_is_meeting => k_is)
    (case k_is_meeting => k_is)
    (case a_check_meeting => k_is)
    (case l_check_meeting => k_is)
    (case c_check_meeting => k_is)
    (case k_check_meeting => k_is)
    (case a_check_roomed => k_is)
    (case l_check_roomed => k_is)
    (case c_check_roomed => k_is)
    (case k_check_roomed => k_is)
    (case a_made_web => k_is)
    (case l_made_web => k_is)
    (case c_made_web => k_is)
    (case k_made_web => k_is)
    (case a_without_by => k_is)
    (case l_without_by => k_is)
    (case c_without_by => k_is)
    (case k_without_by => k_is)
    (case a_later_by => k_is)
    (case l_later_by => k_is)
    (case c_later_by => k_is)
    (case k_later_by => k_is)
    (case a_led_at => k_is)
    (case l_led_at => k_is)
    (case c_led_at => k_is)
    (case k_led_at => k_is)
    (case a_ends_of => k_is)
    (case l_ends_of => k_is)
    (case c_ends_of => k_is)
    (case k_ends_of => k_is)
    (case a_arrivals_by => k_is)
    (case l_arrivals_by => k_is)
    (case c_arrivals_by => k_is)
    (case k_arrivals_by => k_is)
    (case a_come_by => k_is)
    (case l_come_by => k_is)
    (case c_come_by => k_is)
    (case k_come_by => k_is)
    (case a_table_by => k_is)
    (case l_table_by => k_is)
    (case c_table_by => k_is)
    (case k_table_by => k_is)
    (case a_room_by => k_is)
    (case l_room_by => k_is)
    (case c_room_by => k_is)
    (case k_room_by => k_is)
    (case a_room => k_is)
    (case l_room => k_is)
    (case c_room => k_is)
    (case k_room => k_is)
    (case a__law_right => k_is)
    (case l__law_right => k_is)
    (case c__law_right => k_is)
    (case k__law_right => k_is)
    (case a_law => k_is)
    (case l_law => k_is)
    (case c_law => k_is)
    (case k_law => k_is)
    (case z_FEWEST_PLACES => k_is)
    (case z_MOST_MEETINGS => k_is)
    (case z_MOST_PLACES => k_is)
    (case z_MOST_TIME => k_is)
    (case z_STRICT => k_is)
    (case zb_abs => k_is)
    (case zb_all => k_is)
    (case zb_bool => k_is)
    (case zb_divmod => k_is)
    (case zb_enumerate => k_is)
    (case zb_int => k_is)
    (case zb_isinstance => k_is)
    (case zb_len => k_is)
    (case zb_list => k_is)
    (case zb_max => k_is)
    (case zb_min => k_is)
    (case zb_range => k_is)
    (case zb_repr => k_is)
    (case zb_set => k_is)
    (case zb_sorted => k_is)
    (case zb_str => k_is)
    (case zb_sum => k_is)
    (case zb_tuple => k_is)
