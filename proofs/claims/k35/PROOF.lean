import PyProof.Rows.All
import Wide.All
import OpenK.AllK
import Wide.FinOn
import HandS.ForMost
import HandS.ForExc
import HandS.Defaults
import HandS.Flow
import HandS.Wide
import KE.KDictKeyed
import HandS.EndBits
import HandS.TupMul
import HandS.TupAny
import HandS.Deep
import HandS.IsInst
import HandS.TupLe
import HandS.Style
import HandS.Conv
import HandS.Codes
import HandS.RaiseMore
import PyProof.Conv_int_bool
import KE.GoesEnumKw
import KE.GoesZip
import HandS.Zip
import KE.KDictWalk
import KE.KDictList
import PyProof.TupleCall
import HandS.Comp
import KE.GoesEnum
import PyProof.Rows.CallKw2
import KE.KUnpackStar
import HandS.SetBool
import HandS.SetKeys
import HandS.DictComp
import HandS.WordsDict
import HandS.SortKw
import PyProof.Rows.SumAny
import HandS.Small
import PyProof.CallFns
import PyProof.FitsInt
import PyProof.StrLawsRepr
import HandS.Head0
import HandS.Head1
import HandS.Head2
import KE.KStateDown
import Lean
import HandS.HeadEnd
import HandS.HeadHook1
import HandS.HeadHook2
import PySem.Challenge.RW_nestloom_k35_whole_vectors_and_recurrenc
section
set_option Elab.async false
set_option linter.all false
set_option maxRecDepth 100000
set_option maxHeartbeats 4000000
/-! L3a: pure values over the hand layer: values, stores, the relation, results. -/
namespace L3
open PySem PySem.Spec PyProof.Rows L2
abbrev Frag := PySem.W.Frag
/-- the addresses of what changes; those of what is being made, and hidden -/
abbrev Rho := List Addr × List Addr

/-! ### values without addresses; stores of what changes -/
inductive Val where
  | non | bl (b : Bool) | int (i : Int) | str (s : Str) | ty (n : String) | ref (a : Addr)
  | tup (l : List Val) | lst (l : List Val) | cst (l : List Val) | loc (n : Nat)
inductive Ob where
  | dead | lst (l : List Val)
  /-- a dict whose keys are ints and texts -/
  | dk (l : List (Key × Val))
  /-- a dict whose keys are tuples, nested too -/
  | dn (w : World) (l : List (Val × Val))
abbrev Sto := List Ob
abbrev Env := List (Option Val)
structure Exn where
  cls : Value
  fs : List (Str × Val)
inductive Res (α : Type) where
  | ok (a : α) (s : Sto)
  | exc (x : Exn) (s : Sto)
  | bad
def Res.bind {α β : Type} (r : Res α) (f : α → Sto → Res β) : Res β := match r with
  | .ok a s => f a s
  | .exc x s => .exc x s
  | .bad => .bad
@[simp] theorem Res.bind_ok {α β : Type} (a : α) (s : Sto) (f : α → Sto → Res β) : (Res.ok a s).bind f = f a s := rfl
@[simp] theorem Res.bind_exc {α β : Type} (a : Exn) (s : Sto) (f : α → Sto → Res β) : (Res.exc a s : Res α).bind f = .exc a s := rfl
@[simp] theorem Res.bind_bad {α β : Type} (f : α → Sto → Res β) : (Res.bad : Res α).bind f = .bad := rfl
abbrev ME := Env → Sto → Res Val
abbrev MT := Env → Sto → Res Bool
abbrev MA := Env → Sto → Res (List Val)
inductive Fl where
  | nx (σ : Env) | bk (σ : Env) | ct (σ : Env) | rt (v : Val)
abbrev MS := Env → Sto → Res Fl

/-! ### the relation -/
section
variable (K : Frag) (ρ : Rho) (Hf : Hp)
mutual
def RV : Val → V → Prop
  | .non, x => x = .non
  | .bl b, x => x = .bl b
  | .int i, x => x = .int i
  | .str s, x => x = .str s
  | .ty n, x => x = .ty n
  | .ref a, x => x = .ref a
  | .tup l, x => ∃ a xs, x = .ref a ∧ SqT K Hf a xs ∧ RVs l xs
  | .lst l, x => ∃ a xs, x = .ref a ∧ Hf a = some (.lst xs) ∧ RVs l xs
  | .cst l, x => ∃ a xs, x = .ref a ∧ SqL K Hf a xs ∧ RVs l xs
  | .loc n, x => ∃ a, x = .ref a ∧ ρ.1[n]? = some a
def RVs : List Val → List V → Prop
  | [], ys => ys = []
  | v :: l, ys => ∃ y r, ys = y :: r ∧ RV v y ∧ RVs l r
end
def RE : Env → L2.St → Prop
  | [], τ => τ = []
  | none :: σ, τ => ∃ y r, τ = y :: r ∧ RE σ r
  | some v :: σ, τ => ∃ y r, τ = some y :: r ∧ RV K ρ Hf v y ∧ RE σ r
end
theorem sqL_mono {K : Frag} {H H' : Hp} (e : Same H H') {a : Addr} {xs : List V} (h : SqL K H a xs) : SqL K H' a xs := e.seq h
theorem sqT_mono {K : Frag} {H H' : Hp} (e : Same H H') {a : Addr} {xs : List V} (h : SqT K H a xs) : SqT K H' a xs := by
  rcases h with (h | ⟨o, h⟩) | h
  · exact .inl (.inl (e _ _ h))
  · exact .inl (.inr ⟨o, e _ _ h⟩)
  · exact .inr h
theorem pre_get {α : Type} {l l' : List α} (h : l <+: l') {n : Nat} {a : α} (e : l[n]? = some a) : l'[n]? = some a := by
  obtain ⟨r, rfl⟩ := h
  rw [List.getElem?_append_left (List.getElem?_eq_some_iff.mp e).1]
  exact e
section
variable {K : Frag} {ρ ρ' : Rho} {H H' : Hp}
mutual
theorem RV.mono (hr : ρ.1 <+: ρ'.1) (e : Same H H') : ∀ {v : Val} {x : V}, RV K ρ H v x → RV K ρ' H' v x
  | .non, _, h => h
  | .bl _, _, h => h
  | .int _, _, h => h
  | .str _, _, h => h
  | .ty _, _, h => h
  | .ref _, _, h => h
  | .tup _, _, ⟨a, xs, e1, e2, e3⟩ => ⟨a, xs, e1, sqT_mono e e2, RVs.mono hr e e3⟩
  | .lst _, _, ⟨a, xs, e1, e2, e3⟩ => ⟨a, xs, e1, e _ _ e2, RVs.mono hr e e3⟩
  | .cst _, _, ⟨a, xs, e1, e2, e3⟩ => ⟨a, xs, e1, sqL_mono e e2, RVs.mono hr e e3⟩
  | .loc _, _, ⟨a, e1, e2⟩ => ⟨a, e1, pre_get hr e2⟩
theorem RVs.mono (hr : ρ.1 <+: ρ'.1) (e : Same H H') : ∀ {l : List Val} {xs : List V}, RVs K ρ H l xs → RVs K ρ' H' l xs
  | [], _, h => h
  | _ :: _, _, ⟨y, r, e1, e2, e3⟩ => ⟨y, r, e1, RV.mono hr e e2, RVs.mono hr e e3⟩
end
theorem RE.mono (hr : ρ.1 <+: ρ'.1) (e : Same H H') : ∀ {σ : Env} {τ : L2.St}, RE K ρ H σ τ → RE K ρ' H' σ τ
  | [], _, h => h
  | none :: _, _, ⟨y, r, e1, e3⟩ => ⟨y, r, e1, RE.mono hr e e3⟩
  | some _ :: _, _, ⟨y, r, e1, e2, e3⟩ => ⟨y, r, e1, RV.mono hr e e2, RE.mono hr e e3⟩
theorem RVs.length : ∀ {l : List Val} {xs : List V}, RVs K ρ H l xs → l.length = xs.length
  | [], _, h => by cases h; rfl
  | _ :: _, _, ⟨y, r, e1, e2, e3⟩ => by cases e1; exact congrArg Nat.succ (RVs.length e3)
theorem RVs.get : ∀ {l : List Val} {xs : List V} {n : Nat} {v : Val}, RVs K ρ H l xs → l[n]? = some v → ∃ x, xs[n]? = some x ∧ RV K ρ H v x
  | [], _, _, _, _, e => by simp at e
  | _ :: _, _, 0, _, ⟨y, r, e1, e2, e3⟩, e => by cases e1; simp at e; subst e; exact ⟨y, rfl, e2⟩
  | _ :: l, _, n + 1, v, ⟨y, r, e1, e2, e3⟩, e => by
    cases e1
    obtain ⟨x, h1, h2⟩ := RVs.get (n := n) (v := v) e3 (by simpa using e)
    exact ⟨x, by simpa using h1, h2⟩
theorem RVs.append : ∀ {l l' : List Val} {xs ys : List V}, RVs K ρ H l xs → RVs K ρ H l' ys → RVs K ρ H (l ++ l') (xs ++ ys)
  | [], _, _, _, h, h' => by cases h; exact h'
  | _ :: _, _, _, _, ⟨y, r, e1, e2, e3⟩, h' => by cases e1; exact ⟨y, _, rfl, e2, RVs.append e3 h'⟩
theorem RVs.one {v : Val} {x : V} (h : RV K ρ H v x) : RVs K ρ H [v] [x] := ⟨x, [], rfl, h, rfl⟩
theorem RVs.take : ∀ {l : List Val} {xs : List V} (n : Nat), RVs K ρ H l xs → RVs K ρ H (l.take n) (xs.take n)
  | [], _, n, h => by cases h; simp [RVs]
  | _ :: _, _, 0, _ => rfl
  | _ :: _, _, n + 1, ⟨y, r, e1, e2, e3⟩ => by cases e1; exact ⟨y, _, rfl, e2, RVs.take n e3⟩
theorem RVs.drop : ∀ {l : List Val} {xs : List V} (n : Nat), RVs K ρ H l xs → RVs K ρ H (l.drop n) (xs.drop n)
  | [], _, n, h => by cases h; simp [RVs]
  | _ :: _, _, 0, h => h
  | _ :: _, _, n + 1, ⟨y, r, e1, e2, e3⟩ => by cases e1; exact RVs.drop n e3
theorem RVs.set {v : Val} {x : V} (h : RV K ρ H v x) : ∀ {l : List Val} {xs : List V} (n : Nat), RVs K ρ H l xs → RVs K ρ H (l.set n v) (xs.set n x)
  | [], _, n, h => by cases h; rfl
  | _ :: _, _, 0, ⟨y, r, e1, e2, e3⟩ => by cases e1; exact ⟨x, r, rfl, h, e3⟩
  | _ :: _, _, n + 1, ⟨y, r, e1, e2, e3⟩ => by cases e1; exact ⟨y, _, rfl, e2, RVs.set h n e3⟩
theorem RVs.eraseIdx : ∀ {l : List Val} {xs : List V} (n : Nat), RVs K ρ H l xs → RVs K ρ H (l.eraseIdx n) (xs.eraseIdx n)
  | [], _, n, h => by cases h; simp [RVs]
  | _ :: _, _, 0, ⟨y, r, e1, e2, e3⟩ => by cases e1; exact e3
  | _ :: _, _, n + 1, ⟨y, r, e1, e2, e3⟩ => by cases e1; exact ⟨y, _, rfl, e2, RVs.eraseIdx n e3⟩
theorem RVs.reverse {l : List Val} {xs : List V} (h : RVs K ρ H l xs) : RVs K ρ H l.reverse xs.reverse := by
  induction l generalizing xs with
  | nil => cases h; rfl
  | cons v l ih =>
    obtain ⟨y, r, rfl, h1, h2⟩ := h
    rw [List.reverse_cons, List.reverse_cons]
    exact (ih h2).append (.one h1)
theorem RVs.nil_iff {l : List Val} {xs : List V} (h : RVs K ρ H l xs) : l = [] ↔ xs = [] := by
  have := h.length
  constructor <;> (rintro rfl; apply List.length_eq_zero_iff.mp; simp_all)
theorem RE.length : ∀ {σ : Env} {τ : L2.St}, RE K ρ H σ τ → σ.length = τ.length
  | [], _, h => by cases h; rfl
  | none :: _, _, ⟨y, r, e1, e3⟩ => by cases e1; exact congrArg Nat.succ (RE.length e3)
  | some _ :: _, _, ⟨y, r, e1, e2, e3⟩ => by cases e1; exact congrArg Nat.succ (RE.length e3)
theorem RE.get : ∀ {σ : Env} {τ : L2.St} {n : Nat} {v : Val}, RE K ρ H σ τ → σ[n]? = some (some v) → ∃ x, τ[n]? = some (some x) ∧ RV K ρ H v x
  | [], _, _, _, _, e => by simp at e
  | none :: _, _, 0, _, ⟨y, r, e1, e3⟩, e => by simp at e
  | none :: _, _, n + 1, v, ⟨y, r, e1, e3⟩, e => by
    cases e1
    obtain ⟨x, h1, h2⟩ := RE.get (n := n) (v := v) e3 (by simpa using e)
    exact ⟨x, by simpa using h1, h2⟩
  | some _ :: _, _, 0, _, ⟨y, r, e1, e2, e3⟩, e => by cases e1; simp at e; subst e; exact ⟨y, rfl, e2⟩
  | some _ :: _, _, n + 1, v, ⟨y, r, e1, e2, e3⟩, e => by
    cases e1
    obtain ⟨x, h1, h2⟩ := RE.get (n := n) (v := v) e3 (by simpa using e)
    exact ⟨x, by simpa using h1, h2⟩
theorem RE.set {v : Val} {x : V} (h : RV K ρ H v x) : ∀ {σ : Env} {τ : L2.St} (n : Nat), RE K ρ H σ τ → RE K ρ H (σ.set n (some v)) (τ.set n (some x))
  | [], _, n, h => by cases h; rfl
  | none :: _, _, 0, ⟨y, r, e1, e3⟩ => by cases e1; exact ⟨x, r, rfl, h, e3⟩
  | none :: _, _, n + 1, ⟨y, r, e1, e3⟩ => by cases e1; exact ⟨y, _, rfl, RE.set h n e3⟩
  | some _ :: _, _, 0, ⟨y, r, e1, e2, e3⟩ => by cases e1; exact ⟨x, r, rfl, h, e3⟩
  | some _ :: _, _, n + 1, ⟨y, r, e1, e2, e3⟩ => by cases e1; exact ⟨y, _, rfl, e2, RE.set h n e3⟩
theorem RE.unset : ∀ {σ : Env} {τ : L2.St} (n : Nat), RE K ρ H σ τ → RE K ρ H (σ.set n none) (τ.set n none)
  | [], _, n, h => by cases h; rfl
  | none :: _, _, 0, ⟨y, r, e1, e3⟩ => by cases e1; exact ⟨_, r, rfl, e3⟩
  | none :: _, _, n + 1, ⟨y, r, e1, e3⟩ => by cases e1; exact ⟨y, _, rfl, RE.unset n e3⟩
  | some _ :: _, _, 0, ⟨y, r, e1, e2, e3⟩ => by cases e1; exact ⟨_, r, rfl, e3⟩
  | some _ :: _, _, n + 1, ⟨y, r, e1, e2, e3⟩ => by cases e1; exact ⟨y, _, rfl, e2, RE.unset n e3⟩
theorem RE.args {n : Nat} : ∀ {l : List Val} {xs : List V}, RVs K ρ H l xs → RE K ρ H (l.map some ++ List.replicate n none) (xs.map some ++ List.replicate n none)
  | [], _, h => by
    cases h
    induction n with
    | zero => rfl
    | succ n ih => exact ⟨none, _, rfl, ih⟩
  | _ :: _, _, ⟨y, r, e1, e2, e3⟩ => by cases e1; exact ⟨y, _, rfl, e2, RE.args e3⟩
end

/-! ### what is owned, what is fixed -/
def Own (ρ : Rho) (st : Sto) (a : Addr) : Prop := a ∈ ρ.2 ∨ ∃ (n : Nat) (o : Ob), ρ.1[n]? = some a ∧ st[n]? = some o ∧ o ≠ .dead
open Classical in
noncomputable def Fz (ρ : Rho) (st : Sto) (H : Hp) : Hp := fun b => if Own ρ st b then none else H b
theorem fz_none {ρ : Rho} {st : Sto} {H : Hp} {b : Addr} (h : Own ρ st b) : Fz ρ st H b = none := by
  unfold Fz; rw [if_pos h]
theorem fz_eq {ρ : Rho} {st : Sto} {H : Hp} {b : Addr} (h : ¬ Own ρ st b) : Fz ρ st H b = H b := by
  unfold Fz; rw [if_neg h]
theorem fz_same (ρ : Rho) (st : Sto) (H : Hp) : Same (Fz ρ st H) H := fun b o e => by
  by_cases h : Own ρ st b
  · rw [fz_none h] at e; cases e
  · rw [fz_eq h] at e; exact e
theorem fz_some {ρ : Rho} {st : Sto} {H : Hp} {b : Addr} {o : HO} (e : Fz ρ st H b = some o) : ¬ Own ρ st b ∧ H b = some o := by
  by_cases h : Own ρ st b
  · rw [fz_none h] at e; cases e
  · rw [fz_eq h] at e; exact ⟨h, e⟩
/-- the entries of a dict with tuples for keys -/
def entN (w : World) : List (NestedKey × Addr) → List Value → List DictEntry
  | (k, b) :: ks, u :: us => ⟨k.hash w, .ref b, u⟩ :: entN w ks us
  | _, _ => []
/-- such a dict at a -/
def ndO (w : World) (a : Addr) (ks : List (NestedKey × Addr)) (vs : List V) : HO := .ext fun h => ∃ us : List Value, Vals vs us ∧ ks.length = us.length ∧ (ks.map (·.1)).Nodup ∧ (∀ k ∈ ks, k.1.depth ≤ 8) ∧ (a == sysModules) = false ∧ ∃ o es ep, h.get? a = some o ∧ o.ExactDict ∧ o.data = .dict es ep ∧ es.toList = entN w ks us
mutual
def nkOf : Val → Option NestedKey
  | .non => some .none
  | .bl b => some (.num (if b = true then 1 else 0))
  | .int i => some (.num i)
  | .str s => some (.text s)
  | .tup l => (nksOf l).map .tup
  | _ => none
def nksOf : List Val → Option (List NestedKey)
  | [] => some []
  | v :: l => (nkOf v).bind fun k => (nksOf l).map fun ks => k :: ks
end
def RO (K : Frag) (ρ : Rho) (Hf : Hp) (H : Hp) (a : Addr) : Ob → Prop
  | .dead => True
  | .lst l => ∃ xs, H a = some (.lst xs) ∧ RVs K ρ Hf l xs
  | .dk l => ∃ kvs, H a = some (.dK kvs) ∧ kvs.map (·.1) = l.map (·.1) ∧ RVs K ρ Hf (l.map (·.2)) (kvs.map (·.2))
  | .dn w l => ∃ ks vs, H a = some (ndO w a ks vs) ∧ l.map (fun p => nkOf p.1) = ks.map (fun p => some p.1) ∧ RVs K ρ Hf (l.map (·.1)) (ks.map fun p => V.ref p.2) ∧ RVs K ρ Hf (l.map (·.2)) vs
theorem RO.frame {K : Frag} {ρ ρ' : Rho} {Hf Hf' H H' : Hp} {a : Addr} {o : Ob} (h : RO K ρ Hf H a o) (e : o ≠ .dead → H' a = H a) (pr : ρ.1 <+: ρ'.1) (sm : Same Hf Hf') : RO K ρ' Hf' H' a o := by
  cases o with
  | dead => trivial
  | lst l => obtain ⟨xs, q, r⟩ := h; exact ⟨xs, (e (fun z => by cases z)).trans q, r.mono pr sm⟩
  | dk l => obtain ⟨xs, q, r1, r⟩ := h; exact ⟨xs, (e (fun z => by cases z)).trans q, r1, r.mono pr sm⟩
  | dn w l => obtain ⟨ks, vs, q, r1, r2, r⟩ := h; exact ⟨ks, vs, (e (fun z => by cases z)).trans q, r1, r2.mono pr sm, r.mono pr sm⟩
theorem RO.some {K : Frag} {ρ : Rho} {Hf H : Hp} {a : Addr} {o : Ob} (h : RO K ρ Hf H a o) (n : o ≠ .dead) : ∃ u, H a = some u := by
  cases o with
  | dead => exact absurd rfl n
  | lst l => obtain ⟨_, e, _⟩ := h; exact ⟨_, e⟩
  | dk l => obtain ⟨_, e, _⟩ := h; exact ⟨_, e⟩
  | dn w l => obtain ⟨_, _, e, _⟩ := h; exact ⟨_, e⟩
structure RS (K : Frag) (ρ : Rho) (st : Sto) (H : Hp) : Prop where
  len : ρ.1.length = st.length
  ob : ∀ (n : Nat) (o : Ob) (a : Addr), st[n]? = some o → ρ.1[n]? = some a → RO K ρ (Fz ρ st H) H a o
  inj : ∀ (n m : Nat) (a : Addr) (o o' : Ob), ρ.1[n]? = some a → ρ.1[m]? = some a → st[n]? = some o → o ≠ .dead → st[m]? = some o' → o' ≠ .dead → n = m
  hid : ∀ a ∈ ρ.2, ∃ o, H a = some o
  apart : ∀ (n : Nat) (a : Addr) (o : Ob), ρ.1[n]? = some a → st[n]? = some o → o ≠ .dead → a ∉ ρ.2
structure Ext (ρ : Rho) (st : Sto) (H : Hp) (ρ' : Rho) (st' : Sto) (H' : Hp) : Prop where
  pre : ρ.1 <+: ρ'.1
  fz : Same (Fz ρ st H) (Fz ρ' st' H')
  hs : ρ'.2 = ρ.2
  hid : ∀ a ∈ ρ.2, H' a = H a
theorem Ext.refl {ρ : Rho} {st : Sto} {H : Hp} : Ext ρ st H ρ st H := ⟨List.prefix_rfl, Same.refl _, rfl, fun _ _ => rfl⟩
theorem Ext.trans {ρ ρ1 ρ2 : Rho} {st st1 st2 : Sto} {H H1 H2 : Hp} (a : Ext ρ st H ρ1 st1 H1) (b : Ext ρ1 st1 H1 ρ2 st2 H2) : Ext ρ st H ρ2 st2 H2 :=
  ⟨a.pre.trans b.pre, a.fz.trans b.fz, b.hs.trans a.hs, fun z hz => (b.hid z (by rw [a.hs]; exact hz)).trans (a.hid z hz)⟩
section
variable {K : Frag} {ρ ρ' : Rho} {st st' : Sto} {H H' : Hp}
theorem RS.own_some (r : RS K ρ st H) {a : Addr} (h : Own ρ st a) : ∃ o, H a = some o := by
  rcases h with h | ⟨n, o, e1, e2, e3⟩
  · exact r.hid a h
  · have q := r.ob n o a e2 e1
    exact q.some e3
theorem RS.fresh (r : RS K ρ st H) {p : Addr} (h : H p = none) : ¬ Own ρ st p := fun z => by
  obtain ⟨o, e⟩ := r.own_some z
  rw [h] at e; cases e
/-- a new thing that never changes -/
theorem new_fz {o : HO} {p : Addr} (r : RS K ρ st H) (h : H p = none) : Ext ρ st H ρ st (upd H p o) ∧ RS K ρ st (upd H p o) ∧ Fz ρ st (upd H p o) p = some o := by
  have hp := r.fresh h
  have sm : Same (Fz ρ st H) (Fz ρ st (upd H p o)) := fun b u e => by
    obtain ⟨h1, h2⟩ := fz_some e
    rw [fz_eq h1, upd_ne (ne_of_none h2 h)]
    exact h2
  have hh : ∀ a ∈ ρ.2, upd H p o a = H a := fun a ha => upd_ne (fun z => hp (by rw [← z]; exact .inl ha))
  refine ⟨⟨List.prefix_rfl, sm, rfl, hh⟩, ⟨r.len, fun n u a e1 e2 => ?_, r.inj, fun a ha => by rw [hh a ha]; exact r.hid a ha, r.apart⟩, by rw [fz_eq hp, upd_same]⟩
  have q := r.ob n u a e1 e2
  exact q.frame (fun z => upd_ne (ne_of_none (q.some z).choose_spec h)) List.prefix_rfl sm
/-- a new thing that may change -/
theorem new_ob {x : HO} {l : Ob} {p : Addr} (r : RS K ρ st H) (h : H p = none) (q : RO K ρ (Fz ρ st H) (upd H p x) p l) : Ext ρ st H (ρ.1 ++ [p], ρ.2) (st ++ [l]) (upd H p x) ∧ RS K (ρ.1 ++ [p], ρ.2) (st ++ [l]) (upd H p x) ∧ (ρ.1 ++ [p])[st.length]? = some p := by
  have hp := r.fresh h
  have key : ∀ (n : Nat) (o : Ob) (a : Addr), (ρ.1 ++ [p])[n]? = some a → (st ++ [l])[n]? = some o → (ρ.1[n]? = some a ∧ st[n]? = some o) ∨ (n = ρ.1.length ∧ a = p ∧ o = l) := fun n o a e1 e2 => by
    by_cases hn : n < ρ.1.length
    · rw [List.getElem?_append_left hn] at e1
      rw [List.getElem?_append_left (by rw [← r.len]; exact hn)] at e2
      exact .inl ⟨e1, e2⟩
    · rw [List.getElem?_append_right (by omega)] at e1
      rw [List.getElem?_append_right (by rw [← r.len]; omega), ← r.len] at e2
      cases hz : n - ρ.1.length with
      | zero => rw [hz] at e1 e2; simp at e1 e2; exact .inr ⟨by omega, e1.symm, e2.symm⟩
      | succ z => rw [hz] at e1; simp at e1
  have back : ∀ b, Own (ρ.1 ++ [p], ρ.2) (st ++ [l]) b → Own ρ st b ∨ b = p := fun b hb => by
    rcases hb with hb | ⟨n, o, e1, e2, e3⟩
    · exact .inl (.inl hb)
    · rcases key n o b e1 e2 with ⟨h1, h2⟩ | ⟨_, h2, _⟩
      · exact .inl (.inr ⟨n, o, h1, h2, e3⟩)
      · exact .inr h2
  have sm : Same (Fz ρ st H) (Fz (ρ.1 ++ [p], ρ.2) (st ++ [l]) (upd H p x)) := fun b u e => by
    obtain ⟨h1, h2⟩ := fz_some e
    have hb := ne_of_none h2 h
    rw [fz_eq (fun z => (back b z).elim h1 hb), upd_ne hb]
    exact h2
  have hh : ∀ a ∈ ρ.2, upd H p x a = H a := fun a ha => upd_ne (fun z => hp (by rw [← z]; exact .inl ha))
  have pr : ρ.1 <+: (ρ.1 ++ [p], ρ.2).1 := List.prefix_append ..
  refine ⟨⟨pr, sm, rfl, hh⟩, ⟨by simp [r.len], fun n u a e1 e2 => ?_, fun n m a o o' e1 e2 e3 e4 e5 e6 => ?_, fun a ha => by rw [hh a ha]; exact r.hid a ha, fun n a o e1 e2 e3 => ?_⟩, by rw [← r.len]; simp⟩
  · rcases key n u a e2 e1 with ⟨h1, h2⟩ | ⟨h0, h1, h2⟩
    · have q := r.ob n u a h2 h1
      exact q.frame (fun z => upd_ne (ne_of_none (q.some z).choose_spec h)) pr sm
    · subst h1; subst h2
      exact q.frame (fun _ => rfl) pr sm
  · rcases key n o a e1 e3 with ⟨a2, a3⟩ | ⟨a1, a2, _⟩ <;> rcases key m o' a e2 e5 with ⟨b2, b3⟩ | ⟨b1, b2, _⟩
    · exact r.inj n m a o o' a2 b2 a3 e4 b3 e6
    · exact absurd (.inr ⟨n, o, by rw [← b2]; exact a2, a3, e4⟩) hp
    · exact absurd (.inr ⟨m, o', by rw [← a2]; exact b2, b3, e6⟩) hp
    · rw [a1, b1]
  · rcases key n o a e1 e2 with ⟨h1, h2⟩ | ⟨_, h1, _⟩
    · exact r.apart n a o h1 h2 e3
    · rw [h1]; exact fun z => hp (.inl z)
theorem new_loc {xs : List V} {l : List Val} {p : Addr} (r : RS K ρ st H) (h : H p = none) (q : RVs K ρ (Fz ρ st H) l xs) : Ext ρ st H (ρ.1 ++ [p], ρ.2) (st ++ [.lst l]) (upd H p (.lst xs)) ∧ RS K (ρ.1 ++ [p], ρ.2) (st ++ [.lst l]) (upd H p (.lst xs)) ∧ (ρ.1 ++ [p])[st.length]? = some p :=
  new_ob r h ⟨xs, upd_same, q⟩
/-- an owned thing is changed -/
theorem set_ob {n : Nat} {a : Addr} {l l' : Ob} {y : HO} (r : RS K ρ st H) (e1 : st[n]? = some l) (nl : l ≠ .dead) (e2 : ρ.1[n]? = some a) (q : RO K ρ (Fz ρ st H) (upd H a y) a l') :
    Ext ρ st H ρ (st.set n l') (upd H a y) ∧ RS K ρ (st.set n l') (upd H a y) := by
  have hn : n < st.length := (List.getElem?_eq_some_iff.mp e1).1
  have ah : a ∉ ρ.2 := r.apart n a _ e2 e1 nl
  have key : ∀ (m : Nat) (o : Ob), (st.set n l')[m]? = some o → o ≠ .dead → ∃ o', st[m]? = some o' ∧ o' ≠ .dead := fun m o h1 h2 => by
    by_cases hm : m = n
    · subst hm; exact ⟨_, e1, nl⟩
    · rw [List.getElem?_set_ne (Ne.symm hm)] at h1; exact ⟨o, h1, h2⟩
  have own : ∀ b, Own ρ (st.set n l') b → Own ρ st b := fun b hb => by
    rcases hb with hb | ⟨m, o, h1, h2, h3⟩
    · exact .inl hb
    · obtain ⟨o', p1, p2⟩ := key m o h2 h3
      exact .inr ⟨m, o', h1, p1, p2⟩
  have hoa : Own ρ st a := .inr ⟨n, _, e2, e1, nl⟩
  have sm : Same (Fz ρ st H) (Fz ρ (st.set n l') (upd H a y)) := fun b u e => by
    obtain ⟨h1, h2⟩ := fz_some e
    have hb : b ≠ a := fun z => h1 (by rw [z]; exact hoa)
    rw [fz_eq (fun z => h1 (own b z)), upd_ne hb]
    exact h2
  have hh : ∀ b ∈ ρ.2, upd H a y b = H b := fun b hb => upd_ne (fun z => ah (by rw [← z]; exact hb))
  refine ⟨⟨List.prefix_rfl, sm, rfl, hh⟩, ⟨by simp [r.len], fun m u b h1 h2 => ?_, fun m k b o o' h1 h2 h3 h4 h5 h6 => ?_, fun b hb => by rw [hh b hb]; exact r.hid b hb, fun m b o h1 h2 h3 => ?_⟩⟩
  · by_cases hm : m = n
    · subst hm
      rw [List.getElem?_set_self hn] at h1
      cases h1
      rw [e2] at h2; cases h2
      exact q.frame (fun _ => rfl) List.prefix_rfl sm
    · rw [List.getElem?_set_ne (Ne.symm hm)] at h1
      have q := r.ob m u b h1 h2
      exact q.frame (fun z => upd_ne fun w => hm (r.inj m n a _ _ (by rw [← w]; exact h2) e2 h1 z e1 nl)) List.prefix_rfl sm
  · obtain ⟨p1, p2, p3⟩ := key m o h3 h4
    obtain ⟨q1, q2, q3⟩ := key k o' h5 h6
    exact r.inj m k b _ _ h1 h2 p2 p3 q2 q3
  · obtain ⟨p1, p2, p3⟩ := key m o h2 h3
    exact r.apart m b p1 h1 p2 p3
theorem set_loc {n : Nat} {a : Addr} {l l' : List Val} {ys : List V} (r : RS K ρ st H) (e1 : st[n]? = some (.lst l)) (e2 : ρ.1[n]? = some a) (q : RVs K ρ (Fz ρ st H) l' ys) :
    Ext ρ st H ρ (st.set n (.lst l')) (upd H a (.lst ys)) ∧ RS K ρ (st.set n (.lst l')) (upd H a (.lst ys)) := set_ob r e1 (fun z => by cases z) e2 ⟨ys, upd_same, q⟩
/-- a list of ours will not change any more -/
theorem freeze {n : Nat} {a : Addr} {l : List Val} (r : RS K ρ st H) (e1 : st[n]? = some (.lst l)) (e2 : ρ.1[n]? = some a) :
    Ext ρ st H ρ (st.set n .dead) H ∧ RS K ρ (st.set n .dead) H ∧ RV K ρ (Fz ρ (st.set n .dead) H) (.lst l) (.ref a) := by
  have hn : n < st.length := (List.getElem?_eq_some_iff.mp e1).1
  have nd : ∀ l : List Val, Ob.lst l ≠ .dead := fun l z => by cases z
  have key : ∀ (m : Nat) (o : Ob), (st.set n .dead)[m]? = some o → o ≠ .dead → m ≠ n ∧ st[m]? = some o := fun m o h1 h2 => by
    by_cases hm : m = n
    · subst hm
      rw [List.getElem?_set_self hn] at h1
      cases h1
      exact absurd rfl h2
    · rw [List.getElem?_set_ne (Ne.symm hm)] at h1; exact ⟨hm, h1⟩
  have own : ∀ b, Own ρ (st.set n .dead) b → Own ρ st b := fun b hb => by
    rcases hb with hb | ⟨m, o, h1, h2, h3⟩
    · exact .inl hb
    · exact .inr ⟨m, o, h1, (key m o h2 h3).2, h3⟩
  have nown : ¬ Own ρ (st.set n .dead) a := by
    rintro (hb | ⟨m, o, h1, h2, h3⟩)
    · exact r.apart n a _ e2 e1 (nd l) hb
    · obtain ⟨p1, p2⟩ := key m o h2 h3
      exact p1 (r.inj m n a o _ h1 e2 p2 h3 e1 (nd l))
  have sm : Same (Fz ρ st H) (Fz ρ (st.set n .dead) H) := fun b u e => by
    obtain ⟨h1, h2⟩ := fz_some e
    rw [fz_eq (fun z => h1 (own b z))]
    exact h2
  obtain ⟨xs, hx, q⟩ : ∃ xs, H a = some (.lst xs) ∧ RVs K ρ (Fz ρ st H) l xs := r.ob n _ a e1 e2
  refine ⟨⟨List.prefix_rfl, sm, rfl, fun _ _ => rfl⟩, ⟨by simp [r.len], fun m u b h1 h2 => ?_, fun m k b o o' h1 h2 h3 h4 h5 h6 => ?_, r.hid, fun m b o h1 h2 h3 => r.apart m b o h1 (key m o h2 h3).2 h3⟩, ⟨a, xs, rfl, (by rw [fz_eq nown]; exact hx), q.mono List.prefix_rfl sm⟩⟩
  · by_cases hu : u = .dead
    · subst hu; trivial
    · exact (r.ob m u b (key m u h1 hu).2 h2).frame (fun _ => rfl) List.prefix_rfl sm
  · exact r.inj m k b _ _ h1 h2 (key m o h3 h4).2 h4 (key k o' h5 h6).2 h6
/-- something that is being made: hidden -/
abbrev hideR (ρ : Rho) (D : Addr) : Rho := (ρ.1, D :: ρ.2)
theorem own_hide {D b : Addr} : Own (hideR ρ D) st b ↔ b = D ∨ Own ρ st b := by
  constructor
  · rintro (h | h)
    · rcases List.mem_cons.mp h with h | h
      · exact .inl h
      · exact .inr (.inl h)
    · exact .inr (.inr h)
  · rintro (h | h | h)
    · exact .inl (by rw [h]; exact List.mem_cons_self)
    · exact .inl (List.mem_cons_of_mem _ h)
    · exact .inr h
theorem fz_hide {D : Addr} {H H' : Hp} (hD : ¬ Own ρ st D) (h0 : H D = none) (e : ∀ b, b ≠ D → H' b = H b) : Fz (hideR ρ D) st H' = Fz ρ st H := by
  funext b
  by_cases hb : b = D
  · subst hb
    rw [fz_none (own_hide.mpr (.inl rfl)), fz_eq hD, h0]
  · by_cases ho : Own ρ st b
    · rw [fz_none (own_hide.mpr (.inr ho)), fz_none ho]
    · rw [fz_eq (fun z => (own_hide.mp z).elim hb ho), fz_eq ho, e b hb]
theorem rv_hide {D : Addr} {Hf : Hp} : ∀ {v : Val} {x : V}, RV K (hideR ρ D) Hf v x ↔ RV K ρ Hf v x := by
  intro v x
  exact ⟨fun h => RV.mono (ρ := hideR ρ D) (ρ' := ρ) List.prefix_rfl (Same.refl _) h, fun h => RV.mono (ρ := ρ) (ρ' := hideR ρ D) List.prefix_rfl (Same.refl _) h⟩
/-- it begins -/
theorem RS.hide (r : RS K ρ st H) {D : Addr} {o : HO} (h0 : H D = none) : RS K (hideR ρ D) st (upd H D o) := by
  have hD := r.fresh h0
  have ef : Fz (hideR ρ D) st (upd H D o) = Fz ρ st H := fz_hide hD h0 fun b hb => upd_ne hb
  refine ⟨r.len, fun n u a e1 e2 => ?_, r.inj, fun a ha => ?_, fun n a u e1 e2 e3 z => ?_⟩
  · rw [ef]
    have q := r.ob n u a e1 e2
    exact RO.frame (ρ := ρ) (ρ' := hideR ρ D) q (fun z => upd_ne (ne_of_none (q.some z).choose_spec h0)) List.prefix_rfl (Same.refl _)
  · by_cases h : a = D
    · subst h; exact ⟨o, upd_same⟩
    · rw [upd_ne h]
      exact r.hid a ((List.mem_cons.mp ha).resolve_left h)
  · rcases List.mem_cons.mp z with z | z
    · subst z; exact hD (.inr ⟨n, u, e1, e2, e3⟩)
    · exact r.apart n a u e1 e2 e3 z
/-- it goes on -/
theorem RS.rehide {D : Addr} {o : HO} (r : RS K (hideR ρ D) st H) : RS K (hideR ρ D) st (upd H D o) ∧ Fz (hideR ρ D) st (upd H D o) = Fz (hideR ρ D) st H := by
  have ef : Fz (hideR ρ D) st (upd H D o) = Fz (hideR ρ D) st H := by
    funext b
    by_cases hb : b = D
    · subst hb; rw [fz_none (own_hide.mpr (.inl rfl)), fz_none (own_hide.mpr (.inl rfl))]
    · by_cases ho : Own (hideR ρ D) st b
      · rw [fz_none ho, fz_none ho]
      · rw [fz_eq ho, fz_eq ho, upd_ne hb]
  refine ⟨⟨r.len, fun n u a e1 e2 => ?_, r.inj, fun a ha => ?_, r.apart⟩, ef⟩
  · rw [ef]
    have q := r.ob n u a e1 e2
    exact q.frame (fun z => upd_ne fun w => r.apart n a _ e2 e1 z (by rw [w]; exact List.mem_cons_self)) List.prefix_rfl (Same.refl _)
  · by_cases h : a = D
    · subst h; exact ⟨o, upd_same⟩
    · rw [upd_ne h]; exact r.hid a ha
/-- it is made -/
theorem RS.unhide {D : Addr} (r : RS K (hideR ρ D) st H) (hn : D ∉ ρ.2) : RS K ρ st H ∧ Same (Fz (hideR ρ D) st H) (Fz ρ st H) ∧ Fz ρ st H D = H D := by
  have sm : Same (Fz (hideR ρ D) st H) (Fz ρ st H) := fun b o e => by
    obtain ⟨h1, h2⟩ := fz_some e
    rw [fz_eq (fun z => h1 (own_hide.mpr (.inr z)))]
    exact h2
  have nD : ¬ Own ρ st D := by
    rintro (h | ⟨n, o, e1, e2, e3⟩)
    · exact hn h
    · exact r.apart n D o e1 e2 e3 List.mem_cons_self
  refine ⟨⟨r.len, fun n u a e1 e2 => ?_, r.inj, fun a ha => r.hid a (List.mem_cons_of_mem _ ha), fun n a o e1 e2 e3 z => r.apart n a o e1 e2 e3 (List.mem_cons_of_mem _ z)⟩, sm, fz_eq nD⟩
  exact RO.frame (ρ := hideR ρ D) (ρ' := ρ) (r.ob n u a e1 e2) (fun _ => rfl) List.prefix_rfl sm
end

/-! ### what is wanted behind a result -/
def RX (K : Frag) (ρ : Rho) (Hf H : Hp) (x : Exn) (cls : Value) (d : Option Addr) : Prop :=
  cls = x.cls ∧ (x.fs ≠ [] → ∃ a gs, d = some a ∧ H a = some (.xd gs) ∧ gs.map (·.1) = x.fs.map (·.1) ∧ RVs K ρ Hf (x.fs.map (·.2)) (gs.map (·.2)))
abbrev XW := Value → Option Addr → Hp → Prop
def After {α β : Type} (K : Frag) (ρ : Rho) (st : Sto) (H : Hp) (R : Rho → Hp → α → β → Prop) (r : Res α) (Q : β → Hp → Prop) (W : XW) : Prop := match r with
  | .ok a st' => ∀ ρ' H' b, Ext ρ st H ρ' st' H' → RS K ρ' st' H' → R ρ' (Fz ρ' st' H') a b → Q b H'
  | .exc x st' => ∀ ρ' H' cls d, Ext ρ st H ρ' st' H' → RS K ρ' st' H' → RX K ρ' (Fz ρ' st' H') H' x cls d → W cls d H'
  | .bad => False
section
variable {α β γ δ : Type} {K : Frag} {ρ ρ1 : Rho} {st st1 : Sto} {H H1 : Hp} {R : Rho → Hp → α → β → Prop} {R' : Rho → Hp → γ → δ → Prop} {W : XW}
theorem After.shift {r : Res α} {Q : β → Hp → Prop} (h : After K ρ st H R r Q W) (e : Ext ρ st H ρ1 st1 H1) : After K ρ1 st1 H1 R r Q W := by
  cases r with
  | ok a s => exact fun ρ' H' b e' => h ρ' H' b (e.trans e')
  | exc a s => exact fun ρ' H' b d e' => h ρ' H' b d (e.trans e')
  | bad => exact h
theorem After.bind {r : Res α} {f : α → Sto → Res γ} {Q : δ → Hp → Prop} {Q1 : β → Hp → Prop} (h : After K ρ st H R' (r.bind f) Q W)
    (k : ∀ a st1 ρ1 H1 b, r = .ok a st1 → Ext ρ st H ρ1 st1 H1 → RS K ρ1 st1 H1 → R ρ1 (Fz ρ1 st1 H1) a b → After K ρ1 st1 H1 R' (f a st1) Q W → Q1 b H1) : After K ρ st H R r Q1 W := by
  cases r with
  | ok a s => exact fun ρ' H' b e rs rr => k a s ρ' H' b rfl e rs rr (After.shift h e)
  | exc a s => exact h
  | bad => exact h
theorem After.ok {a : α} {s : Sto} {Q : β → Hp → Prop} (h : After K ρ st H R (.ok a s) Q W) {H' : Hp} {b : β} (e : Ext ρ st H ρ1 s H') (rs : RS K ρ1 s H') (rr : R ρ1 (Fz ρ1 s H') a b) : Q b H' := h ρ1 H' b e rs rr
theorem After.mono {r : Res α} {Q Q' : β → Hp → Prop} {W' : XW} (h : After K ρ st H R r Q W) (hQ : ∀ b H, Q b H → Q' b H) (hW : ∀ c d H, W c d H → W' c d H) : After K ρ st H R r Q' W' := by
  cases r with
  | ok a s => exact fun ρ' H' b e rs rr => hQ _ _ (h ρ' H' b e rs rr)
  | exc a s => exact fun ρ' H' b d e rs rr => hW _ _ _ (h ρ' H' b d e rs rr)
  | bad => exact h
end
end L3
end

section
set_option Elab.async false
set_option linter.all false
set_option maxRecDepth 100000
set_option maxHeartbeats 4000000
/-! L3b: defs that keep a promise where no repr is under way; their calls; the judgements; the end. -/
namespace L3
open PySem PySem.Spec PyProof.Rows L2

/-! ### a def's promise, no guard standing -/
structure FnG (P : Program) (w : World) (K : Frag) (mg : Str → Option Value) (base : Heap) (k : Nat) (f : Addr) (fd : FuncData) (ps : List Str) (sp : Sp) : Prop where
  len : ∀ vs H Q E, sp vs H Q E → vs.length = ps.length
  go : ∀ (A : Around) (fs : List PySem.Env) (s : Shared) (H : Hp) (as : Args) (us : List Value) (vs : List V) (Q : VK) (E : XK), A.guards = some [] → Room k A → Env0 P w K mg base A fs s H →
    BindsTo s fd as (ps.zip us) → Vals vs us → sp vs H Q E → codeAny (model P w) A (.call (.ref f) as) (CR (L2.CX P w) fs P w H s Q E) s
section
variable {P : Program} {w : World} {K : Frag} {mg : Str → Option Value} {base : Heap} {x qual : Str} {params : Arguments} {body : List Stmt} {scope : Scope} {dvs : List V} {kws : List (Str × V)} {f : Addr} {fd : FuncData} {ps : List Str} {sp : Sp}
theorem FnG.mono {j k : Nat} (F : FnG P w K mg base j f fd ps sp) (h : j ≤ k) : FnG P w K mg base k f fd ps sp := ⟨F.len, fun A fs s H as us vs Q E g r => F.go A fs s H as us vs Q E g (r.mono h)⟩
/-- the context of the def's body -/
abbrev cxG (P : Program) (w : World) (K : Frag) (mg : Str → Option Value) (base : Heap) (N : List Str) (qual : Str) (scope : Scope) (f : Addr) (cd : Value) (A : Around) (fs : List PySem.Env) (s : Shared) (H : Hp) (E : XK) : Cx :=
  cxOf (L2.CX P w) P w K mg base N qual scope f cd A fs s H E
theorem fnG_of {N : List Str} {k : Nat} (F : FunD K x qual params body scope dvs kws f fd) (S : FnScope N ps scope) (len : ∀ vs H Q E, sp vs H Q E → vs.length = ps.length)
    (hb : ∀ (cd : Value) (A : Around) (fs : List PySem.Env) (s : Shared) (H : Hp) (vs : List V) (Q : VK) (E : XK), A.guards = some [] → Room k (A.deeper (envOfC qual scope s.heap.objs.size f cd)) → sp vs H Q E →
      ∃ t, PSs (cxG P w K mg base N qual scope f cd A fs s H E) body t ∧ t { nx := fun _ H' => Q .non H', rt := Q } (start N vs) H) : FnG P w K mg base (k + 1) f fd ps sp := by
  obtain ⟨oc, od, dV, kV, doc, pm, an, cdv, ct, osl, rfl, lk, hcd, _, _⟩ := F.ex
  refine ⟨len, fun A fs s H as us vs Q E hg hr e0 bi r hs => ?_⟩
  have kin : K.In s.heap := e0.mod.kin.keeps fun b o e => (e0.bs b o e).1
  refine codeAny_call_function hr.depth (kin _ _ lk) rfl S.co S.gen rfl (PySem.W.codeRec_of kin hcd) (bi _ _ _ _ ?_)
  have look : ∀ y ∈ ps.zip us, scope.names.lookup y.1 = some .local ∨ (scope.names.lookup y.1 = some .cell ∧ ((cellsFrom (s.heap.objs.size + 1) scope.names []).lookup y.1).isSome = true) := by
    intro y hy
    have hm := (List.of_mem_zip (a := y.1) (b := y.2) hy).1
    rcases S.par y.1 hm with q | q
    · exact Or.inl q
    · exact Or.inr ⟨q, PySem.W.cellsFrom_some _ _ _ (Or.inl q)⟩
  refine wpAny_newFunctionEnv_cells S.kind look fun env he s1 ic => ?_
  cases he
  have nl : s.heap.NoLimit := e0.mod.nolimit.keeps fun b o e => (e0.bs b o e).1
  refine ⟨nl.keeps ic.toInCall.keep, codeAny_func ?_⟩
  obtain ⟨t, ht, hq⟩ := hb cdv A fs s H vs Q E hg (hr.deeper _) hs
  have I : Inv (cxG P w K mg base N qual scope f cdv A fs s H E) [] (start N vs) H s1 := inv_start S hr.hd e0 (len _ _ _ _ hs) r ic
  refine wpAny_mono (ht.run [] s1 (start N vs) H _ I hq) ?_ (fun e s' q => q)
  intro fl s' q
  cases fl with
  | ret u => obtain ⟨v, σ', H', J, rv, q⟩ := q; exact ⟨v, H', J.os, J.bare, J.base, J.hok, rv, q⟩
  | next => obtain ⟨σ', H', J, q⟩ := q; exact ⟨V.non, H', J.os, J.bare, J.base, J.hok, rfl, q⟩
  | brk => exact (q.elim fun _ q => q.elim fun _ q => q.2 : False).elim
  | cont => exact (q.elim fun _ q => q.elim fun _ q => q.2 : False).elim
/-- the law at the end -/
theorem lawG {l : PySem.W.OpenLaw} {n k : Nat} {q : Program} {loose : List Str} {XP : (Str → Option Value) → Heap → Prop} {YP : World → Heap → Prop} {d : DefRec} {x : Str}
    (hn : l.most = some n) (hn2 : n ≤ sizeLine) (hdf : d.params.defaults = []) (hr : Room k callerA)
    (F : ∀ (w : World) (mg : Str → Option Value) (fa : Addr) (h : Heap), YP w h → h.Ns mainGlobals mg → mg d.name = some (.ref fa) →
      ∃ (K : Frag) (fd : FuncData) (sp : Sp), K.In h ∧ (∀ (s : Shared) (u : Value), BindsTo s fd ⟨[u], []⟩ [(x, u)]) ∧
        (∀ (H : Hp) (a : Addr) (ns : List Int), ns.length ≤ n → (∀ z ∈ ns, Builtin.Int.intBits z ≤ 1048576) → Only H → SqL K H a (ns.map V.int) → sp [.ref a] H (fun v _ => v = .bl true) fun _ _ _ => False) ∧
        ∀ base : Heap, K.In base → base.Ns mainGlobals mg → FnG l.prog w K mg base k fa fd [x] sp) :
    PySem.W.WalkO q loose XP YP l.row.toRowW d [] (fun f vs => PySem.call f vs) := by
  refine Att.attach_callB hn hdf fun w s₀ s₁ mg mb fa o pm cd doc a vs ns G Y ho hd hcd hmg hob hi hl hbits hg => ?_
  obtain ⟨K, fd, sp, KX, hbi, hsp, hF⟩ := F w mg fa _ Y G.T.g hmg
  have rv := vals_ints hi
  have fin : ∀ H : Hp, Only H → SqL K H a (ns.map V.int) → HOk l.prog w H s₁.heap → (∀ b, H b ≠ none → b = a ∧ K.lookup a = none) →
      codeAny (model l.prog w) callerA (.call (.ref fa) ⟨[.ref a], []⟩) (fun r s' => r = .ok (.ret (.bool true)) ∧ OldK s₁.heap s'.heap ∧ s'.os = s₁.os ∧ AllBare s'.gens) s₁ := by
    intro H hO hS hok hA
    have nn : ∀ b, (b = a → K.lookup a ≠ none ∨ False) → b ≠ a → H b = none := fun b _ hb => by
      cases z : H b with
      | none => rfl
      | some u => exact absurd (hA b (by rw [z]; simp)).1 hb
    have dict : ∀ {b : Addr} {u : Obj} {es : Array DictEntry} {ep : Nat}, s₁.heap.get? b = some u → u.data = .dict es ep → H b = none := by
      intro b u es ep e1 e2
      cases z : H b with
      | none => rfl
      | some y =>
        have eb := (hA b (by rw [z]; simp)).1
        rw [eb, hob] at e1
        cases e1
        cases (show Data.seq vs.toArray _ = Data.dict es ep from e2)
    have ns_in : ∀ {b : Addr} {m : Str → Option Value}, s₁.heap.Ns b m → (hidT s₁.heap H).Ns b m := by
      rintro b m ⟨u, es, ep, e1, e2, r⟩
      exact ⟨u, es, ep, hidT_get e1 (dict e1 e2), e2, r⟩
    have kb : K.In (hidT s₁.heap H) := by
      intro b u e
      refine hidT_get (KX b u e) ?_
      cases z : H b with
      | none => rfl
      | some y =>
        obtain ⟨eb, ek⟩ := hA b (by rw [z]; simp)
        rw [eb, ek] at e
        cases e
    obtain ⟨mc, nl1, nl2⟩ := G.T.nolimit
    have md : Mod K mg (hidT s₁.heap H) := ⟨kb, ns_in G.T.g, ⟨mb, ns_in G.T.b, G.T.builtins⟩, ⟨mc, ns_in nl1, nl2⟩⟩
    have e0 : Env0 l.prog w K mg (hidT s₁.heap H) callerA [] s₁ H := by
      refine ⟨rfl, md, fun b u e => of_hidT e, Nat.le_of_eq (hidT_size _ _), trivial, ?_, hok, .of_eq hg⟩
      intro b hb
      cases (show b ∈ ([] : List Addr) from hb)
    have run := (hF _ kb (ns_in G.T.g)).go callerA [] s₁ H ⟨[.ref a], []⟩ [.ref a] [.ref a] _ _ rfl hr e0 (hbi s₁ (.ref a)) (.cons rfl .nil) (hsp H a ns hl hbits hO hS)
    refine codeAny_mono run ?_
    intro r s' h
    match r, h with
    | .error e, h => obtain ⟨_, _, _, _, _, _, _, _, _, _, _, _, z⟩ := h; exact z.elim
    | .ok .next, h => exact (h : False).elim
    | .ok .brk, h => exact (h : False).elim
    | .ok .cont, h => exact (h : False).elim
    | .ok (.ret u), h =>
      obtain ⟨v, H', h1, h2, h3, h4, h5, h6⟩ := h
      cases (show v = V.bl true from h6)
      cases (show u = Value.bool true from h5)
      refine ⟨rfl, OldK.of_keep fun b u e => ?_, h1, h2⟩
      rcases hO b with z | ⟨ob, xs, z⟩
      · exact h3.keep b u e z (fun m => by cases (show b ∈ ([] : List Addr) from m)) (fun m => by cases m)
      · obtain ⟨p1, _⟩ := hok b _ z
        obtain ⟨p2, _⟩ := h4 b _ (h3.frzs b ob _ z)
        rw [p1] at e
        cases e
        exact p2
  have hlen := hi.length
  have hsz : ns.length ≤ sizeLine := Nat.le_trans hl hn2
  cases hk : K.lookup a with
  | some u =>
    have e := KX a u hk
    rw [hob] at e
    cases e
    exact fin (fun _ => none) (fun _ => Or.inl rfl) (Or.inr ⟨_, vs.toArray, _, hk, rfl, rfl, rfl, by rw [List.size_toArray, hlen]; exact hsz, by simpa using rv⟩)
      (fun b u z => nomatch (show (none : Option HO) = some u from z)) (fun b z => absurd rfl z)
  | none =>
    let ob : Obj := { cls := .type "list", data := .seq vs.toArray }
    have at_ : ∀ b u, (if b = a then some (HO.frz ob (.lst (ns.map V.int))) else none) = some u → b = a ∧ u = .frz ob (.lst (ns.map V.int)) := by
      intro b u z
      by_cases hb : b = a
      · rw [if_pos hb] at z; cases z; exact ⟨hb, rfl⟩
      · rw [if_neg hb] at z; cases z
    refine fin (fun b => if b = a then some (.frz ob (.lst (ns.map V.int))) else none) (fun b => ?_) (Or.inl (Or.inr ⟨ob, if_pos rfl⟩)) (fun b u z => ?_) (fun b z => ?_)
    · by_cases hb : b = a
      · exact Or.inr ⟨_, _, if_pos hb⟩
      · exact Or.inl (if_neg hb)
    · obtain ⟨rfl, rfl⟩ := at_ b u z
      exact ⟨hob, by rw [List.length_map]; exact hsz, vs, _, rv, hob⟩
    · by_cases hb : b = a
      · exact ⟨hb, hk⟩
      · exact absurd (if_neg hb) z
end

/-! ### a promise by a function of values -/
def spF (K : Frag) (F : List Val → Sto → Res Val) : Sp := fun vs H Q E => ∃ ρ st as, RS K ρ st H ∧ RVs K ρ (Fz ρ st H) as vs ∧ After K ρ st H (RV K) (F as st) Q (fun c d H' => E c d H')

/-! ### judgements: a piece of syntax, its reading, its meaning -/
def SndE (K : Frag) (W : WX) (t : TE) (m : ME) : Prop := ∀ (ρ : Rho) (st : Sto) (H : Hp) (σ : Env) (τ : L2.St) (Q : VK), RS K ρ st H → RE K ρ (Fz ρ st H) σ τ → After K ρ st H (RV K) (m σ st) Q (fun c d H' => W c d τ H') → t τ H Q
def SndT (K : Frag) (W : WX) (t : TT) (m : MT) : Prop := ∀ (ρ : Rho) (st : Sto) (H : Hp) (σ : Env) (τ : L2.St) (Q : Bool → Hp → Prop), RS K ρ st H → RE K ρ (Fz ρ st H) σ τ → After K ρ st H (fun _ _ a b => a = b) (m σ st) Q (fun c d H' => W c d τ H') → t τ H Q
def SndA (K : Frag) (W : WX) (t : TA) (m : MA) : Prop := ∀ (ρ : Rho) (st : Sto) (H : Hp) (σ : Env) (τ : L2.St) (Q : List V → Hp → Prop), RS K ρ st H → RE K ρ (Fz ρ st H) σ τ → After K ρ st H (RVs K) (m σ st) Q (fun c d H' => W c d τ H') → t τ H Q
structure SE (K : Frag) (W : WX) (X : Cx) (e : Expr) (t : TE) (m : ME) : Prop where
  pe : PE X e t
  sd : SndE K W t m
structure ST (K : Frag) (W : WX) (X : Cx) (e : Expr) (t : TT) (m : MT) : Prop where
  pt : PT X e t
  sd : SndT K W t m
structure SW (K : Frag) (W : WX) (X : Cx) (e : Expr) (t : TT) (m : MT) : Prop where
  pw : PW X e t
  sd : SndT K W t m
structure SA (K : Frag) (W : WX) (X : Cx) (es : List Expr) (t : TA) (m : MA) : Prop where
  pa : PA X es t
  sd : SndA K W t m
structure SK (K : Frag) (W : WX) (X : Cx) (es : List Keyword) (t : TA) (m : MA) : Prop where
  pk : PK X es t
  sd : SndA K W t m

/-! ### values in order -/
def aNil : MA := fun _ st => .ok [] st
def aCons (m : ME) (r : MA) : MA := fun σ st => (m σ st).bind fun v st1 => (r σ st1).bind fun vs st2 => .ok (v :: vs) st2
section
variable {K : Frag} {W : WX} {X : Cx} {e : Expr} {es : List Expr} {te : TE} {ta : TA} {me : ME} {ma : MA}
theorem snd_nil : SndA K W tNil aNil := fun ρ st H σ τ Q rs re h => h.ok .refl rs rfl
theorem snd_cons (h1 : SndE K W te me) (h2 : SndA K W ta ma) : SndA K W (tCons te ta) (aCons me ma) := by
  intro ρ st H σ τ Q rs re h
  refine h1 ρ st H σ τ _ rs re (After.bind h fun v st1 ρ1 H1 x _ e1 rs1 rx h1 => ?_)
  refine h2 ρ1 st1 H1 σ τ _ rs1 (re.mono e1.pre e1.fz) (After.bind h1 fun vs st2 ρ2 H2 xs _ e2 rs2 rxs h2 => ?_)
  exact h2.ok .refl rs2 ⟨x, xs, rfl, rx.mono e2.pre e2.fz, rxs⟩
theorem sa_nil : SA K W X [] tNil aNil := ⟨pa_nil, snd_nil⟩
theorem sa_cons (h1 : SE K W X e te me) (h2 : SA K W X es ta ma) (hs : starEach (e :: es) X.env = (false, eval e X.env) :: starEach es X.env := by rfl) : SA K W X (e :: es) (tCons te ta) (aCons me ma) :=
  ⟨pa_cons h1.pe h2.pa hs, snd_cons h1.sd h2.sd⟩
theorem sk_nil : SK K W X [] tNil aNil := ⟨pk_nil, snd_nil⟩
theorem sk_cons {nm : Option Str} {kp : Pos} {ks : List Keyword} (h1 : SE K W X e te me) (h2 : SK K W X ks ta ma) : SK K W X (⟨nm, e, kp⟩ :: ks) (tCons te ta) (aCons me ma) :=
  ⟨pk_cons h1.pe h2.pk, snd_cons h1.sd h2.sd⟩
end

/-! ### calls of defs -/
/-- values that need no heap -/
def flat : Val → V → Prop
  | .non, x => x = .non
  | .bl b, x => x = .bl b
  | .int i, x => x = .int i
  | .str s, x => x = .str s
  | _, _ => False
theorem flat_rv {K : Frag} {ρ : Rho} {H : Hp} : ∀ {v : Val} {x : V}, flat v x → RV K ρ H v x
  | .non, _, h => h
  | .bl _, _, h => h
  | .int _, _, h => h
  | .str _, _, h => h
def flats : List Val → List V → Prop
  | [], ys => ys = []
  | v :: l, ys => ∃ y r, ys = y :: r ∧ flat v y ∧ flats l r
theorem flats_rv {K : Frag} {ρ : Rho} {H : Hp} : ∀ {l : List Val} {xs : List V}, flats l xs → RVs K ρ H l xs
  | [], _, h => h
  | _ :: _, _, ⟨y, r, e1, e2, e3⟩ => ⟨y, r, e1, flat_rv e2, flats_rv e3⟩
/-- the module's name x is a def that keeps F's promise, called by n values; dv: the defaults' values -/
structure Cal (P : Program) (w : World) (K : Frag) (mg : Str → Option Value) (base : Heap) (k : Nat) (x : Str) (dv : List Val) (F : List Val → Sto → Res Val) : Prop where
  ex : ∃ (f : Addr) (fd : FuncData) (ps : List Str) (ds : List Value) (dx : List V), mg x = some (.ref f) ∧ PySem.W.keepIn K (.ref f) = true ∧ FnG P w K mg base k f fd ps (spF K F) ∧ Binds K fd ps ds ∧ Vals dx ds ∧ flats dv dx
/-- .. by a number of values and keywords; g puts them in order -/
structure CalK (P : Program) (w : World) (K : Frag) (mg : Str → Option Value) (base : Heap) (k : Nat) (x : Str) (n : Nat) (ks : List Str) (g : List Val → List Val → List Val) (F : List Val → Sto → Res Val) : Prop where
  ex : ∃ (f : Addr) (fd : FuncData) (ps : List Str) (gU : List Value → List Value → List Value) (gV : List V → List V → List V), mg x = some (.ref f) ∧ PySem.W.keepIn K (.ref f) = true ∧ FnG P w K mg base k f fd ps (spF K F) ∧ KBn K fd ps n ks gU gV ∧
    (∀ ρ H as zs vs ws, RVs K ρ H as vs → RVs K ρ H zs ws → RVs K ρ H (g as zs) (gV vs ws))
/-- the callee's call -/
def mCall (F : List Val → Sto → Res Val) (dv : List Val) (ma : MA) : ME := fun σ st => (ma σ st).bind fun vs st1 => F (vs ++ dv) st1
def mCallK (F : List Val → Sto → Res Val) (n m : Nat) (g : List Val → List Val → List Val) (ma mk : MA) : ME := fun σ st => (ma σ st).bind fun vs st1 => (mk σ st1).bind fun zs st2 => if vs.length = n ∧ zs.length = m then F (g vs zs) st2 else .bad
def tCallG (K : Frag) (F : List Val → Sto → Res Val) (dv : List Val) (W : WX) (t : TA) : TE := fun σ H Q => t σ H fun vs H1 => ∃ ρ st as, RS K ρ st H1 ∧ RVs K ρ (Fz ρ st H1) as vs ∧ After K ρ st H1 (RV K) (F (as ++ dv) st) Q (fun c d H' => W c d σ H')
def tCallGK (K : Frag) (F : List Val → Sto → Res Val) (n m : Nat) (g : List Val → List Val → List Val) (W : WX) (t tk : TA) : TE := fun σ H Q => t σ H fun vs H1 => tk σ H1 fun zs H2 => vs.length = n ∧ zs.length = m ∧
  ∃ ρ st as bs, RS K ρ st H2 ∧ RVs K ρ (Fz ρ st H2) as vs ∧ RVs K ρ (Fz ρ st H2) bs zs ∧ After K ρ st H2 (RV K) (F (g as bs) st) Q (fun c d H' => W c d σ H')
section
variable {K : Frag} {X : Cx} {W : WX} {k j n : Nat} {x : Str} {dv : List Val} {F : List Val → Sto → Res Val} {p pos : Pos} {e : Expr} {es : List Expr} {t tk tk' : TA} {ma mk : MA} {kws : List Keyword} {ks : List Str} {g : List Val → List Val → List Val}
theorem run_G {f : Addr} {fd : FuncData} {ps : List Str} {sp : Sp} {pins : List (Addr × Obj)} {τ : L2.St} {H : Hp} {s : Shared} {Q : VK} {us : List Value} {vs : List V} {as : Args} (G : FnG X.prog X.w X.K X.mg X.base k f fd ps sp) (hr : Room j X.A) (hk : k ≤ j) (hg : X.A.guards = some []) (tk : Takes X W)
    (I : Inv X pins τ H s) (b : BindsTo s fd as (ps.zip us)) (r : Vals vs us) (h : sp vs H Q (fun c d H' => W c d τ H')) : wpAny (model X.prog X.w) X.A (call (.ref f) as.pos as.kw) (EP X pins τ Q) X.xe s := by
  refine wpAny_call (codeAny_mono (G.go X.A X.stack s H as us vs Q _ hg (hr.mono hk) I.env0 b r h) ?_)
  intro r s' q
  match r, q with
  | .error e, q => exact tk e s' (XE.of_call I (fun _ _ _ h => h) q)
  | .ok (.ret u), q => exact I.after q
  | .ok .next, q => exact (q : False).elim
  | .ok .brk, q => exact (q : False).elim
  | .ok .cont, q => exact (q : False).elim
theorem snd_call (ha : SndA K W t ma) : SndE K W (tCallG K F dv W t) (mCall F dv ma) := by
  intro ρ st H σ τ Q rs re h
  exact ha ρ st H σ τ _ rs re (After.bind h fun as st1 ρ1 H1 xs _ e1 rs1 rx h1 => ⟨ρ1, st1, as, rs1, rx, h1⟩)
theorem snd_callK {m : Nat} (ha : SndA K W t ma) (hk : SndA K W tk mk) : SndE K W (tCallGK K F n m g W t tk) (mCallK F n m g ma mk) := by
  intro ρ st H σ τ Q rs re h
  refine ha ρ st H σ τ _ rs re (After.bind h fun as st1 ρ1 H1 xs _ e1 rs1 rx h1 => ?_)
  refine hk ρ1 st1 H1 σ τ _ rs1 (re.mono e1.pre e1.fz) (After.bind h1 fun bs st2 ρ2 H2 ys _ e2 rs2 ry h2 => ?_)
  by_cases hc : as.length = n ∧ bs.length = m
  · rw [if_pos hc] at h2
    exact ⟨by rw [← rx.length]; exact hc.1, by rw [← ry.length]; exact hc.2, ρ2, st2, as, bs, rs2, rx.mono e2.pre e2.fz, ry, h2⟩
  · rw [if_neg hc] at h2
    exact h2.elim
theorem se_call (c : Cal X.prog X.w K X.mg X.base k x dv F) (hK : X.K = K) (hr : Room j X.A) (hk : k ≤ j) (hgd : X.A.guards = some []) (tk : Takes X W) (hg : Gl X x) (ha : SA K W X (e :: es) t ma)
    (hdb : (x == ("__debug__" : Str)) = false := by decide) (he : starEach (e :: es) X.env = (false, eval e X.env) :: starEach es X.env := by rfl) (hpl : (backTo pos (starEach es X.env)).any (·.1) = false := by rfl) :
    SE K W X (.Call (.Name x p) (e :: es) [] pos) (tCallG K F dv W t) (mCall F dv ma) := by
  subst hK
  obtain ⟨f, fd, ps, ds, dx, h1, h2, h3, h4, h5, h6⟩ := c.ex
  refine ⟨⟨fun pins s τ H Q I h => ?_⟩, snd_call ha.sd⟩
  refine wpAny_Call_Name_kw (ld_glob I hg h1 ?_ hdb)
  refine PySem.W.callWith_K (h₀ := X.base) I.ok.mod.kin h2 (thn (ha.pa.run pos pins s τ H _ I h) ?_) he hpl
  rintro us s1 ⟨vs, H1, I1, r, ρ, st, as, rs, ra, q⟩
  refine ⟨I1.kIn, ?_⟩
  have hs : spF X.K F (vs ++ dx) H1 Q (fun c d H' => W c d τ H') := ⟨ρ, st, as ++ dv, rs, ra.append (flats_rv h6), q⟩
  have rr := r.append h5
  have hl : (us ++ ds).length = ps.length := by
    rw [← rr.length]
    exact h3.len _ _ _ _ hs
  exact run_G (as := ⟨us, []⟩) h3 hr hk hgd tk I1 (h4 s1 us I1.kIn hl) rr hs
theorem se_call0 (c : Cal X.prog X.w K X.mg X.base k x dv F) (hK : X.K = K) (hr : Room j X.A) (hk : k ≤ j) (hgd : X.A.guards = some []) (tk : Takes X W) (hg : Gl X x)
    (hdb : (x == ("__debug__" : Str)) = false := by decide) : SE K W X (.Call (.Name x p) [] [] pos) (tCallG K F dv W tNil) (mCall F dv aNil) := by
  subst hK
  obtain ⟨f, fd, ps, ds, dx, h1, h2, h3, h4, h5, h6⟩ := c.ex
  refine ⟨⟨fun pins s τ H Q I h => ?_⟩, snd_call snd_nil⟩
  refine wpAny_Call_Name_kw (ld_glob I hg h1 ?_ hdb)
  obtain ⟨ρ, st, as, rs, ra, q⟩ := h
  have hs : spF X.K F ([] ++ dx) H Q (fun c d H' => W c d τ H') := ⟨ρ, st, as ++ dv, rs, ra.append (flats_rv h6), q⟩
  have hl : ([] ++ ds).length = ps.length := by
    rw [List.nil_append, ← h5.length]
    exact h3.len _ _ _ _ hs
  exact PySem.W.callWith_K0 I.kIn h2 (run_G (as := ⟨[], []⟩) h3 hr hk hgd tk I (h4 s [] I.kIn hl) h5 hs)
theorem se_callK (c : CalK X.prog X.w K X.mg X.base k x n ks g F) (hK : X.K = K) (hr : Room j X.A) (hk : k ≤ j) (hgd : X.A.guards = some []) (tk : Takes X W) (hg : Gl X x) (ha : SA K W X (e :: es) t ma) (hw : SK K W X kws tk' mk)
    (hall : (backToKw pos (keywordEach kws X.env)).all (·.1.isSome) = true := by rfl) (hks : (backToKw pos (keywordEach kws X.env)).filterMap (·.1) = ks := by rfl)
    (hdb : (x == ("__debug__" : Str)) = false := by decide) (he : starEach (e :: es) X.env = (false, eval e X.env) :: starEach es X.env := by rfl)
    (hpl : ((backTo pos (starEach (e :: es) X.env)).any (·.1) || (backToKw pos (keywordEach kws X.env)).any (·.1.isNone)) = false := by rfl) :
    SE K W X (.Call (.Name x p) (e :: es) kws pos) (tCallGK K F n ks.length g W t tk') (mCallK F n ks.length g ma mk) := by
  subst hK
  obtain ⟨f, fd, ps, gU, gV, h1, h2, h3, h4, h5⟩ := c.ex
  refine ⟨⟨fun pins s τ H Q I h => ?_⟩, snd_callK ha.sd hw.sd⟩
  refine wpAny_Call_Name_kw (ld_glob I hg h1 ?_ hdb)
  refine PySem.W.callWith_KW (h₀ := X.base) I.ok.mod.kin h2 hall (thn (ha.pa.run pos pins s τ H _ I h) ?_) hpl he
  intro us s1 ⟨vs, H1, I1, r, q⟩
  refine thn (hw.pk.run pos pins s1 τ H1 _ I1 q) ?_
  rintro ws s2 ⟨zs, H2, I2, rz, l1, l2, ρ, st, as, bs, rs, ra, rb, q2⟩
  refine ⟨I2.kIn, ?_⟩
  rw [hks]
  have hs : spF X.K F (gV vs zs) H2 Q (fun c d H' => W c d τ H') := ⟨ρ, st, g as bs, rs, h5 _ _ _ _ _ _ ra rb, q2⟩
  exact run_G (as := ⟨us, ks.zip ws⟩) h3 hr hk hgd tk I2 (h4.to s2 us ws I2.kIn (r.length.symm.trans l1) (rz.length.symm.trans l2)) (h4.rel r rz) hs
theorem se_callK0 (c : CalK X.prog X.w K X.mg X.base k x 0 ks g F) (hK : X.K = K) (hr : Room j X.A) (hk : k ≤ j) (hgd : X.A.guards = some []) (tk : Takes X W) (hg : Gl X x) (hw : SK K W X kws tk' mk)
    (hall : (backToKw pos (keywordEach kws X.env)).all (·.1.isSome) = true := by rfl) (hks : (backToKw pos (keywordEach kws X.env)).filterMap (·.1) = ks := by rfl)
    (hdb : (x == ("__debug__" : Str)) = false := by decide)
    (hpl : ((backTo pos (starEach [] X.env)).any (·.1) || (backToKw pos (keywordEach kws X.env)).any (·.1.isNone)) = false := by rfl) :
    SE K W X (.Call (.Name x p) [] kws pos) (tCallGK K F 0 ks.length g W tNil tk') (mCallK F 0 ks.length g aNil mk) := by
  subst hK
  obtain ⟨f, fd, ps, gU, gV, h1, h2, h3, h4, h5⟩ := c.ex
  refine ⟨⟨fun pins s τ H Q I h => ?_⟩, snd_callK snd_nil hw.sd⟩
  refine wpAny_Call_Name_kw (ld_glob I hg h1 ?_ hdb)
  refine PySem.W.callWith_KW0 (h₀ := X.base) I.ok.mod.kin h2 hall (thn (hw.pk.run pos pins s τ H _ I h) ?_) hpl
  rintro ws s2 ⟨zs, H2, I2, rz, l1, l2, ρ, st, as, bs, rs, ra, rb, q2⟩
  refine ⟨I2.kIn, ?_⟩
  rw [hks]
  have hs : spF X.K F (gV [] zs) H2 Q (fun c d H' => W c d τ H') := ⟨ρ, st, g as bs, rs, h5 _ _ _ _ _ _ ra rb, q2⟩
  exact run_G (as := ⟨[], ks.zip ws⟩) h3 hr hk hgd tk I2 (h4.to s2 [] ws I2.kIn rfl (rz.length.symm.trans l2)) (h4.rel .nil rz) hs
end
/-! ### keyword calls of a def without defaults -/
theorem kbn_plain {K : Frag} {x qual : Str} {params : Arguments} {body : List Stmt} {scope : Scope} {kws : List (Str × V)} {f : Addr} {fd : FuncData} {ps ks : List Str} {n : Nat} (F : FunD K x qual params body scope [] kws f fd) (g : {α : Type} → List α → List α → List α)
    (hrel : ∀ {vs zs : List V} {us ws : List Value}, Vals vs us → Vals zs ws → Vals (g vs zs) (g us ws))
    (h : ∀ (kV doc pm : Value) (an : Option Addr) (cdv ct : Value) (us ws : List Value), us.length = n → ws.length = ks.length → bindArgs (PySem.W.fnOf x qual params body scope .none kV doc pm an cdv ct) ⟨us, ks.zip ws⟩ = pure (ps.zip (g us ws))) :
    KBn K fd ps n ks (fun us ws => g us ws) (fun us ws => g us ws) := by
  obtain ⟨oc, od, dV, kV, doc, pm, an, cdv, ct, osl, rfl, lk, hcd, hD, hK⟩ := F.ex
  rcases hD with ⟨_, rfl⟩ | ⟨e, _⟩
  · exact ⟨fun s us ws _ h1 h2 => .of_eq (h kV doc pm an cdv ct us ws h1 h2), fun r1 r2 => hrel r1 r2⟩
  · exact absurd rfl e
end L3
end

section
set_option Elab.async false
set_option linter.all false
set_option maxRecDepth 100000
set_option maxHeartbeats 4000000
/-! L3c0: a tuple times one: the tuple itself. -/
namespace L3
open PySem PySem.Spec PyProof.Rows L2
theorem tuple_mul1W (l : Addr) (items : Array Value) (n : Nat) (dd : Option Addr) (sl : Array (Option Value)) (u : Tok) (c1 : (items.isEmpty || (1 : Int) == 1) = true) :
    Meets (Builtin.«tuple.__mul__» ⟨[.ref l, .int 1 u], []⟩) (fun _ R s => s.heap.get? l = some { cls := .type "tuple", dict := dd, data := .seq items n, slots := sl } ∧ R (.ok (.ret (Value.ref l))) { s with heap := s.heap, toks := s.toks }) :=
  .of_wp fun prog w A R s h => by
    obtain ⟨hp, g, d, tk, os⟩ := s
    obtain ⟨hl, h⟩ := h
    have f1 := AutoSeq1.idx_int
    wp_walk using wpAny_loadPart' hl
    repeat (first
      | (refine wpAny_ite_false (by decide) ?_; wp_walk using wpAny_loadPart' hl)
      | (refine wpAny_ite_true (decide_eq_true c1) ?_; wp_walk using wpAny_loadPart' hl)
      | (refine wpAny_ite_true c1 ?_; wp_walk using wpAny_loadPart' hl))
    exact ⟨_, rfl, h⟩
def rRepT1 (K : PySem.W.Frag) : R2 := fun x y H Q => ∃ l xs, x = .ref l ∧ y = .int 1 ∧ SqT K H l xs ∧ Q (.ref l) H
theorem op_repT1 {X : Cx} : OpR X (binaryOp .Mult) (rRepT1 X.K) := by
  intro pins s σ H x y v u Q I rx ry h
  obtain ⟨l, xs, rfl, rfl, hT, q⟩ := h
  cases rx
  obtain ⟨t, rfl⟩ := ry
  obtain ⟨its, r, ⟨⟨cls, dd, data, sl⟩, ho, hc, n, hd⟩, hs⟩ := I.tuple hT
  simp only at hc hd
  subst hc hd
  refine wpAny_binaryOp_repeat_ref (T := "tuple") (U := "int") (by decide) ⟨_, ho, rfl⟩ (fun s' => typeIs_int s' 1 t) noFill_tuple_mul F.fills_int_mul F.slot_int_rmul repeat_tuple F.slot_int_index.lookup
    (call_meets F.slot_int_rmul (typeIs_int s 1 t) F.entry_int_rmul (F.args_int_rmul_2 _ _) (int_rmul_tuple 1 t l its.toArray n dd sl)
      ⟨ho, rfl, ⟨_, ho, rfl⟩, call_meets F.slot_tuple_mul ⟨_, ho, rfl⟩ F.entry_tuple_mul (F.args_tuple_mul_2 _ _) (tuple_mul1W l its.toArray n dd sl t (by rw [Bool.or_eq_true_iff]; exact .inr (by decide))) ⟨ho, ?_⟩⟩)
  exact ⟨.ref l, H, I, rfl, q⟩
end L3
end

section
set_option Elab.async false
set_option linter.all false
set_option maxRecDepth 100000
set_option maxHeartbeats 4000000
/-! L3c: names, constants, operators, comparisons, tests. -/
namespace L3
open PySem PySem.Spec PyProof.Rows L2

section
variable {K : Frag} {W : WX} {X : Cx} {pos : Pos}
/-! ### names and constants -/
def mVar (i : Nat) : ME := fun σ st => match σ[i]? with
  | some (some v) => .ok v st
  | _ => .bad
def mVal (v : Val) : ME := fun _ st => .ok v st
theorem se_var (i : Nat) {x : Str} (hN : X.N[i]? = some x := by rfl) (hv : Vis X.env.scope x := by first | exact Or.inl rfl | exact Or.inr (Or.inl rfl) | exact Or.inr (Or.inr rfl)) (hd : (x == ("__debug__" : Str)) = false := by decide)
    (hcd : (x == ("__classdict__" : Str)) = false := by decide) : SE K W X (.Name x pos) (tVar i) (mVar i) := by
  refine ⟨pe_var hN hv hd hcd, fun ρ st H σ τ Q rs re h => ?_⟩
  unfold mVar at h
  split at h
  · rename_i v e
    obtain ⟨x, e1, e2⟩ := re.get e
    exact ⟨x, e1, h.ok .refl rs e2⟩
  · exact h.elim
/-- a value that needs no heap, or that the module holds -/
def Fixed (K : Frag) (v : Val) (x : V) : Prop := ∀ ρ H, RV K ρ H v x
theorem snd_val {v : Val} {x : V} (h : Fixed K v x) : SndE K W (tC x) (mVal v) := fun ρ st H σ τ Q rs re q => q.ok .refl rs (h _ _)
theorem se_int {i : Int} {j} : SE K W X (.Constant (.int i) j pos) (tC (.int i)) (mVal (.int i)) := ⟨pe_int, snd_val fun _ _ => rfl⟩
theorem se_bl {b : Bool} {j} : SE K W X (.Constant (.bool b) j pos) (tC (.bl b)) (mVal (.bl b)) := ⟨pe_bl, snd_val fun _ _ => rfl⟩
theorem se_non {j} : SE K W X (.Constant .none j pos) (tC .non) (mVal .non) := ⟨pe_non, snd_val fun _ _ => rfl⟩
theorem se_str {s : Str} {j} : SE K W X (.Constant (.str s) j pos) (tC (.str s)) (mVal (.str s)) := ⟨pe_str, snd_val fun _ _ => rfl⟩
theorem se_gint {x : Str} {i : Int} (hm : ∃ t, X.mg x = some (.int i t)) (hg : Gl X x) (hd : (x == ("__debug__" : Str)) = false := by decide) : SE K W X (.Name x pos) (tC (.int i)) (mVal (.int i)) := by
  obtain ⟨t, e⟩ := hm
  exact ⟨pe_glob hg e ⟨t, rfl⟩ hd, snd_val fun _ _ => rfl⟩
theorem se_gstr {x s : Str} (hm : ∃ t, X.mg x = some (.str s t)) (hg : Gl X x) (hd : (x == ("__debug__" : Str)) = false := by decide) : SE K W X (.Name x pos) (tC (.str s)) (mVal (.str s)) := by
  obtain ⟨t, e⟩ := hm
  exact ⟨pe_glob hg e ⟨t, rfl⟩ hd, snd_val fun _ _ => rfl⟩
/-- an object of the module -/
theorem se_gref {x : Str} {a : Addr} {v : Val} (hm : X.mg x = some (.ref a)) (hf : Fixed K v (.ref a)) (hg : Gl X x) (hd : (x == ("__debug__" : Str)) = false := by decide) : SE K W X (.Name x pos) (tC (.ref a)) (mVal v) :=
  ⟨pe_glob hg hm rfl hd, snd_val hf⟩
/-- a built-in type's name -/
theorem se_ty {x : Str} {n : String} (hm : X.mg x = none) (hv : bootBuiltins x = some (.type n)) (hg : Gl X x) (hn : x ≠ "__name__" := by decide) (hd : (x == ("__debug__" : Str)) = false := by decide) : SE K W X (.Name x pos) (tC (.ty n)) (mVal (.ty n)) :=
  ⟨pe_bltn hg hm hv rfl hn hd, snd_val fun _ _ => rfl⟩

/-! ### operators by values -/
def SndR2 (K : Frag) (r : R2) (f : Val → Val → Sto → Res Val) : Prop := ∀ (ρ : Rho) (st : Sto) (H : Hp) (v w : Val) (x y : V) (Q : VK) (E : XW), RS K ρ st H → RV K ρ (Fz ρ st H) v x → RV K ρ (Fz ρ st H) w y → After K ρ st H (RV K) (f v w st) Q E → r x y H Q
def SndR1 (K : Frag) (r : V → Hp → VK → Prop) (f : Val → Sto → Res Val) : Prop := ∀ (ρ : Rho) (st : Sto) (H : Hp) (v : Val) (x : V) (Q : VK) (E : XW), RS K ρ st H → RV K ρ (Fz ρ st H) v x → After K ρ st H (RV K) (f v st) Q E → r x H Q
def SndRs (K : Frag) (r : List V → Hp → VK → Prop) (f : List Val → Sto → Res Val) : Prop := ∀ (ρ : Rho) (st : Sto) (H : Hp) (vs : List Val) (xs : List V) (Q : VK) (E : XW), RS K ρ st H → RVs K ρ (Fz ρ st H) vs xs → After K ρ st H (RV K) (f vs st) Q E → r xs H Q
def mOp2 (f : Val → Val → Sto → Res Val) (ma mb : ME) : ME := fun σ st => (ma σ st).bind fun v st1 => (mb σ st1).bind fun w st2 => f v w st2
def mOp1 (f : Val → Sto → Res Val) (ma : ME) : ME := fun σ st => (ma σ st).bind fun v st1 => f v st1
def mOps (f : List Val → Sto → Res Val) (ma : MA) : ME := fun σ st => (ma σ st).bind fun v st1 => f v st1
variable {a b c : Expr} {ta tb tc : TE} {ma mb mc : ME} {es : List Expr} {t : TA} {m : MA}
theorem snd_op2 {r : R2} {f : Val → Val → Sto → Res Val} (hs : SndR2 K r f) (ha : SndE K W ta ma) (hb : SndE K W tb mb) : SndE K W (tOp r ta tb) (mOp2 f ma mb) := by
  intro ρ st H σ τ Q rs re h
  refine ha ρ st H σ τ _ rs re (After.bind h fun v st1 ρ1 H1 x _ e1 rs1 rx h1 => ?_)
  refine hb ρ1 st1 H1 σ τ _ rs1 (re.mono e1.pre e1.fz) (After.bind h1 fun w st2 ρ2 H2 y _ e2 rs2 ry h2 => ?_)
  exact hs ρ2 st2 H2 v w x y Q _ rs2 (rx.mono e2.pre e2.fz) ry h2
theorem snd_op1 {r : V → Hp → VK → Prop} {f : Val → Sto → Res Val} (hs : SndR1 K r f) (ha : SndE K W ta ma) : SndE K W (fun σ H Q => ta σ H fun x H1 => r x H1 Q) (mOp1 f ma) := by
  intro ρ st H σ τ Q rs re h
  refine ha ρ st H σ τ _ rs re (After.bind h fun v st1 ρ1 H1 x _ e1 rs1 rx h1 => ?_)
  exact hs ρ1 st1 H1 v x Q _ rs1 rx h1
theorem snd_ops {r : List V → Hp → VK → Prop} {f : List Val → Sto → Res Val} (hs : SndRs K r f) (ha : SndA K W t m) : SndE K W (fun σ H Q => t σ H fun x H1 => r x H1 Q) (mOps f m) := by
  intro ρ st H σ τ Q rs re h
  refine ha ρ st H σ τ _ rs re (After.bind h fun v st1 ρ1 H1 x _ e1 rs1 rx h1 => ?_)
  exact hs ρ1 st1 H1 v x Q _ rs1 rx h1
theorem se_bin {op : Operator} {r : R2} {f : Val → Val → Sto → Res Val} (ho : OpR X (binaryOp op) r) (hs : SndR2 K r f) (ha : SE K W X a ta ma) (hb : SE K W X b tb mb) : SE K W X (.BinOp a op b pos) (tOp r ta tb) (mOp2 f ma mb) :=
  ⟨pe_op ho ha.pe hb.pe, snd_op2 hs ha.sd hb.sd⟩
theorem se_cmp {op : CmpOp} {r : R2} {f : Val → Val → Sto → Res Val} (ho : OpR X (compareOp op) r) (hs : SndR2 K r f) (ha : SE K W X a ta ma) (hb : SE K W X b tb mb) (hm : behindInMarks op b = false := by first | exact nomark _ | with_unfolding_all rfl) :
    SE K W X (.Compare a [op] [b] pos) (tOp r ta tb) (mOp2 f ma mb) :=
  ⟨pe_cmpR ho ha.pe hb.pe hm, snd_op2 hs ha.sd hb.sd⟩
theorem SndR2.or {r r' : R2} {f : Val → Val → Sto → Res Val} (h : ∀ ρ st H v w x y Q E, RS K ρ st H → RV K ρ (Fz ρ st H) v x → RV K ρ (Fz ρ st H) w y → After K ρ st H (RV K) (f v w st) Q E → r x y H Q ∨ r' x y H Q) : SndR2 K (fun x y H Q => r x y H Q ∨ r' x y H Q) f := h

/-! the values' functions -/
def addV : Val → Val → Sto → Res Val
  | .int i, .int j, st => .ok (.int (i + j)) st
  | .int i, .bl k, st => .ok (.int (i + b2i k)) st
  | .str x, .str y, st => if x.length + y.length ≤ sizeLine then .ok (.str (x ++ y)) st else .bad
  | .tup x, .tup y, st => if x.length + y.length ≤ sizeLine then .ok (.tup (x ++ y)) st else .bad
  | .lst x, .lst y, st => if x.length + y.length ≤ sizeLine then .ok (.lst (x ++ y)) st else .bad
  | _, _, _ => .bad
def subV : Val → Val → Sto → Res Val
  | .int i, .int j, st => .ok (.int (i - j)) st
  | _, _, _ => .bad
def mulV : Val → Val → Sto → Res Val
  | .int i, .int j, st => if i.natAbs.log2 + j.natAbs.log2 < 1000000 then .ok (.int (i * j)) st else .bad
  | .lst x, .int k, st => if -(2 ^ 63) ≤ k ∧ k < 2 ^ 63 ∧ x.length * k.toNat ≤ sizeLine then .ok (.lst (List.replicate k.toNat x).flatten) st else .bad
  | .tup x, .int k, st => if k = 1 then .ok (.tup x) st else if x ≠ [] ∧ 2 ≤ k ∧ k ≤ 1000 ∧ x.length ≤ 1000 then .ok (.tup (List.replicate k.toNat x).flatten) st else .bad
  | _, _, _ => .bad
def fdivV : Val → Val → Sto → Res Val
  | .int i, .int j, st => if 0 < j ∧ j.natAbs.log2 < 9000 then .ok (.int (i / j)) st else .bad
  | _, _, _ => .bad
def modV : Val → Val → Sto → Res Val
  | .int i, .int j, st => if 0 < j then .ok (.int (i % j)) st else .bad
  | _, _, _ => .bad
def powV : Val → Val → Sto → Res Val
  | .int i, .int j, st => if 0 ≤ j ∧ j ≤ 1000000 ∧ i.natAbs < 2 ^ 64 then .ok (.int (i ^ j.toNat)) st else .bad
  | _, _, _ => .bad
theorem RVs.rep {ρ : Rho} {H : Hp} {l : List Val} {xs : List V} (h : RVs K ρ H l xs) : ∀ n : Nat, RVs K ρ H (List.replicate n l).flatten (List.replicate n xs).flatten
  | 0 => rfl
  | n + 1 => by
    rw [List.replicate_succ, List.replicate_succ, List.flatten_cons, List.flatten_cons]
    exact h.append (RVs.rep h n)
def rAddA (K : Frag) : R2 := fun x y H Q => (rI0 (fun i j => .int (i + j)) x y H Q ∨ (∃ i k, x = .int i ∧ y = .bl k ∧ Q (.int (i + b2i k)) H)) ∨ ((∃ i j, x = .str i ∧ y = .str j ∧ i.length + j.length ≤ sizeLine ∧ Q (.str (i ++ j)) H) ∨ (rCatA K x y H Q ∨ rCat x y H Q))
theorem op_addA : OpR X (binaryOp .Add) (rAddA X.K) := (op_add.or op_add_ib).or (op_add_str.or (op_catA.or op_cat))
theorem snd_addA : SndR2 K (rAddA K) addV := by
  intro ρ st H v w x y Q E rs rx ry h
  unfold addV at h
  split at h
  · exact .inl (.inl ⟨_, _, rx, ry, h.ok .refl rs rfl⟩)
  · exact .inl (.inr ⟨_, _, rx, ry, h.ok .refl rs rfl⟩)
  · split at h
    · rename_i hl
      exact .inr (.inl ⟨_, _, rx, ry, hl, h.ok .refl rs rfl⟩)
    · exact h.elim
  · split at h
    · rename_i l1 l2 hl
      obtain ⟨a, xs, rfl, sa, ra⟩ := rx
      obtain ⟨b, ys, rfl, sb, rb⟩ := ry
      refine .inr (.inr (.inl ⟨a, b, xs, ys, rfl, rfl, sqT_mono (fz_same _ _ _) sa, sqT_mono (fz_same _ _ _) sb, by rw [← ra.length, ← rb.length]; exact hl, fun e => ?_, fun _ e => ?_, fun _ _ p hp => ?_⟩))
      · have z : l1 = [] := ra.nil_iff.mpr e
        subst z
        exact h.ok .refl rs ⟨b, ys, rfl, sb, rb⟩
      · have z : l2 = [] := rb.nil_iff.mpr e
        subst z
        rw [List.append_nil] at h
        exact h.ok .refl rs ⟨a, xs, rfl, sa, ra⟩
      · obtain ⟨e1, r1, f1⟩ := new_fz (o := .tup (xs ++ ys)) rs hp
        exact h.ok e1 r1 ⟨p, _, rfl, .inl (.inl f1), (ra.append rb).mono e1.pre e1.fz⟩
    · exact h.elim
  · split at h
    · rename_i l1 l2 hl
      obtain ⟨a, xs, rfl, sa, ra⟩ := rx
      obtain ⟨b, ys, rfl, sb, rb⟩ := ry
      refine .inr (.inr (.inr ⟨a, b, xs, ys, rfl, rfl, fz_same _ _ _ _ _ sa, fz_same _ _ _ _ _ sb, by rw [← ra.length, ← rb.length]; exact hl, fun p hp => ?_⟩))
      obtain ⟨e1, r1, f1⟩ := new_fz (o := .lst (xs ++ ys)) rs hp
      exact h.ok e1 r1 ⟨p, _, rfl, f1, (ra.append rb).mono e1.pre e1.fz⟩
    · exact h.elim
  · exact h.elim
theorem se_add (ha : SE K W X a ta ma) (hb : SE K W X b tb mb) (hK : X.K = K := by rfl) : SE K W X (.BinOp a .Add b pos) (tOp (rAddA K) ta tb) (mOp2 addV ma mb) := by
  subst hK; exact se_bin op_addA snd_addA ha hb
theorem se_sub (ha : SE K W X a ta ma) (hb : SE K W X b tb mb) : SE K W X (.BinOp a .Sub b pos) (tOp (rI0 fun i j => .int (i - j)) ta tb) (mOp2 subV ma mb) := by
  refine se_bin op_sub (fun ρ st H v w x y Q E rs rx ry h => ?_) ha hb
  unfold subV at h
  split at h
  · exact ⟨_, _, rx, ry, h.ok .refl rs rfl⟩
  · exact h.elim
def rMulA (K : Frag) : R2 := fun x y H Q => rI CMulW (fun i j => .int (i * j)) x y H Q ∨ (rRep x y H Q ∨ (rRepT1 K x y H Q ∨ rRepT K x y H Q))
theorem se_mul (ha : SE K W X a ta ma) (hb : SE K W X b tb mb) (hK : X.K = K := by rfl) : SE K W X (.BinOp a .Mult b pos) (tOp (rMulA K) ta tb) (mOp2 mulV ma mb) := by
  subst hK
  refine se_bin (op_mulW.or (op_rep.or (op_repT1.or op_repT))) (fun ρ st H v w x y Q E rs rx ry h => ?_) ha hb
  unfold mulV at h
  split at h
  · split at h
    · rename_i hl
      exact .inl ⟨_, _, rx, ry, hl, h.ok .refl rs rfl⟩
    · exact h.elim
  · split at h
    · rename_i l k hl
      obtain ⟨a, xs, rfl, sa, ra⟩ := rx
      refine .inr (.inl ⟨a, k, xs, rfl, ry, fz_same _ _ _ _ _ sa, hl.1, hl.2.1, by rw [← ra.length]; exact hl.2.2, fun p hp => ?_⟩)
      obtain ⟨e1, r1, f1⟩ := new_fz (o := .lst (List.replicate k.toNat xs).flatten) rs hp
      exact h.ok e1 r1 ⟨p, _, rfl, f1, (ra.rep _).mono e1.pre e1.fz⟩
    · exact h.elim
  · split at h
    · rename_i l k hl
      subst hl
      obtain ⟨a, xs, rfl, sa, ra⟩ := rx
      exact .inr (.inr (.inl ⟨a, xs, rfl, ry, sqT_mono (fz_same _ _ _) sa, h.ok .refl rs ⟨a, xs, rfl, sa, ra⟩⟩))
    · split at h
      · rename_i l k _ hl
        obtain ⟨a, xs, rfl, sa, ra⟩ := rx
        refine .inr (.inr (.inr ⟨a, k, xs, rfl, ry, sqT_mono (fz_same _ _ _) sa, fun z => hl.1 (ra.nil_iff.mpr z), hl.2.1, hl.2.2.1, by rw [← ra.length]; exact hl.2.2.2, fun p hp => ?_⟩))
        obtain ⟨e1, r1, f1⟩ := new_fz (o := .tup (List.replicate k.toNat xs).flatten) rs hp
        exact h.ok e1 r1 ⟨p, _, rfl, .inl (.inl f1), (ra.rep _).mono e1.pre e1.fz⟩
      · exact h.elim
  · exact h.elim
theorem se_fdiv (ha : SE K W X a ta ma) (hb : SE K W X b tb mb) : SE K W X (.BinOp a .FloorDiv b pos) (tOp (rI CDivW fun i j => .int (i / j)) ta tb) (mOp2 fdivV ma mb) := by
  refine se_bin op_fdivW (fun ρ st H v w x y Q E rs rx ry h => ?_) ha hb
  unfold fdivV at h
  split at h
  · split at h
    · rename_i hl
      exact ⟨_, _, rx, ry, hl, h.ok .refl rs rfl⟩
    · exact h.elim
  · exact h.elim
theorem se_mod (ha : SE K W X a ta ma) (hb : SE K W X b tb mb) : SE K W X (.BinOp a .Mod b pos) (tOp (rI (fun _ j => 0 < j) fun i j => .int (i % j)) ta tb) (mOp2 modV ma mb) := by
  refine se_bin op_mod (fun ρ st H v w x y Q E rs rx ry h => ?_) ha hb
  unfold modV at h
  split at h
  · split at h
    · rename_i hl
      exact ⟨_, _, rx, ry, hl, h.ok .refl rs rfl⟩
    · exact h.elim
  · exact h.elim
theorem se_pow (ha : SE K W X a ta ma) (hb : SE K W X b tb mb) : SE K W X (.BinOp a .Pow b pos) (tOp (rI CPow fun i j => .int (i ^ j.toNat)) ta tb) (mOp2 powV ma mb) := by
  refine se_bin op_pow (fun ρ st H v w x y Q E rs rx ry h => ?_) ha hb
  unfold powV at h
  split at h
  · split at h
    · rename_i hl
      exact ⟨_, _, rx, ry, hl, h.ok .refl rs rfl⟩
    · exact h.elim
  · exact h.elim
def negV : Val → Sto → Res Val
  | .int i, st => .ok (.int (-i)) st
  | _, _ => .bad
theorem se_neg (ha : SE K W X a ta ma) : SE K W X (.UnaryOp .USub a pos) (tUn (rU fun i => .int (-i)) ta) (mOp1 negV ma) := by
  refine ⟨pe_un un_neg ha.pe, snd_op1 (r := rU fun i => .int (-i)) (fun ρ st H v x Q E rs rx h => ?_) ha.sd⟩
  unfold negV at h
  split at h
  · exact ⟨_, rx, h.ok .refl rs rfl⟩
  · exact h.elim

/-! ### comparisons -/
def cmpV (p : Int → Int → Bool) : Val → Val → Sto → Res Val
  | .int i, .int j, st => .ok (.bl (p i j)) st
  | _, _, _ => .bad
theorem snd_cmpV {p : Int → Int → Bool} : SndR2 K (rI0 fun i j => .bl (p i j)) (cmpV p) := fun ρ st H v w x y Q E rs rx ry h => by
  unfold cmpV at h
  split at h
  · exact ⟨_, _, rx, ry, h.ok .refl rs rfl⟩
  · exact h.elim
theorem se_lt (ha : SE K W X a ta ma) (hb : SE K W X b tb mb) : SE K W X (.Compare a [.Lt] [b] pos) (tOp (rI0 fun i j => .bl (decide (i < j))) ta tb) (mOp2 (cmpV fun i j => decide (i < j)) ma mb) := se_cmp op_lt snd_cmpV ha hb
theorem se_le (ha : SE K W X a ta ma) (hb : SE K W X b tb mb) : SE K W X (.Compare a [.LtE] [b] pos) (tOp (rI0 fun i j => .bl (decide (i ≤ j))) ta tb) (mOp2 (cmpV fun i j => decide (i ≤ j)) ma mb) := se_cmp op_le snd_cmpV ha hb
theorem se_gt (ha : SE K W X a ta ma) (hb : SE K W X b tb mb) : SE K W X (.Compare a [.Gt] [b] pos) (tOp (rI0 fun i j => .bl (decide (j < i))) ta tb) (mOp2 (cmpV fun i j => decide (j < i)) ma mb) := se_cmp op_gt snd_cmpV ha hb
theorem se_ge (ha : SE K W X a ta ma) (hb : SE K W X b tb mb) : SE K W X (.Compare a [.GtE] [b] pos) (tOp (rI0 fun i j => .bl (decide (j ≤ i))) ta tb) (mOp2 (cmpV fun i j => decide (j ≤ i)) ma mb) := se_cmp op_ge snd_cmpV ha hb
/-- a <= b <= c -/
def mChainLe (ma mb mc : ME) : ME := fun σ st => (ma σ st).bind fun v st1 => (mb σ st1).bind fun w st2 => (cmpV (fun i j => decide (i ≤ j)) v w st2).bind fun z st3 => match z with
  | .bl true => (mc σ st3).bind fun u st4 => cmpV (fun i j => decide (i ≤ j)) w u st4
  | .bl false => .ok (.bl false) st3
  | _ => .bad
theorem se_chainLe (ha : SE K W X a ta ma) (hb : SE K W X b tb mb) (hc : SE K W X c tc mc) (hm : lastMarks [.LtE, .LtE] [b, c] = false := by with_unfolding_all rfl) :
    SE K W X (.Compare a [.LtE, .LtE] [b, c] pos) (tChain (rI0 fun i j => .bl (decide (i ≤ j))) (rI0 fun i j => .bl (decide (i ≤ j))) ta tb tc) (mChainLe ma mb mc) := by
  refine ⟨pe_chain op_le op_le ha.pe hb.pe hc.pe hm, fun ρ st H σ τ Q rs re h => ?_⟩
  refine ha.sd ρ st H σ τ _ rs re (After.bind h fun v st1 ρ1 H1 x _ e1 rs1 rx h1 => ?_)
  refine hb.sd ρ1 st1 H1 σ τ _ rs1 (re.mono e1.pre e1.fz) (After.bind h1 fun w st2 ρ2 H2 y _ e2 rs2 ry h2 => ?_)
  refine snd_cmpV ρ2 st2 H2 v w x y _ (fun c d H' => W c d τ H') rs2 (rx.mono e2.pre e2.fz) ry (After.bind h2 fun z st3 ρ3 H3 zz _ e3 rs3 rz h3 => ?_)
  split at h3
  · refine ⟨true, rz, ?_⟩
    rw [if_pos rfl]
    refine hc.sd ρ3 st3 H3 σ τ _ rs3 (((re.mono e1.pre e1.fz).mono e2.pre e2.fz).mono e3.pre e3.fz) (After.bind h3 fun u st4 ρ4 H4 uu _ e4 rs4 ru h4 => ?_)
    exact snd_cmpV ρ4 st4 H4 w u y uu Q _ rs4 ((ry.mono e3.pre e3.fz).mono e4.pre e4.fz) ru h4
  · refine ⟨false, rz, ?_⟩
    rw [if_neg Bool.false_ne_true]
    exact h3.ok .refl rs3 rfl
  · exact h3.elim

/-! == by data -/
mutual
def toD : Val → Option PyData
  | .non => some .none
  | .bl b => some (.bool b)
  | .int i => some (.int i)
  | .str s => some (.str s)
  | .tup l => (toDs l).map .tuple
  | .lst l => (toDs l).map .list
  | .cst l => (toDs l).map .list
  | _ => none
def toDs : List Val → Option (List PyData)
  | [] => some []
  | v :: l => (toD v).bind fun d => (toDs l).map fun ds => d :: ds
end
def toDst (st : Sto) (v : Val) : Option PyData := match v with
  | .loc n => match st[n]? with
    | some (.lst l) => (toDs l).map .list
    | _ => none
  | v => toD v
mutual
theorem dp_of {ρ : Rho} {Hf H : Hp} (s : Same Hf H) : ∀ {v : Val} {x : V} {d : PyData}, RV K ρ Hf v x → toD v = some d → Dp K H x d
  | .non, _, _, h, e => by cases e; cases (show _ = _ from h); exact .non
  | .bl b, _, _, h, e => by cases e; cases (show _ = _ from h); exact .bl b
  | .int b, _, _, h, e => by cases e; cases (show _ = _ from h); exact .int b
  | .str b, _, _, h, e => by cases e; cases (show _ = _ from h); exact .str b
  | .tup l, _, _, ⟨a, xs, e1, e2, e3⟩, e => by
    unfold toD at e
    obtain ⟨ds, q1, rfl⟩ := Option.map_eq_some_iff.mp e
    cases e1
    exact .tup (sqT_mono s e2) (dps_of s e3 q1)
  | .lst l, _, _, ⟨a, xs, e1, e2, e3⟩, e => by
    unfold toD at e
    obtain ⟨ds, q1, rfl⟩ := Option.map_eq_some_iff.mp e
    cases e1
    exact .lst (.inl (.inl (s _ _ e2))) (dps_of s e3 q1)
  | .cst l, _, _, ⟨a, xs, e1, e2, e3⟩, e => by
    unfold toD at e
    obtain ⟨ds, q1, rfl⟩ := Option.map_eq_some_iff.mp e
    cases e1
    exact .lst (sqL_mono s e2) (dps_of s e3 q1)
  | .ty _, _, _, _, e => by cases e
  | .ref _, _, _, _, e => by cases e
  | .loc _, _, _, _, e => by cases e
theorem dps_of {ρ : Rho} {Hf H : Hp} (s : Same Hf H) : ∀ {l : List Val} {xs : List V} {ds : List PyData}, RVs K ρ Hf l xs → toDs l = some ds → DpAll K H xs ds
  | [], _, _, h, e => by cases e; cases (show _ = _ from h); exact .nil
  | v :: l, _, _, ⟨y, r, e1, e2, e3⟩, e => by
    unfold toDs at e
    obtain ⟨d, q1, q2⟩ := Option.bind_eq_some_iff.mp e
    obtain ⟨ds, q3, rfl⟩ := Option.map_eq_some_iff.mp q2
    cases e1
    exact .cons (dp_of s e2 q1) (dps_of s e3 q3)
end
theorem dpst_of {ρ : Rho} {st : Sto} {H : Hp} (rs : RS K ρ st H) {v : Val} {x : V} {d : PyData} (h : RV K ρ (Fz ρ st H) v x) (e : toDst st v = some d) : Dp K H x d := by
  cases v with
  | loc n =>
    obtain ⟨a, rfl, ha⟩ := h
    unfold toDst at e
    simp only at e
    split at e
    · rename_i l hl
      obtain ⟨ds, q1, rfl⟩ := Option.map_eq_some_iff.mp e
      obtain ⟨xs, hx, rx⟩ := rs.ob n _ a hl ha
      exact .lst (.inl (.inl hx)) (dps_of (fz_same _ _ _) rx q1)
    · cases e
  | _ => exact dp_of (fz_same _ _ _) h e
/-- == of two values: of scalars, else of data -/
def eqS : Val → Val → Option Bool
  | .int i, .int j => some (decide (i = j))
  | .str i, .str j => some (decide (i = j))
  | .bl i, .bl j => some (decide (i = j))
  | .non, .non => some true
  | .int _, .str _ => some false
  | .str _, .int _ => some false
  | .int _, .non => some false
  | .non, .int _ => some false
  | .str _, .non => some false
  | .non, .str _ => some false
  | .bl _, .non => some false
  | .non, .bl _ => some false
  | .bl _, .str _ => some false
  | .str _, .bl _ => some false
  | _, _ => none
def eqW (st : Sto) (v w : Val) : Option Bool := match eqS v w with
  | some b => some b
  | none => match toDst st v, toDst st w with
    | some d, some e => if (SeqAt.shaped d && SeqAt.shaped e) = true then some (PyData.eqv d e) else none
    | _, _ => none
def eqM (v w : Val) (st : Sto) : Res Val := match eqW st v w with
  | some b => .ok (.bl b) st
  | none => .bad
def neM (v w : Val) (st : Sto) : Res Val := match eqW st v w with
  | some b => .ok (.bl (!b)) st
  | none => .bad
theorem eqS_of {ρ : Rho} {Hf : Hp} {v w : Val} {x y : V} {b : Bool} (hx : RV K ρ Hf v x) (hy : RV K ρ Hf w y) (e : eqS v w = some b) : scal x y = true ∧ decide (x = y) = b := by
  unfold eqS at e
  split at e <;> first | (cases e; cases (show _ = _ from hx); cases (show _ = _ from hy); refine ⟨rfl, ?_⟩; simp) | cases e
theorem eqW_of {ρ : Rho} {st : Sto} {H : Hp} {v w : Val} {x y : V} {b : Bool} (rs : RS K ρ st H) (hx : RV K ρ (Fz ρ st H) v x) (hy : RV K ρ (Fz ρ st H) w y) (e : eqW st v w = some b) :
    (scal x y = true ∧ decide (x = y) = b) ∨ ∃ d f, Dp K H x d ∧ Dp K H y f ∧ SeqAt.shaped d = true ∧ SeqAt.shaped f = true ∧ PyData.eqv d f = b := by
  unfold eqW at e
  split at e
  · rename_i c q
    cases e
    exact .inl (eqS_of hx hy q)
  · split at e
    · rename_i d f h1 h2
      split at e
      · rename_i hs
        cases e
        have hs2 := Bool.and_eq_true_iff.mp hs
        exact .inr ⟨d, f, dpst_of rs hx h1, dpst_of rs hy h2, hs2.1, hs2.2, rfl⟩
      · cases e
    · cases e
theorem se_eq (ha : SE K W X a ta ma) (hb : SE K W X b tb mb) {k : Nat} (hr : Room k X.A) (hK : X.K = K := by rfl) : SE K W X (.Compare a [.Eq] [b] pos) (tOp (fun x y H Q => rEq x y H Q ∨ rEqD K x y H Q) ta tb) (mOp2 eqM ma mb) := by
  subst hK
  refine se_cmp (op_eq.or (op_eqD hr.units)) (fun ρ st H v w x y Q E rs rx ry h => ?_) ha hb
  unfold eqM at h
  split at h
  · rename_i b q
    rcases eqW_of rs rx ry q with ⟨h1, h2⟩ | ⟨d, f, h1, h2, h3, h4, h5⟩
    · exact .inl ⟨h1, by rw [h2]; exact h.ok .refl rs rfl⟩
    · exact .inr ⟨d, f, h1, h2, h3, h4, by rw [h5]; exact h.ok .refl rs rfl⟩
  · exact h.elim
theorem se_ne (ha : SE K W X a ta ma) (hb : SE K W X b tb mb) {k : Nat} (hr : Room k X.A) (hK : X.K = K := by rfl) : SE K W X (.Compare a [.NotEq] [b] pos) (tOp (fun x y H Q => rNe x y H Q ∨ rNeD K x y H Q) ta tb) (mOp2 neM ma mb) := by
  subst hK
  refine se_cmp (op_ne.or (op_neD hr.units)) (fun ρ st H v w x y Q E rs rx ry h => ?_) ha hb
  unfold neM at h
  split at h
  · rename_i b q
    rcases eqW_of rs rx ry q with ⟨h1, h2⟩ | ⟨d, f, h1, h2, h3, h4, h5⟩
    · exact .inl ⟨h1, by rw [h2]; exact h.ok .refl rs rfl⟩
    · exact .inr ⟨d, f, h1, h2, h3, h4, by rw [h5]; exact h.ok .refl rs rfl⟩
  · exact h.elim

/-! in -/
/-- a value's flat shadow -/
def flV : Val → Option V
  | .non => some .non
  | .bl b => some (.bl b)
  | .int i => some (.int i)
  | .str s => some (.str s)
  | _ => none
def flVs : List Val → Option (List V)
  | [] => some []
  | v :: l => (flV v).bind fun x => (flVs l).map fun r => x :: r
theorem flV_of {ρ : Rho} {Hf : Hp} {v : Val} {x y : V} (h : RV K ρ Hf v x) (e : flV v = some y) : x = y ∧ flatV x = true := by
  cases v <;> first | (cases e; cases (show _ = _ from h); exact ⟨rfl, rfl⟩) | cases e
theorem flVs_of {ρ : Rho} {Hf : Hp} : ∀ {l : List Val} {xs ys : List V}, RVs K ρ Hf l xs → flVs l = some ys → xs = ys ∧ xs.all flatV = true
  | [], _, _, h, e => by cases e; cases (show _ = _ from h); exact ⟨rfl, rfl⟩
  | v :: l, _, _, ⟨y, r, e1, e2, e3⟩, e => by
    unfold flVs at e
    obtain ⟨d, q1, q2⟩ := Option.bind_eq_some_iff.mp e
    obtain ⟨ds, q3, rfl⟩ := Option.map_eq_some_iff.mp q2
    cases e1
    obtain ⟨rfl, h1⟩ := flV_of e2 q1
    obtain ⟨rfl, h2⟩ := flVs_of e3 q3
    exact ⟨rfl, by rw [List.all_cons, h1, h2]; rfl⟩
/-- the items of a list or a tuple -/
def itemsOf (st : Sto) : Val → Option (List Val)
  | .tup l => some l
  | .lst l => some l
  | .cst l => some l
  | .loc n => match st[n]? with
    | some (.lst l) => some l
    | _ => none
  | _ => none
theorem items_of {ρ : Rho} {st : Sto} {H : Hp} {v : Val} {x : V} {l : List Val} (rs : RS K ρ st H) (h : RV K ρ (Fz ρ st H) v x) (e : itemsOf st v = some l) : ∃ a xs, x = .ref a ∧ (SqL K H a xs ∨ SqT K H a xs) ∧ RVs K ρ (Fz ρ st H) l xs := by
  cases v with
  | tup l' => obtain ⟨a, xs, e1, e2, e3⟩ := h; cases e; exact ⟨a, xs, e1, .inr (sqT_mono (fz_same _ _ _) e2), e3⟩
  | lst l' => obtain ⟨a, xs, e1, e2, e3⟩ := h; cases e; exact ⟨a, xs, e1, .inl (.inl (.inl (fz_same _ _ _ _ _ e2))), e3⟩
  | cst l' => obtain ⟨a, xs, e1, e2, e3⟩ := h; cases e; exact ⟨a, xs, e1, .inl (sqL_mono (fz_same _ _ _) e2), e3⟩
  | loc n =>
    obtain ⟨a, rfl, ha⟩ := h
    have e' : (match st[n]? with | some (Ob.lst l) => some l | _ => none) = some l := e
    split at e' <;> cases e'
    rename_i hl
    obtain ⟨xs, hx, rx⟩ := rs.ob n _ a hl ha
    exact ⟨a, xs, rfl, .inl (.inl (.inl hx)), rx⟩
  | _ => cases e
/-- v in w -/
def inW (st : Sto) (v w : Val) : Option Bool := match v, w with
  | .str ⟨cs⟩, .str z => match cs.toList with
    | [c] => some (decide (c ∈ z.cps.toList))
    | _ => none
  | v, w => match itemsOf st w with
    | none => none
    | some l => match flV v, flVs l with
      | some x, some xs => some (inV x xs)
      | _, _ => match toDst st v, toDst st w with
        | some d, some (.list ds) => if (SeqAt.shaped d && SeqAt.shaped (.list ds)) = true then some (ds.any fun z => PyData.eqv z d) else none
        | _, _ => none
def inM (v w : Val) (st : Sto) : Res Val := match inW st v w with
  | some b => .ok (.bl b) st
  | none => .bad
def notInM (v w : Val) (st : Sto) : Res Val := match inW st v w with
  | some b => .ok (.bl (!b)) st
  | none => .bad
theorem inW_of {ρ : Rho} {st : Sto} {H : Hp} {v w : Val} {x y : V} {b : Bool} (rs : RS K ρ st H) (hx : RV K ρ (Fz ρ st H) v x) (hy : RV K ρ (Fz ρ st H) w y) (e : inW st v w = some b) :
    (∃ (c : Nat) (z : Str), x = .str ⟨#[c]⟩ ∧ y = .str z ∧ decide (c ∈ z.cps.toList) = b) ∨ (∃ p xs, y = .ref p ∧ (SqL K H p xs ∨ SqT K H p xs) ∧ flatV x = true ∧ xs.all flatV = true ∧ inV x xs = b) ∨
      ∃ d ds, Dp K H x d ∧ Dp K H y (.list ds) ∧ SeqAt.shaped d = true ∧ SeqAt.shaped (.list ds) = true ∧ (ds.any fun z => PyData.eqv z d) = b := by
  unfold inW at e
  split at e
  · rename_i cs z
    split at e
    · rename_i c hc
      cases e
      cases (show _ = _ from hx)
      cases (show _ = _ from hy)
      refine .inl ⟨c, z, ?_, rfl, rfl⟩
      rw [← Array.toArray_toList (xs := cs), hc]
    · cases e
  · split at e
    · cases e
    · rename_i l hl
      obtain ⟨a, xs, rfl, sa, ra⟩ := items_of rs hy hl
      split at e
      · rename_i u us h1 h2
        cases e
        obtain ⟨rfl, f1⟩ := flV_of hx h1
        obtain ⟨rfl, f2⟩ := flVs_of ra h2
        exact .inr (.inl ⟨a, _, rfl, sa, f1, f2, rfl⟩)
      · split at e
        · rename_i d ds h1 h2
          split at e
          · rename_i hs
            cases e
            have hs2 := Bool.and_eq_true_iff.mp hs
            exact .inr (.inr ⟨d, ds, dpst_of rs hx h1, dpst_of rs hy h2, hs2.1, hs2.2, rfl⟩)
          · cases e
        · cases e
def rInA (K : Frag) : R2 := fun x y H Q => (∃ (c : Nat) (z : Str), x = .str ⟨#[c]⟩ ∧ y = .str z ∧ Q (.bl (decide (c ∈ z.cps.toList))) H) ∨ (rIn K false x y H Q ∨ rInD K x y H Q)
def rNotInA (K : Frag) : R2 := fun x y H Q => (∃ (c : Nat) (z : Str), x = .str ⟨#[c]⟩ ∧ y = .str z ∧ Q (.bl (!decide (c ∈ z.cps.toList))) H) ∨ (rIn K true x y H Q ∨ rNotInD K x y H Q)
theorem se_in (ha : SE K W X a ta ma) (hb : SE K W X b tb mb) {k : Nat} (hr : Room k X.A) (hK : X.K = K := by rfl) (hm : behindInMarks .In b = false := by with_unfolding_all rfl) : SE K W X (.Compare a [.In] [b] pos) (tOp (rInA K) ta tb) (mOp2 inM ma mb) := by
  subst hK
  refine se_cmp (op_in_sign.or (op_in_seq.or (op_inD (by have := hr.un; omega)))) (fun ρ st H v w x y Q E rs rx ry h => ?_) ha hb hm
  unfold inM at h
  split at h
  · rename_i b q
    rcases inW_of rs rx ry q with ⟨c, z, h1, h2, h3⟩ | ⟨p, xs, h1, h2, h3, h4, h5⟩ | ⟨d, f, h1, h2, h3, h4, h5⟩
    · exact .inl ⟨c, z, h1, h2, by rw [h3]; exact h.ok .refl rs rfl⟩
    · exact .inr (.inl ⟨p, xs, h1, h2, h3, h4, by rw [h5]; exact h.ok .refl rs rfl⟩)
    · exact .inr (.inr ⟨d, f, h1, h2, h3, h4, by rw [h5]; exact h.ok .refl rs rfl⟩)
  · exact h.elim
theorem se_notIn (ha : SE K W X a ta ma) (hb : SE K W X b tb mb) {k : Nat} (hr : Room k X.A) (hK : X.K = K := by rfl) (hm : behindInMarks .NotIn b = false := by with_unfolding_all rfl) : SE K W X (.Compare a [.NotIn] [b] pos) (tOp (rNotInA K) ta tb) (mOp2 notInM ma mb) := by
  subst hK
  refine se_cmp (op_notIn_sign.or (op_notIn_seq.or (op_notInD (by have := hr.un; omega)))) (fun ρ st H v w x y Q E rs rx ry h => ?_) ha hb hm
  unfold notInM at h
  split at h
  · rename_i b q
    rcases inW_of rs rx ry q with ⟨c, z, h1, h2, h3⟩ | ⟨p, xs, h1, h2, h3, h4, h5⟩ | ⟨d, f, h1, h2, h3, h4, h5⟩
    · exact .inl ⟨c, z, h1, h2, by rw [h3]; exact h.ok .refl rs rfl⟩
    · exact .inr (.inl ⟨p, xs, h1, h2, h3, h4, by rw [← h5] at h; exact h.ok .refl rs rfl⟩)
    · exact .inr (.inr ⟨d, f, h1, h2, h3, h4, by rw [h5]; exact h.ok .refl rs rfl⟩)
  · exact h.elim
/-! is -/
def isNoneV : Val → Bool
  | .non => true
  | _ => false
theorem isNone_of {ρ : Rho} {Hf : Hp} {v : Val} {x : V} (h : RV K ρ Hf v x) : decide (x = .non) = isNoneV v := by
  cases v with
  | tup l => obtain ⟨a, xs, rfl, _⟩ := h; rfl
  | lst l => obtain ⟨a, xs, rfl, _⟩ := h; rfl
  | cst l => obtain ⟨a, xs, rfl, _⟩ := h; rfl
  | loc l => obtain ⟨a, rfl, _⟩ := h; rfl
  | _ => cases (show _ = _ from h); rfl
def isM (v w : Val) (st : Sto) : Res Val := match v, w with
  | v, .non => .ok (.bl (isNoneV v)) st
  | .bl a, .bl b => .ok (.bl (decide (a = b))) st
  | _, _ => .bad
def isNotM (v w : Val) (st : Sto) : Res Val := match v, w with
  | v, .non => .ok (.bl (!isNoneV v)) st
  | .bl a, .bl b => .ok (.bl (!decide (a = b))) st
  | _, _ => .bad
theorem se_is (ha : SE K W X a ta ma) (hb : SE K W X b tb mb) : SE K W X (.Compare a [.Is] [b] pos) (tOp (fun x y H Q => (y = .non ∧ Q (.bl (decide (x = .non))) H) ∨ (∃ a b, x = .bl a ∧ y = .bl b ∧ Q (.bl (decide (a = b))) H)) ta tb) (mOp2 isM ma mb) := by
  refine se_cmp (op_isN.or op_is_bl) (fun ρ st H v w x y Q E rs rx ry h => ?_) ha hb
  unfold isM at h
  split at h
  · exact .inl ⟨ry, by rw [isNone_of rx]; exact h.ok .refl rs rfl⟩
  · exact .inr ⟨_, _, rx, ry, h.ok .refl rs rfl⟩
  · exact h.elim
theorem se_isNot (ha : SE K W X a ta ma) (hb : SE K W X b tb mb) : SE K W X (.Compare a [.IsNot] [b] pos) (tOp (fun x y H Q => (y = .non ∧ Q (.bl (!decide (x = .non))) H) ∨ (∃ a b, x = .bl a ∧ y = .bl b ∧ Q (.bl (!decide (a = b))) H)) ta tb) (mOp2 isNotM ma mb) := by
  refine se_cmp (op_notN.or op_isnot_bl) (fun ρ st H v w x y Q E rs rx ry h => ?_) ha hb
  unfold isNotM at h
  split at h
  · exact .inl ⟨ry, by rw [isNone_of rx]; exact h.ok .refl rs rfl⟩
  · exact .inr ⟨_, _, rx, ry, h.ok .refl rs rfl⟩
  · exact h.elim

/-! ### truth: tests -/
variable {tA tB' : TT} {mA mB : MT} {rest : List Expr}
def asB (r : Res Val) : Res Bool := r.bind fun v st => match v with
  | .bl b => .ok b st
  | _ => .bad
def mTest (m : ME) : MT := fun σ st => asB (m σ st)
theorem snd_tB (h : SndE K W ta ma) : SndT K W (L2.tB ta) (mTest ma) := by
  intro ρ st H σ τ Q rs re q
  refine h ρ st H σ τ _ rs re (After.bind q fun v st1 ρ1 H1 x _ e1 rs1 rx h1 => ?_)
  split at h1
  · exact ⟨_, rx, h1.ok .refl rs1 rfl⟩
  · exact h1.elim
theorem st_val (h : SE K W X a ta ma) (he : ∀ whole, isTrue a X.env whole = (do let v ← whole; standAt a.pos; holding [v] (truthy v)) := by intro _; rfl) : ST K W X a (L2.tB ta) (mTest ma) := ⟨pt_val h.pe he, snd_tB h.sd⟩
theorem st_cmp {op : CmpOp} {r : R2} {f : Val → Val → Sto → Res Val} (ho : OpR X (compareOp op) r) (hs : SndR2 K r f) (ha : SE K W X a ta ma) (hb : SE K W X b tb mb) (hm : behindInMarks op b = false := by first | exact nomark _ | with_unfolding_all rfl) :
    ST K W X (.Compare a [op] [b] pos) (L2.tB (tOp r ta tb)) (mTest (mOp2 f ma mb)) := ⟨pt_cmpR ho ha.pe hb.pe hm, snd_tB (snd_op2 hs ha.sd hb.sd)⟩
def mNotT (m : MT) : MT := fun σ st => (m σ st).bind fun b st1 => .ok (!b) st1
def mAndT (m n : MT) : MT := fun σ st => (m σ st).bind fun b st1 => if b = true then n σ st1 else .ok false st1
def mOrT (m n : MT) : MT := fun σ st => (m σ st).bind fun b st1 => if b = true then .ok true st1 else n σ st1
theorem st_not (h : ST K W X a tA mA) : ST K W X (.UnaryOp .Not a pos) (tNot tA) (mNotT mA) := by
  refine ⟨pt_not h.pt, fun ρ st H σ τ Q rs re q => ?_⟩
  refine h.sd ρ st H σ τ _ rs re (After.bind q fun v st1 ρ1 H1 x _ e1 rs1 rx h1 => ?_)
  subst rx
  exact h1.ok .refl rs1 rfl
theorem sw_and1 (h : ST K W X a tA mA) : SW K W X (.BoolOp .And [a] pos) tA mA := ⟨pw_and1 h.pt, h.sd⟩
theorem sw_or1 (h : ST K W X a tA mA) : SW K W X (.BoolOp .Or [a] pos) tA mA := ⟨pw_or1 h.pt, h.sd⟩
theorem snd_and (ha : SndT K W tA mA) (hb : SndT K W tB' mB) : SndT K W (tAnd tA tB') (mAndT mA mB) := by
  intro ρ st H σ τ Q rs re q
  refine ha ρ st H σ τ _ rs re (After.bind q fun v st1 ρ1 H1 x _ e1 rs1 rx h1 => ?_)
  subst rx
  cases v with
  | true => exact hb ρ1 st1 H1 σ τ Q rs1 (re.mono e1.pre e1.fz) h1
  | false => exact h1.ok .refl rs1 rfl
theorem snd_or (ha : SndT K W tA mA) (hb : SndT K W tB' mB) : SndT K W (tOr tA tB') (mOrT mA mB) := by
  intro ρ st H σ τ Q rs re q
  refine ha ρ st H σ τ _ rs re (After.bind q fun v st1 ρ1 H1 x _ e1 rs1 rx h1 => ?_)
  subst rx
  cases v with
  | true => exact h1.ok .refl rs1 rfl
  | false => exact hb ρ1 st1 H1 σ τ Q rs1 (re.mono e1.pre e1.fz) h1
theorem sw_and (ha : ST K W X a tA mA) (hb : SW K W X (.BoolOp .And (b :: rest) pos) tB' mB) : SW K W X (.BoolOp .And (a :: b :: rest) pos) (tAnd tA tB') (mAndT mA mB) := ⟨pw_and ha.pt hb.pw, snd_and ha.sd hb.sd⟩
theorem sw_or (ha : ST K W X a tA mA) (hb : SW K W X (.BoolOp .Or (b :: rest) pos) tB' mB) : SW K W X (.BoolOp .Or (a :: b :: rest) pos) (tOr tA tB') (mOrT mA mB) := ⟨pw_or ha.pt hb.pw, snd_or ha.sd hb.sd⟩
theorem SW.st (h : SW K W X a tA mA) : ST K W X a tA mA := ⟨h.pw.pt, h.sd⟩
/-! .. as values (bools) -/
def mAndV (m n : ME) : ME := fun σ st => (m σ st).bind fun v st1 => match v with
  | .bl true => n σ st1
  | .bl false => .ok (.bl false) st1
  | _ => .bad
def mOrV (m n : ME) : ME := fun σ st => (m σ st).bind fun v st1 => match v with
  | .bl false => n σ st1
  | .bl true => .ok (.bl true) st1
  | _ => .bad
def mNotV (m : ME) : ME := fun σ st => (m σ st).bind fun v st1 => match v with
  | .bl b => .ok (.bl (!b)) st1
  | _ => .bad
theorem se_one {op} (h : SE K W X a ta ma) : SE K W X (.BoolOp op [a] pos) ta ma := ⟨pe_one h.pe, h.sd⟩
theorem se_and (ha : SE K W X a ta ma) (hb : SE K W X (.BoolOp .And (b :: rest) pos) tb mb) : SE K W X (.BoolOp .And (a :: b :: rest) pos) (tAndV ta tb) (mAndV ma mb) := by
  refine ⟨pe_and ha.pe hb.pe, fun ρ st H σ τ Q rs re q => ?_⟩
  refine ha.sd ρ st H σ τ _ rs re (After.bind q fun v st1 ρ1 H1 x _ e1 rs1 rx h1 => ?_)
  split at h1
  · exact ⟨true, rx, by rw [if_pos rfl]; exact hb.sd ρ1 st1 H1 σ τ Q rs1 (re.mono e1.pre e1.fz) h1⟩
  · exact ⟨false, rx, by rw [if_neg Bool.false_ne_true]; exact h1.ok .refl rs1 rfl⟩
  · exact h1.elim
theorem se_or (ha : SE K W X a ta ma) (hb : SE K W X (.BoolOp .Or (b :: rest) pos) tb mb) : SE K W X (.BoolOp .Or (a :: b :: rest) pos) (tOrV ta tb) (mOrV ma mb) := by
  refine ⟨pe_or ha.pe hb.pe, fun ρ st H σ τ Q rs re q => ?_⟩
  refine ha.sd ρ st H σ τ _ rs re (After.bind q fun v st1 ρ1 H1 x _ e1 rs1 rx h1 => ?_)
  split at h1
  · exact ⟨false, rx, by rw [if_neg Bool.false_ne_true]; exact hb.sd ρ1 st1 H1 σ τ Q rs1 (re.mono e1.pre e1.fz) h1⟩
  · exact ⟨true, rx, by rw [if_pos rfl]; exact h1.ok .refl rs1 rfl⟩
  · exact h1.elim
theorem se_not (ha : SE K W X a ta ma) : SE K W X (.UnaryOp .Not a pos) (tNotV ta) (mNotV ma) := by
  refine ⟨pe_not ha.pe, fun ρ st H σ τ Q rs re q => ?_⟩
  refine ha.sd ρ st H σ τ _ rs re (After.bind q fun v st1 ρ1 H1 x _ e1 rs1 rx h1 => ?_)
  split at h1
  · exact ⟨_, rx, h1.ok .refl rs1 rfl⟩
  · exact h1.elim
def mIf (c : MT) (m n : ME) : ME := fun σ st => (c σ st).bind fun b st1 => if b = true then m σ st1 else n σ st1
theorem se_if (hc : ST K W X c tA mA) (ha : SE K W X a ta ma) (hb : SE K W X b tb mb) : SE K W X (.IfExp c a b pos) (tIf tA ta tb) (mIf mA ma mb) := by
  refine ⟨pe_ifExp hc.pt ha.pe hb.pe, fun ρ st H σ τ Q rs re q => ?_⟩
  refine hc.sd ρ st H σ τ _ rs re (After.bind q fun v st1 ρ1 H1 x _ e1 rs1 rx h1 => ?_)
  subst rx
  cases v with
  | true => exact ha.sd ρ1 st1 H1 σ τ Q rs1 (re.mono e1.pre e1.fz) h1
  | false => exact hb.sd ρ1 st1 H1 σ τ Q rs1 (re.mono e1.pre e1.fz) h1
end
end L3
end

section
set_option Elab.async false
set_option linter.all false
set_option maxRecDepth 100000
set_option maxHeartbeats 4000000
/-! L3d: displays, items, cuts, built-in functions, methods of lists and texts. -/
namespace L3
open PySem PySem.Spec PyProof.Rows L2

section
variable {K : Frag} {W : WX} {X : Cx} {pos : Pos}
variable {a b c : Expr} {ta tb tc : TE} {ma mb mc : ME} {es : List Expr} {t : TA} {m : MA}
/-! ### displays -/
def mTup (m : MA) : ME := fun σ st => (m σ st).bind fun vs st1 => if vs.length ≤ sizeLine then .ok (.tup vs) st1 else .bad
def mLst (m : MA) : ME := fun σ st => (m σ st).bind fun vs st1 => if vs.length ≤ sizeLine then .ok (.lst vs) st1 else .bad
/-- a list that may change -/
def mLoc (m : MA) : ME := fun σ st => (m σ st).bind fun vs st1 => if vs.length ≤ sizeLine then .ok (.loc st1.length) (st1 ++ [.lst vs]) else .bad
theorem se_tup {k} (h : SA K W X es t m) : SE K W X (.Tuple es k pos) (tTup t) (mTup m) := by
  refine ⟨pe_tup h.pa, fun ρ st H σ τ Q rs re q => ?_⟩
  refine h.sd ρ st H σ τ _ rs re (After.bind q fun vs st1 ρ1 H1 xs _ e1 rs1 rx h1 => ?_)
  split at h1
  · rename_i hl
    refine ⟨by rw [← rx.length]; exact hl, fun p hp => ?_⟩
    obtain ⟨e2, r2, f2⟩ := new_fz (o := .tup xs) rs1 hp
    exact h1.ok e2 r2 ⟨p, xs, rfl, .inl (.inl f2), rx.mono e2.pre e2.fz⟩
  · exact h1.elim
theorem se_lst (h : SA K W X es t m) : SE K W X (.List es pos) (tLst t) (mLst m) := by
  refine ⟨pe_lst h.pa, fun ρ st H σ τ Q rs re q => ?_⟩
  refine h.sd ρ st H σ τ _ rs re (After.bind q fun vs st1 ρ1 H1 xs _ e1 rs1 rx h1 => ?_)
  split at h1
  · rename_i hl
    refine ⟨by rw [← rx.length]; exact hl, fun p hp => ?_⟩
    obtain ⟨e2, r2, f2⟩ := new_fz (o := .lst xs) rs1 hp
    exact h1.ok e2 r2 ⟨p, xs, rfl, f2, rx.mono e2.pre e2.fz⟩
  · exact h1.elim
theorem se_loc (h : SA K W X es t m) : SE K W X (.List es pos) (tLst t) (mLoc m) := by
  refine ⟨pe_lst h.pa, fun ρ st H σ τ Q rs re q => ?_⟩
  refine h.sd ρ st H σ τ _ rs re (After.bind q fun vs st1 ρ1 H1 xs _ e1 rs1 rx h1 => ?_)
  split at h1
  · rename_i hl
    refine ⟨by rw [← rx.length]; exact hl, fun p hp => ?_⟩
    obtain ⟨e2, r2, g2⟩ := new_loc rs1 hp rx
    exact h1.ok e2 r2 ⟨p, rfl, g2⟩
  · exact h1.elim
/-- a list of ours that will not change any more -/
def frzM (v : Val) (st : Sto) : Res Val := match v with
  | .loc n => match st[n]? with
    | some (.lst l) => .ok (.lst l) (st.set n .dead)
    | _ => .bad
  | _ => .bad
theorem se_frz (h : SE K W X a ta ma) : SE K W X a ta (mOp1 frzM ma) := by
  refine ⟨h.pe, fun ρ st H σ τ Q rs re q => ?_⟩
  refine h.sd ρ st H σ τ Q rs re (After.bind q fun v st1 ρ1 H1 x _ e1 rs1 rx h1 => ?_)
  unfold frzM at h1
  split at h1
  · split at h1
    · rename_i n l hl
      obtain ⟨a, rfl, ha⟩ := rx
      obtain ⟨e2, r2, v2⟩ := freeze rs1 hl ha
      exact h1.ok e2 r2 v2
    · exact h1.elim
  · exact h1.elim

/-! ### items, cuts -/
theorem atI_rel {ρ : Rho} {H : Hp} {l : List Val} {xs : List V} (h : RVs K ρ H l xs) {i : Int} {v : Val} (e : atI l i = some v) : ∃ x, atI xs i = some x ∧ RV K ρ H v x := by
  unfold atI at e ⊢
  rw [← h.length]
  obtain ⟨j, e1, e2⟩ := Option.bind_eq_some_iff.mp e
  obtain ⟨x, e3, e4⟩ := h.get e2
  exact ⟨x, by rw [e1]; exact e3, e4⟩
def getM (v w : Val) (st : Sto) : Res Val := match v, w with
  | .str z, .int i => if z.length ≤ sizeLine then (match atI z.cps.toList i with
    | some c => .ok (.str ⟨#[c]⟩) st
    | none => .bad) else .bad
  | v, .int i => match itemsOf st v with
    | some l => (match atI l i with
      | some x => .ok x st
      | none => .bad)
    | none => .bad
  | _, _ => .bad
theorem snd_get : SndR2 K (rIx K) getM := by
  intro ρ st H v w x y Q E rs rx ry h
  unfold getM at h
  split at h
  · split at h
    · rename_i hl
      split at h
      · rename_i c hc
        exact .inr (.inr ⟨_, _, c, rx, ry, hl, hc, h.ok .refl rs rfl⟩)
      · exact h.elim
    · exact h.elim
  · split at h
    · rename_i l hl
      obtain ⟨p, xs, rfl, sq, rl⟩ := items_of rs rx hl
      split at h
      · rename_i z hz
        obtain ⟨y', e1, e2⟩ := atI_rel rl hz
        rcases sq with sq | sq
        · exact .inl ⟨p, xs, _, y', rfl, ry, sq, e1, h.ok .refl rs e2⟩
        · exact .inr (.inl ⟨p, xs, _, y', rfl, ry, sq, e1, h.ok .refl rs e2⟩)
      · exact h.elim
    · exact h.elim
  · exact h.elim
theorem se_ix (ha : SE K W X a ta ma) (hb : SE K W X b tb mb) (hs : PlainIx b := by intro _ _; rfl) (hK : X.K = K := by rfl) : SE K W X (.Subscript a b pos) (tOp (rIx K) ta tb) (mOp2 getM ma mb) := by
  subst hK
  exact ⟨pe_ix ix_seq ha.pe hb.pe hs, snd_op2 snd_get ha.sd hb.sd⟩
abbrev MO := Env → Sto → Res (Option Int)
def SndO (K : Frag) (W : WX) (t : TO) (m : MO) : Prop := ∀ (ρ : Rho) (st : Sto) (H : Hp) (σ : Env) (τ : L2.St) (Q : Option Int → Hp → Prop), RS K ρ st H → RE K ρ (Fz ρ st H) σ τ → After K ρ st H (fun _ _ a b => a = b) (m σ st) Q (fun c d H' => W c d τ H') → t τ H Q
structure SO (K : Frag) (W : WX) (X : Cx) (e : Option Expr) (t : TO) (m : MO) : Prop where
  po : PO X e t
  sd : SndO K W t m
def mNoPart : MO := fun _ st => .ok none st
def mPart (m : ME) : MO := fun σ st => (m σ st).bind fun v st1 => match v with
  | .int i => .ok (some i) st1
  | _ => .bad
theorem so_none : SO K W X none tNoPart mNoPart := ⟨po_none, fun ρ st H σ τ Q rs re q => q.ok .refl rs rfl⟩
theorem so_some (h : SE K W X a ta ma) : SO K W X (some a) (tPart ta) (mPart ma) := by
  refine ⟨po_some h.pe, fun ρ st H σ τ Q rs re q => ?_⟩
  refine h.sd ρ st H σ τ _ rs re (After.bind q fun v st1 ρ1 H1 x _ e1 rs1 rx h1 => ?_)
  split at h1
  · exact ⟨_, rx, h1.ok .refl rs1 rfl⟩
  · exact h1.elim
def cutL (xs : List Val) (lo hi : Option Int) : List Val := (xs.drop (HT.sIx xs.length 0 lo)).take (HT.sIx xs.length xs.length hi - HT.sIx xs.length 0 lo)
theorem RVs.cut {ρ : Rho} {H : Hp} {l : List Val} {xs : List V} (h : RVs K ρ H l xs) (lo hi : Option Int) : RVs K ρ H (cutL l lo hi) (cutV xs lo hi) := by
  unfold cutL cutV
  rw [← h.length]
  exact (h.drop _).take _
/-- the items of a list -/
def lsOf (st : Sto) : Val → Option (List Val)
  | .lst l => some l
  | .cst l => some l
  | .loc n => match st[n]? with
    | some (.lst l) => some l
    | _ => none
  | _ => none
theorem ls_of {ρ : Rho} {st : Sto} {H : Hp} {v : Val} {x : V} {l : List Val} (rs : RS K ρ st H) (h : RV K ρ (Fz ρ st H) v x) (e : lsOf st v = some l) : ∃ a xs, x = .ref a ∧ SqL K H a xs ∧ RVs K ρ (Fz ρ st H) l xs := by
  cases v with
  | lst l' => obtain ⟨a, xs, e1, e2, e3⟩ := h; cases e; exact ⟨a, xs, e1, .inl (.inl (fz_same _ _ _ _ _ e2)), e3⟩
  | cst l' => obtain ⟨a, xs, e1, e2, e3⟩ := h; cases e; exact ⟨a, xs, e1, sqL_mono (fz_same _ _ _) e2, e3⟩
  | loc n =>
    obtain ⟨a, rfl, ha⟩ := h
    have e' : (match st[n]? with | some (Ob.lst l) => some l | _ => none) = some l := e
    split at e' <;> cases e'
    rename_i hl
    obtain ⟨xs, hx, rx⟩ := rs.ob n _ a hl ha
    exact ⟨a, xs, rfl, .inl (.inl hx), rx⟩
  | _ => cases e
def cutM (v : Val) (lo hi : Option Int) (st : Sto) : Res Val := match v with
  | .str z => if z.length ≤ sizeLine then .ok (.str (cutS z lo hi)) st else .bad
  | .tup l => if HT.sIx l.length 0 lo = 0 ∧ HT.sIx l.length l.length hi = l.length then .bad else .ok (.tup (cutL l lo hi)) st
  | v => match lsOf st v with
    | some l => .ok (.lst (cutL l lo hi)) st
    | none => .bad
def rSlA (K : Frag) : V → Option Int → Option Int → Hp → VK → Prop := fun x lo hi H Q => rSlS x lo hi H Q ∨ (rSlT K x lo hi H Q ∨ rSlL K x lo hi H Q)
def mCut (ma : ME) (ml mh : MO) : ME := fun σ st => (ma σ st).bind fun v st1 => (ml σ st1).bind fun lo st2 => (mh σ st2).bind fun hi st3 => cutM v lo hi st3
theorem se_cut {lo hi : Option Expr} {tl th : TO} {ml mh : MO} {p2 : Pos} (ha : SE K W X a ta ma) (hl : SO K W X lo tl ml) (hh : SO K W X hi th mh) (hK : X.K = K := by rfl) :
    SE K W X (.Subscript a (.Slice lo hi none p2) pos) (L2.tSl (rSlA K) ta tl th) (mCut ma ml mh) := by
  subst hK
  refine ⟨pe_slice (sl_str.or (sl_tup.or sl_list)) ha.pe hl.po hh.po, fun ρ st H σ τ Q rs re q => ?_⟩
  refine ha.sd ρ st H σ τ _ rs re (After.bind q fun v st1 ρ1 H1 x _ e1 rs1 rx h1 => ?_)
  refine hl.sd ρ1 st1 H1 σ τ _ rs1 (re.mono e1.pre e1.fz) (After.bind h1 fun l st2 ρ2 H2 l' _ e2 rs2 el h2 => ?_)
  subst el
  refine hh.sd ρ2 st2 H2 σ τ _ rs2 ((re.mono e1.pre e1.fz).mono e2.pre e2.fz) (After.bind h2 fun u st3 ρ3 H3 u' _ e3 rs3 eu h3 => ?_)
  subst eu
  have rx3 := (rx.mono e2.pre e2.fz).mono e3.pre e3.fz
  unfold cutM at h3
  split at h3
  · split at h3
    · rename_i hz
      exact .inl ⟨_, rx3, hz, h3.ok .refl rs3 rfl⟩
    · exact h3.elim
  · split at h3
    · exact h3.elim
    · rename_i vs hz
      obtain ⟨a, xs, rfl, sa, ra⟩ := rx3
      refine .inr (.inl ⟨a, xs, rfl, sqT_mono (fz_same _ _ _) sa, by rw [← ra.length]; exact hz, fun p hp => ?_⟩)
      obtain ⟨e4, r4, f4⟩ := new_fz (o := .tup (cutV xs l u)) rs3 hp
      exact h3.ok e4 r4 ⟨p, _, rfl, .inl (.inl f4), (ra.cut l u).mono e4.pre e4.fz⟩
  · split at h3
    · rename_i vs hv
      obtain ⟨p, xs, rfl, sq, rl⟩ := ls_of rs3 rx3 hv
      refine .inr (.inr ⟨p, xs, rfl, sq, fun p' hp => ?_⟩)
      obtain ⟨e4, r4, f4⟩ := new_fz (o := .lst (cutV xs l u)) rs3 hp
      exact h3.ok e4 r4 ⟨p', _, rfl, f4, (rl.cut l u).mono e4.pre e4.fz⟩
    · exact h3.elim
/-- xs[::-1] -/
def revM (v : Val) (st : Sto) : Res Val := match lsOf st v with
  | some l => .ok (.lst l.reverse) st
  | none => .bad
theorem se_rev {k : Nat} {p1 p2 p3 : Pos} (ha : SE K W X a ta ma) (hK : X.K = K := by rfl) : SE K W X (.Subscript a (.Slice none none (some (.UnaryOp .USub (.Constant (.int 1) k p1) p2)) p3) pos) (tRevL K ta) (mOp1 revM ma) := by
  subst hK
  refine ⟨pe_revL ha.pe, snd_op1 (r := fun x H1 Q => ∃ a xs, x = .ref a ∧ SqL X.K H1 a xs ∧ ∀ p, H1 p = none → Q (.ref p) (upd H1 p (.lst xs.reverse))) (fun ρ st H v x Q E rs rx h => ?_) ha.sd⟩
  unfold revM at h
  split at h
  · rename_i l hl
    obtain ⟨p, xs, rfl, sq, rl⟩ := ls_of rs rx hl
    refine ⟨p, xs, rfl, sq, fun p' hp => ?_⟩
    obtain ⟨e4, r4, f4⟩ := new_fz (o := .lst xs.reverse) rs hp
    exact h.ok e4 r4 ⟨p', _, rfl, f4, rl.reverse.mono e4.pre e4.fz⟩
  · exact h.elim

end
end L3
end

section
set_option Elab.async false
set_option linter.all false
set_option maxRecDepth 100000
set_option maxHeartbeats 200000
/-! L3d: displays, items, cuts, built-in functions, methods of lists and texts. -/
namespace L3
open PySem PySem.Spec PyProof.Rows L2

section
variable {K : Frag} {W : WX} {X : Cx} {pos : Pos}
variable {a b c : Expr} {ta tb tc : TE} {ma mb mc : ME} {es : List Expr} {t : TA} {m : MA}
/-! ### built-in functions -/
section
variable {e : Expr} {x : Str} {p : Pos}
theorem se_callB {id : String} {r : List V → Hp → VK → Prop} {f : List Val → Sto → Res Val} (hc : CallR X (.builtin id) r) (hs : SndRs K r f) (hg : Gl X x) (hm : X.mg x = none) (hv : bootBuiltins x = some (.builtin id)) (ha : SA K W X (e :: es) t m)
    (hn : x ≠ "__name__" := by decide) (hdb : (x == ("__debug__" : Str)) = false := by decide) (he : starEach (e :: es) X.env = (false, eval e X.env) :: starEach es X.env := by rfl) (hpl : (backTo pos (starEach es X.env)).any (·.1) = false := by rfl) :
    SE K W X (.Call (.Name x p) (e :: es) [] pos) (tCB r t) (mOps f m) := ⟨pe_callB hc hg hm hv ha.pa hn hdb he hpl, snd_ops hs ha.sd⟩
theorem se_callT {T : String} {r : List V → Hp → VK → Prop} {f : List Val → Sto → Res Val} (hc : CallR X (.type T) r) (hs : SndRs K r f) (hg : Gl X x) (hm : X.mg x = none) (hv : bootBuiltins x = some (.type T)) (ha : SA K W X (e :: es) t m)
    (hn : x ≠ "__name__" := by decide) (hdb : (x == ("__debug__" : Str)) = false := by decide) (he : starEach (e :: es) X.env = (false, eval e X.env) :: starEach es X.env := by rfl) (hpl : (backTo pos (starEach es X.env)).any (·.1) = false := by rfl) :
    SE K W X (.Call (.Name x p) (e :: es) [] pos) (tCB r t) (mOps f m) := ⟨pe_callTy hc hg hm hv ha.pa hn hdb he hpl, snd_ops hs ha.sd⟩
end
theorem RVs.inv1 {ρ : Rho} {H : Hp} {v : Val} {xs : List V} (h : RVs K ρ H [v] xs) : ∃ x, xs = [x] ∧ RV K ρ H v x := by
  obtain ⟨y, r, rfl, h1, h2⟩ := h
  cases (show _ = _ from h2)
  exact ⟨y, rfl, h1⟩
theorem RVs.inv2 {ρ : Rho} {H : Hp} {v w : Val} {xs : List V} (h : RVs K ρ H [v, w] xs) : ∃ x y, xs = [x, y] ∧ RV K ρ H v x ∧ RV K ρ H w y := by
  obtain ⟨y, r, rfl, h1, h2⟩ := h
  obtain ⟨z, rfl, h3⟩ := RVs.inv1 h2
  exact ⟨y, z, rfl, h1, h3⟩
/-! len -/
def lenM : List Val → Sto → Res Val
  | [.str z], st => if z.length ≤ sizeLine then .ok (.int z.length) st else .bad
  | [v], st => match itemsOf st v with
    | some l => .ok (.int l.length) st
    | none => .bad
  | _, _ => .bad
theorem snd_len : SndRs K (fun xs H Q => (∃ z, xs = [.str z] ∧ z.length ≤ sizeLine ∧ Q (.int z.length) H) ∨ (∃ p ys, xs = [.ref p] ∧ (SqL K H p ys ∨ SqT K H p ys) ∧ Q (.int ys.length) H)) lenM := by
  intro ρ st H vs xs Q E rs rx h
  unfold lenM at h
  split at h
  · split at h
    · rename_i hz
      obtain ⟨x, rfl, h1⟩ := RVs.inv1 rx
      cases (show _ = _ from h1)
      exact .inl ⟨_, rfl, hz, h.ok .refl rs rfl⟩
    · exact h.elim
  · split at h
    · rename_i l hl
      obtain ⟨x, rfl, h1⟩ := RVs.inv1 rx
      obtain ⟨p, ys, rfl, sq, rl⟩ := items_of rs h1 hl
      exact .inr ⟨p, ys, rfl, sq, by rw [← rl.length]; exact h.ok .refl rs rfl⟩
    · exact h.elim
  · exact h.elim
/-! isinstance -/
inductive Ty where
  | none | bool | int | str | tuple | list
def Ty.nm : Ty → String
  | .none => "NoneType" | .bool => "bool" | .int => "int" | .str => "str" | .tuple => "tuple" | .list => "list"
def tyOf (st : Sto) : Val → Option Ty
  | .non => some .none
  | .bl _ => some .bool
  | .int _ => some .int
  | .str _ => some .str
  | .tup _ => some .tuple
  | .lst _ => some .list
  | .cst _ => some .list
  | .loc n => match st[n]? with
    | some (.lst _) => some .list
    | _ => none
  | _ => none
def Ty.isInt : Ty → Bool
  | .int => true | .bool => true | _ => false
def Ty.isBool : Ty → Bool
  | .bool => true | _ => false
def Ty.isStr : Ty → Bool
  | .str => true | _ => false
def Ty.isTuple : Ty → Bool
  | .tuple => true | _ => false
def Ty.isList : Ty → Bool
  | .list => true | _ => false
def isiT (t : Ty) (c : String) : Option Bool :=
  if c = "int" then some t.isInt else if c = "bool" then some t.isBool else if c = "str" then some t.isStr else if c = "tuple" then some t.isTuple else if c = "list" then some t.isList else if c = "dict" then some false else none
theorem isiT_ok {t : Ty} {c : String} {b : Bool} (h : isiT t c = some b) : PySem.W.kitOne K (.type t.nm) (.type c) = some b := by
  refine kit_ty ?_
  unfold isiT at h
  split at h
  · rename_i e; subst e; cases h; cases t <;> decide +kernel
  split at h
  · rename_i e; subst e; cases h; cases t <;> decide +kernel
  split at h
  · rename_i e; subst e; cases h; cases t <;> decide +kernel
  split at h
  · rename_i e; subst e; cases h; cases t <;> decide +kernel
  split at h
  · rename_i e; subst e; cases h; cases t <;> decide +kernel
  split at h
  · rename_i e; subst e; cases h; cases t <;> decide +kernel
  · cases h
theorem tyX_of {ρ : Rho} {st : Sto} {H : Hp} {v : Val} {x : V} {t : Ty} (rs : RS K ρ st H) (h : RV K ρ (Fz ρ st H) v x) (e : tyOf st v = some t) : TyX K H x (.type t.nm) := by
  have lq : ∀ {a xs}, SqL K H a xs → TyX K H (.ref a) (.type "list") := fun {a xs} q => by
    rcases q with (q | ⟨o, q⟩) | ⟨o, _, _, q, q2, _⟩
    · exact .base (.lst q)
    · exact .base (.frz q)
    · exact .kList q q2
  cases v with
  | non => cases e; cases (show _ = _ from h); exact .base .non
  | bl b => cases e; cases (show _ = _ from h); exact .base (.bl b)
  | int b => cases e; cases (show _ = _ from h); exact .base (.int b)
  | str b => cases e; cases (show _ = _ from h); exact .base (.str b)
  | tup l =>
    obtain ⟨a, xs, rfl, q, _⟩ := h
    cases e
    rcases sqT_mono (fz_same _ _ _) q with (q | ⟨o, q⟩) | ⟨o, _, _, q, q2, _⟩
    · exact .base (.tup q)
    · exact .fTuple q
    · exact .kTuple q q2
  | lst l => obtain ⟨a, xs, rfl, q, _⟩ := h; cases e; exact lq (.inl (.inl (fz_same _ _ _ _ _ q)))
  | cst l => obtain ⟨a, xs, rfl, q, _⟩ := h; cases e; exact lq (sqL_mono (fz_same _ _ _) q)
  | loc n =>
    obtain ⟨a, rfl, ha⟩ := h
    have e' : (match st[n]? with | some (Ob.lst _) => some Ty.list | _ => none) = some t := e
    split at e' <;> cases e'
    rename_i hl
    obtain ⟨xs, hx, rx⟩ := rs.ob n _ a hl ha
    exact lq (.inl (.inl hx))
  | _ => cases e
def isiM : List Val → Sto → Res Val
  | [v, .ty c], st => match (tyOf st v).bind fun t => isiT t c with
    | some b => .ok (.bl b) st
    | none => .bad
  | _, _ => .bad
theorem snd_isi : SndRs K (rIsi K) isiM := by
  intro ρ st H vs xs Q E rs rx h
  unfold isiM at h
  split at h
  · split at h
    · rename_i hb
      obtain ⟨t, h1, h2⟩ := Option.bind_eq_some_iff.mp hb
      obtain ⟨x, y, rfl, r1, r2⟩ := RVs.inv2 rx
      cases (show _ = _ from r2)
      exact ⟨x, .ty _, _, _, _, rfl, .ty _, tyX_of rs r1 h1, isiT_ok h2, h.ok .refl rs rfl⟩
    · exact h.elim
  · exact h.elim
/-! all, any of a list of bools -/
def blsOf : List Val → Option (List Bool)
  | [] => some []
  | .bl b :: l => (blsOf l).map fun r => b :: r
  | _ => none
theorem bls_of {ρ : Rho} {H : Hp} (l : List Val) : ∀ {xs : List V} {bs : List Bool}, RVs K ρ H l xs → blsOf l = some bs → xs = bs.map V.bl := by
  induction l with
  | nil => intro xs bs h e; cases e; exact h
  | cons v l ih =>
    intro xs bs h e
    cases v with
    | bl b =>
      obtain ⟨bs, q, rfl⟩ := Option.map_eq_some_iff.mp (show (blsOf l).map _ = _ from e)
      obtain ⟨y, r, e1, e2, e3⟩ := h
      cases (show _ = _ from e2)
      rw [e1, ih e3 q]
      rfl
    | _ => cases e
def allM : List Val → Sto → Res Val
  | [v], st => match (lsOf st v).bind blsOf with
    | some bs => .ok (.bl (bs.all id)) st
    | none => .bad
  | _, _ => .bad
def anyM : List Val → Sto → Res Val
  | [v], st => match (lsOf st v).bind blsOf with
    | some bs => .ok (.bl (bs.any id)) st
    | none => .bad
  | _, _ => .bad
theorem snd_all : SndRs K (rAll K) allM := by
  intro ρ st H vs xs Q E rs rx h
  unfold allM at h
  split at h
  · split at h
    · rename_i bs hb
      obtain ⟨l, h1, h2⟩ := Option.bind_eq_some_iff.mp hb
      obtain ⟨x, rfl, r1⟩ := RVs.inv1 rx
      obtain ⟨p, ys, rfl, sq, rl⟩ := ls_of rs r1 h1
      exact ⟨p, bs, rfl, by rw [← bls_of _ rl h2]; exact sq, h.ok .refl rs rfl⟩
    · exact h.elim
  · exact h.elim
theorem snd_any : SndRs K (rAny K) anyM := by
  intro ρ st H vs xs Q E rs rx h
  unfold anyM at h
  split at h
  · split at h
    · rename_i bs hb
      obtain ⟨l, h1, h2⟩ := Option.bind_eq_some_iff.mp hb
      obtain ⟨x, rfl, r1⟩ := RVs.inv1 rx
      obtain ⟨p, ys, rfl, sq, rl⟩ := ls_of rs r1 h1
      exact ⟨p, bs, rfl, by rw [← bls_of _ rl h2]; exact sq, h.ok .refl rs rfl⟩
    · exact h.elim
  · exact h.elim
/-! tuple(xs), list(xs) -/
def tupM : List Val → Sto → Res Val
  | [.tup l], st => .ok (.tup l) st
  | [v], st => match lsOf st v with
    | some l => .ok (.tup l) st
    | none => .bad
  | _, _ => .bad
theorem snd_tup : SndRs K (fun xs H Q => ∃ p ys, xs = [.ref p] ∧ ((SqL K H p ys ∧ ∀ l, H l = none → Q (.ref l) (upd H l (.tup ys))) ∨ (SqT K H p ys ∧ Q (.ref p) H))) tupM := by
  intro ρ st H vs xs Q E rs rx h
  unfold tupM at h
  split at h
  · obtain ⟨x, rfl, r1⟩ := RVs.inv1 rx
    obtain ⟨a, ys, rfl, q, r2⟩ := r1
    exact ⟨a, ys, rfl, .inr ⟨sqT_mono (fz_same _ _ _) q, h.ok .refl rs ⟨a, ys, rfl, q, r2⟩⟩⟩
  · split at h
    · rename_i l hl
      obtain ⟨x, rfl, r1⟩ := RVs.inv1 rx
      obtain ⟨p, ys, rfl, sq, rl⟩ := ls_of rs r1 hl
      refine ⟨p, ys, rfl, .inl ⟨sq, fun q hq => ?_⟩⟩
      obtain ⟨e4, r4, f4⟩ := new_fz (o := .tup ys) rs hq
      exact h.ok e4 r4 ⟨q, _, rfl, .inl (.inl f4), rl.mono e4.pre e4.fz⟩
    · exact h.elim
  · exact h.elim
def lstM : List Val → Sto → Res Val
  | [v], st => match itemsOf st v with
    | some l => .ok (.lst l) st
    | none => .bad
  | _, _ => .bad
def lstLM : List Val → Sto → Res Val
  | [v], st => match itemsOf st v with
    | some l => .ok (.loc st.length) (st ++ [.lst l])
    | none => .bad
  | _, _ => .bad
def rListOf (K : Frag) : List V → Hp → VK → Prop := fun xs H Q => ∃ p ys, xs = [.ref p] ∧ (SqL K H p ys ∨ SqT K H p ys) ∧ ∀ l, H l = none → Q (.ref l) (upd H l (.lst ys))
theorem snd_lst : SndRs K (rListOf K) lstM := by
  intro ρ st H vs xs Q E rs rx h
  unfold lstM at h
  split at h
  · split at h
    · rename_i l hl
      obtain ⟨x, rfl, r1⟩ := RVs.inv1 rx
      obtain ⟨p, ys, rfl, sq, rl⟩ := items_of rs r1 hl
      refine ⟨p, ys, rfl, sq, fun q hq => ?_⟩
      obtain ⟨e4, r4, f4⟩ := new_fz (o := .lst ys) rs hq
      exact h.ok e4 r4 ⟨q, _, rfl, f4, rl.mono e4.pre e4.fz⟩
    · exact h.elim
  · exact h.elim
theorem snd_lstL : SndRs K (rListOf K) lstLM := by
  intro ρ st H vs xs Q E rs rx h
  unfold lstLM at h
  split at h
  · split at h
    · rename_i l hl
      obtain ⟨x, rfl, r1⟩ := RVs.inv1 rx
      obtain ⟨p, ys, rfl, sq, rl⟩ := items_of rs r1 hl
      refine ⟨p, ys, rfl, sq, fun q hq => ?_⟩
      obtain ⟨e4, r4, g2⟩ := new_loc rs hq rl
      exact h.ok e4 r4 ⟨q, rfl, g2⟩
    · exact h.elim
  · exact h.elim
/-! list(range(..)) -/
def rgL (a b : Int) : List Val := (List.range (b - a).toNat).map fun i => Val.int (a + (i : Nat))
theorem rg_rel {ρ : Rho} {H : Hp} {a b : Int} : RVs K ρ H (rgL a b) (rgV a b) := by
  unfold rgL rgV
  induction List.range (b - a).toNat with
  | nil => rfl
  | cons n l ih => exact ⟨_, _, rfl, rfl, ih⟩
noncomputable def okRg (a b : Int) : Bool := @decide (0 ≤ a ∧ b ≤ 16777216 ∧ a ≤ 16777216 ∧ 0 ≤ b) (Classical.propDecidable _)
theorem okRg_iff {a b : Int} : okRg a b = true ↔ (0 ≤ a ∧ b ≤ 16777216 ∧ a ≤ 16777216 ∧ 0 ≤ b) := by
  unfold okRg
  exact @decide_eq_true_iff _ (Classical.propDecidable _)
theorem okRg_of {a b : Int} (h : okRg a b = true) : RgOk a b := by
  have h := okRg_iff.mp h
  exact RgOk.of_le h.1 h.2.1 h.2.2.1 h.2.2.2
noncomputable def mLstRg (m : ME) : ME := fun σ st => (m σ st).bind fun v st1 => match v with
  | .int n => if okRg 0 n = true then .ok (.lst (rgL 0 n)) st1 else .bad
  | _ => .bad
noncomputable def mLocRg (m : ME) : ME := fun σ st => (m σ st).bind fun v st1 => match v with
  | .int n => if okRg 0 n = true then .ok (.loc st1.length) (st1 ++ [.lst (rgL 0 n)]) else .bad
  | _ => .bad
section
variable {p p2 pos2 : Pos}
theorem se_listRg (hc : X.calm = true) (hg : Gl X "list") (hm : X.mg "list" = none) (hg2 : Gl X "range") (hm2 : X.mg "range" = none) (ha : SE K W X a ta ma) (na : starEach [a] X.env = (false, eval a X.env) :: starEach [] X.env := by rfl)
    (nb : starEach [.Call (.Name "range" p2) [a] [] pos2] X.env = (false, eval (.Call (.Name "range" p2) [a] [] pos2) X.env) :: starEach [] X.env := by rfl) :
    SE K W X (.Call (.Name "list" p) [.Call (.Name "range" p2) [a] [] pos2] [] pos) (tLstRg (tRg1 ta)) (mLstRg ma) := by
  refine ⟨pe_listRg hc hg hm (prg_1 hg2 hm2 ha.pe na) nb, fun ρ st H σ τ Q rs re q => ?_⟩
  refine ha.sd ρ st H σ τ _ rs re (After.bind q fun v st1 ρ1 H1 x _ e1 rs1 rx h1 => ?_)
  cases v with
  | int n =>
    dsimp only at h1
    split at h1
    · rename_i hk
      refine ⟨n, rx, okRg_of hk, fun q hq => ?_⟩
      obtain ⟨e4, r4, f4⟩ := new_fz (o := .lst (rgV 0 n)) rs1 hq
      have rr : RV K ρ1 (Fz ρ1 st1 (upd H1 q (.lst (rgV 0 n)))) (.lst (rgL 0 n)) (.ref q) := ⟨q, rgV 0 n, rfl, f4, rg_rel⟩
      exact h1.ok e4 r4 rr
    · exact h1.elim
  | _ => exact h1.elim
theorem se_locRg (hc : X.calm = true) (hg : Gl X "list") (hm : X.mg "list" = none) (hg2 : Gl X "range") (hm2 : X.mg "range" = none) (ha : SE K W X a ta ma) (na : starEach [a] X.env = (false, eval a X.env) :: starEach [] X.env := by rfl)
    (nb : starEach [.Call (.Name "range" p2) [a] [] pos2] X.env = (false, eval (.Call (.Name "range" p2) [a] [] pos2) X.env) :: starEach [] X.env := by rfl) :
    SE K W X (.Call (.Name "list" p) [.Call (.Name "range" p2) [a] [] pos2] [] pos) (tLstRg (tRg1 ta)) (mLocRg ma) := by
  refine ⟨pe_listRg hc hg hm (prg_1 hg2 hm2 ha.pe na) nb, fun ρ st H σ τ Q rs re q => ?_⟩
  refine ha.sd ρ st H σ τ _ rs re (After.bind q fun v st1 ρ1 H1 x _ e1 rs1 rx h1 => ?_)
  cases v with
  | int n =>
    dsimp only at h1
    split at h1
    · rename_i hk
      refine ⟨n, rx, okRg_of hk, fun q hq => ?_⟩
      obtain ⟨e4, r4, g2⟩ := new_loc (xs := rgV 0 n) (l := rgL 0 n) rs1 hq rg_rel
      exact h1.ok e4 r4 ⟨q, rfl, g2⟩
    · exact h1.elim
  | _ => exact h1.elim
end
/-! ints -/
def absM : List Val → Sto → Res Val
  | [.int i], st => .ok (.int (if i < 0 then -i else i)) st
  | _, _ => .bad
theorem snd_abs : SndRs K (fun xs H Q => ∃ i, xs = [.int i] ∧ Q (.int (if i < 0 then -i else i)) H) absM := by
  intro ρ st H vs xs Q E rs rx h
  unfold absM at h
  split at h
  · obtain ⟨x, rfl, r1⟩ := RVs.inv1 rx
    cases (show _ = _ from r1)
    exact ⟨_, rfl, h.ok .refl rs rfl⟩
  · exact h.elim
def max2M : List Val → Sto → Res Val
  | [.int i, .int j], st => .ok (.int (if j > i then j else i)) st
  | _, _ => .bad
def min2M : List Val → Sto → Res Val
  | [.int i, .int j], st => .ok (.int (if j < i then j else i)) st
  | _, _ => .bad
theorem snd_max2 : SndRs K (fun xs H Q => ∃ i j, xs = [.int i, .int j] ∧ Q (.int (if j > i then j else i)) H) max2M := by
  intro ρ st H vs xs Q E rs rx h
  unfold max2M at h
  split at h
  · obtain ⟨x, y, rfl, r1, r2⟩ := RVs.inv2 rx
    cases (show _ = _ from r1)
    cases (show _ = _ from r2)
    exact ⟨_, _, rfl, h.ok .refl rs rfl⟩
  · exact h.elim
theorem snd_min2 : SndRs K (fun xs H Q => ∃ i j, xs = [.int i, .int j] ∧ Q (.int (if j < i then j else i)) H) min2M := by
  intro ρ st H vs xs Q E rs rx h
  unfold min2M at h
  split at h
  · obtain ⟨x, y, rfl, r1, r2⟩ := RVs.inv2 rx
    cases (show _ = _ from r1)
    cases (show _ = _ from r2)
    exact ⟨_, _, rfl, h.ok .refl rs rfl⟩
  · exact h.elim
end
end L3
end

section
set_option Elab.async false
set_option linter.all false
set_option maxRecDepth 100000
set_option maxHeartbeats 200000
/-! L3d: displays, items, cuts, built-in functions, methods of lists and texts. -/
namespace L3
open PySem PySem.Spec PyProof.Rows L2

section
variable {K : Frag} {W : WX} {X : Cx} {pos : Pos}
variable {a b c : Expr} {ta tb tc : TE} {ma mb mc : ME} {es : List Expr} {t : TA} {m : MA}
/-! int(bool), str(int), repr -/
theorem call_intB : CallR X (.type "int") (fun xs H Q => ∃ k, xs = [.bl k] ∧ Q (.int (if k then 1 else 0)) H) := by
  intro pins s σ H xs us Q I r h
  obtain ⟨k, rfl, q⟩ := h
  cases r with
  | cons r1 r2 =>
    cases r2
    cases r1
    exact PySem.call_int_bool ⟨.int _, H, I.tok _, ⟨_, rfl⟩, q⟩
def intM : List Val → Sto → Res Val
  | [.bl k], st => .ok (.int (if k then 1 else 0)) st
  | _, _ => .bad
theorem snd_int : SndRs K (fun xs H Q => ∃ k, xs = [.bl k] ∧ Q (.int (if k then 1 else 0)) H) intM := by
  intro ρ st H vs xs Q E rs rx h
  unfold intM at h
  split at h
  · obtain ⟨x, rfl, r1⟩ := RVs.inv1 rx
    cases (show _ = _ from r1)
    exact ⟨_, rfl, h.ok .refl rs rfl⟩
  · exact h.elim
def strM : List Val → Sto → Res Val
  | [.int i], st => if i.natAbs.log2 < 1920 then .ok (.str (toString i)) st else .bad
  | _, _ => .bad
theorem snd_str : SndRs K (fun xs H Q => ∃ i, xs = [.int i] ∧ i.natAbs.log2 < 1920 ∧ Q (.str (toString i)) H) strM := by
  intro ρ st H vs xs Q E rs rx h
  unfold strM at h
  split at h
  · split at h
    · rename_i hz
      obtain ⟨x, rfl, r1⟩ := RVs.inv1 rx
      cases (show _ = _ from r1)
      exact ⟨_, rfl, hz, h.ok .refl rs rfl⟩
    · exact h.elim
  · exact h.elim
def rRepr (K : Frag) : List V → Hp → VK → Prop := fun xs H Q => ∃ a d, xs = [.ref a] ∧ Dp K H (.ref a) d ∧ SeqAt.shaped d = true ∧ d.showable = true ∧ d.shown.length ≤ sizeLine ∧ Q (.str d.shown) H
theorem call_repr {k : Nat} (hr : Room k X.A) (hg : X.A.guards = some []) : CallR X (.builtin "repr") (rRepr X.K) := by
  intro pins s σ H xs us Q I r h
  obtain ⟨a, d, rfl, hd, hs, hw, hz, q⟩ := h
  obtain rfl := Vals.ref1 r
  obtain ⟨as, rd⟩ := Dp.reads I d (.ref a) (.ref a) hd rfl
  have hdep := SeqAt.depth_of_shaped hs
  have hno := PyData.hasDict_of_canLay d (SeqAt.canLay_of_shaped hs)
  refine repr_of_reads' rd hw (PyData.noDict_hsm hno) hg (by have := hr.un; omega) (fun _ _ e => e) (fun h' u tk kp => ?_) hz
  exact ⟨.str d.shown, H, I.kept kp, ⟨u, rfl⟩, q⟩
def reprM : List Val → Sto → Res Val
  | [v], st => match v with
    | .tup _ | .lst _ | .cst _ | .loc _ => match toDst st v with
      | some d => if (SeqAt.shaped d && d.showable && decide (d.shown.length ≤ sizeLine)) = true then .ok (.str d.shown) st else .bad
      | none => .bad
    | _ => .bad
  | _, _ => .bad
theorem snd_repr : SndRs K (rRepr K) reprM := by
  intro ρ st H vs xs Q E rs rx h
  have key : ∀ (v : Val) (x : V) (d : PyData), RV K ρ (Fz ρ st H) v x → toDst st v = some d → (∃ a, x = .ref a) → After K ρ st H (RV K) (if (SeqAt.shaped d && d.showable && decide (d.shown.length ≤ sizeLine)) = true then .ok (.str d.shown) st else .bad) Q E → rRepr K [x] H Q := by
    intro v x d r e hx h
    split at h
    · rename_i hs
      simp only [Bool.and_eq_true, decide_eq_true_eq] at hs
      obtain ⟨a, rfl⟩ := hx
      exact ⟨a, d, rfl, dpst_of rs r e, hs.1.1, hs.1.2, hs.2, h.ok .refl rs rfl⟩
    · exact h.elim
  unfold reprM at h
  split at h
  · obtain ⟨x, rfl, r1⟩ := RVs.inv1 rx
    split at h
    · split at h
      · rename_i hd; exact key _ x _ r1 hd (let ⟨a, _, e, _⟩ := r1; ⟨a, e⟩) h
      · exact h.elim
    · split at h
      · rename_i hd; exact key _ x _ r1 hd (let ⟨a, _, e, _⟩ := r1; ⟨a, e⟩) h
      · exact h.elim
    · split at h
      · rename_i hd; exact key _ x _ r1 hd (let ⟨a, _, e, _⟩ := r1; ⟨a, e⟩) h
      · exact h.elim
    · split at h
      · rename_i hd; exact key _ x _ r1 hd (let ⟨a, e, _⟩ := r1; ⟨a, e⟩) h
      · exact h.elim
    · exact h.elim
  · exact h.elim

end
end L3
end

section
set_option Elab.async false
set_option linter.all false
set_option maxRecDepth 100000
set_option maxHeartbeats 200000
/-! L3d: displays, items, cuts, built-in functions, methods of lists and texts. -/
namespace L3
open PySem PySem.Spec PyProof.Rows L2

section
variable {K : Frag} {W : WX} {X : Cx} {pos : Pos}
variable {a b c : Expr} {ta tb tc : TE} {ma mb mc : ME} {es : List Expr} {t : TA} {m : MA}
/-! ### methods -/
section
variable {T id : String} {name : Str} {o e : Expr} {apos cpos : Pos} {to : TE} {mo : ME}
def SndM (K : Frag) (T : String) (r : V → List V → Hp → VK → Prop) (f : Val → List Val → Sto → Res Val) : Prop := ∀ (ρ : Rho) (st : Sto) (H : Hp) (v : Val) (x : V) (vs : List Val) (xs : List V) (Q : VK) (E : XW), RS K ρ st H → RV K ρ (Fz ρ st H) v x → RVs K ρ (Fz ρ st H) vs xs → After K ρ st H (RV K) (f v vs st) Q E → r x xs H Q
def tyM (T : String) (st : Sto) (v : Val) : Bool := match v with
  | .str _ => T == "str"
  | v => T == "list" && (lsOf st v).isSome
theorem tyM_of {ρ : Rho} {st : Sto} {H : Hp} {v : Val} {x : V} (rs : RS K ρ st H) (h : RV K ρ (Fz ρ st H) v x) (e : tyM T st v = true) : tyV K T x H := by
  have key : ∀ v x, RV K ρ (Fz ρ st H) v x → (T == "list" && (lsOf st v).isSome) = true → tyV K T x H := fun v x h e => by
    have e2 := Bool.and_eq_true_iff.mp e
    obtain ⟨l, hl⟩ := Option.isSome_iff_exists.mp e2.2
    obtain ⟨a, xs, rfl, sq, _⟩ := ls_of rs h hl
    exact .inl ⟨eq_of_beq e2.1, xs, sq⟩
  cases v with
  | str s => cases (show _ = _ from h); exact eq_of_beq (show (T == "str") = true from e)
  | _ => exact key _ x h e
def mMet (T : String) (f : Val → List Val → Sto → Res Val) (mo : ME) (ma : MA) : ME := fun σ st => (mo σ st).bind fun v st1 => if tyM T st1 v = true then (ma σ st1).bind fun vs st2 => f v vs st2 else .bad
theorem snd_met {r : V → List V → Hp → VK → Prop} {f : Val → List Val → Sto → Res Val} (hs : SndM K T r f) (ho : SndE K W to mo) (ha : SndA K W t m) : SndE K W (tBM K T r to t) (mMet T f mo m) := by
  intro ρ st H σ τ Q rs re h
  refine ho ρ st H σ τ _ rs re (After.bind h fun v st1 ρ1 H1 x _ e1 rs1 rx h1 => ?_)
  split at h1
  · rename_i ht
    refine ⟨tyM_of rs1 rx ht, ?_⟩
    refine ha ρ1 st1 H1 σ τ _ rs1 (re.mono e1.pre e1.fz) (After.bind h1 fun vs st2 ρ2 H2 xs _ e2 rs2 rxs h2 => ?_)
    exact hs ρ2 st2 H2 v x vs xs Q _ rs2 (rx.mono e2.pre e2.fz) rxs h2
  · exact h1.elim
theorem snd_met0 {r : V → List V → Hp → VK → Prop} {f : Val → List Val → Sto → Res Val} (hs : SndM K T r f) (ho : SndE K W to mo) : SndE K W (tBM0 K T r to) (mMet T f mo aNil) := by
  intro ρ st H σ τ Q rs re h
  refine ho ρ st H σ τ _ rs re (After.bind h fun v st1 ρ1 H1 x _ e1 rs1 rx h1 => ?_)
  split at h1
  · rename_i ht
    exact ⟨tyM_of rs1 rx ht, hs ρ1 st1 H1 v x [] [] Q _ rs1 rx rfl h1⟩
  · exact h1.elim
end
/-- of a list of ours: what a method makes of its items -/
def onLoc (v : Val) (st : Sto) (f : List Val → Option (Val × List Val)) : Res Val := match v with
  | .loc n => match st[n]? with
    | some (.lst l) => match f l with
      | some (r, l') => .ok r (st.set n (.lst l'))
      | none => .bad
    | _ => .bad
  | _ => .bad
theorem onLoc_of {ρ : Rho} {st : Sto} {H : Hp} {v : Val} {x : V} {f : List Val → Option (Val × List Val)} {Q : VK} {E : XW} (rs : RS K ρ st H) (rx : RV K ρ (Fz ρ st H) v x) (h : After K ρ st H (RV K) (onLoc v st f) Q E) :
    ∃ a l xs r l', x = .ref a ∧ H a = some (.lst xs) ∧ RVs K ρ (Fz ρ st H) l xs ∧ f l = some (r, l') ∧ ∀ y ys, RV K ρ (Fz ρ st H) r y → RVs K ρ (Fz ρ st H) l' ys → Q y (upd H a (.lst ys)) := by
  cases v with
  | loc n =>
    have h' : After K ρ st H (RV K) (match st[n]? with
      | some (.lst l) => (match f l with
        | some (r, l') => Res.ok r (st.set n (.lst l'))
        | none => .bad)
      | _ => .bad) Q E := h
    split at h'
    · rename_i l hl
      split at h'
      · rename_i r l' hf
        obtain ⟨a, rfl, ha⟩ := rx
        obtain ⟨xs, hx, rl⟩ := rs.ob n _ a hl ha
        refine ⟨a, l, xs, r, l', rfl, hx, rl, hf, fun y ys hy hys => ?_⟩
        obtain ⟨e4, r4⟩ := set_loc rs hl ha hys
        exact h'.ok e4 r4 (hy.mono e4.pre e4.fz)
      · exact h'.elim
    · exact h'.elim
  | _ => exact h.elim
def appendM (v : Val) (vs : List Val) (st : Sto) : Res Val := match vs with
  | [w] => onLoc v st fun l => if l.length < sizeLine then some (.non, l ++ [w]) else none
  | _ => .bad
theorem snd_append : SndM K "list" rAppend appendM := by
  intro ρ st H v x vs xs Q E rs rx rxs h
  unfold appendM at h
  split at h
  · obtain ⟨y, rfl, ry⟩ := RVs.inv1 rxs
    obtain ⟨a, l, zs, r, l', rfl, hx, rl, hf, q⟩ := onLoc_of rs rx h
    split at hf
    · rename_i hz
      cases hf
      exact ⟨a, zs, y, rfl, rfl, hx, by rw [← rl.length]; exact hz, q _ _ rfl (rl.append (.one ry))⟩
    · cases hf
  · exact h.elim
def popM (v : Val) (vs : List Val) (st : Sto) : Res Val := match vs with
  | [] => onLoc v st fun l => match l[l.length - 1]? with
    | some w => some (w, l.dropLast)
    | none => none
  | _ => .bad
theorem RVs.dropLast {ρ : Rho} {H : Hp} {l : List Val} {xs : List V} (h : RVs K ρ H l xs) : RVs K ρ H l.dropLast xs.dropLast := by
  rw [List.dropLast_eq_take, List.dropLast_eq_take, ← h.length]
  exact h.take _
theorem snd_pop : SndM K "list" rPop popM := by
  intro ρ st H v x vs xs Q E rs rx rxs h
  unfold popM at h
  split at h
  · cases (show _ = _ from rxs)
    obtain ⟨a, l, zs, r, l', rfl, hx, rl, hf, q⟩ := onLoc_of rs rx h
    split at hf
    · rename_i w hw
      cases hf
      obtain ⟨y, h1, h2⟩ := rl.get hw
      rw [rl.length] at h1
      exact ⟨a, zs, y, rfl, rfl, hx, h1, q _ _ h2 rl.dropLast⟩
    · cases hf
  · exact h.elim
def popAtM (v : Val) (vs : List Val) (st : Sto) : Res Val := match vs with
  | [.int i] => onLoc v st fun l => if -(2 ^ 63) ≤ i ∧ i < 2 ^ 63 then (match seqIndex? i l.length with
    | some k => (match l[k]? with
      | some w => some (w, l.eraseIdx k)
      | none => none)
    | none => none) else none
  | _ => .bad
theorem snd_popAt : SndM K "list" rPopAt popAtM := by
  intro ρ st H v x vs xs Q E rs rx rxs h
  unfold popAtM at h
  split at h
  · obtain ⟨y, rfl, ry⟩ := RVs.inv1 rxs
    cases (show _ = _ from ry)
    obtain ⟨a, l, zs, r, l', rfl, hx, rl, hf, q⟩ := onLoc_of rs rx h
    split at hf
    · rename_i hb
      split at hf
      · rename_i k hk
        split at hf
        · rename_i w hw
          cases hf
          obtain ⟨y, h1, h2⟩ := rl.get hw
          rw [rl.length] at hk
          exact ⟨a, zs, _, k, y, rfl, rfl, hx, hb.1, hb.2, hk, h1, q _ _ h2 (rl.eraseIdx _)⟩
        · cases hf
      · cases hf
    · cases hf
  · exact h.elim
def extendM (v : Val) (vs : List Val) (st : Sto) : Res Val := match vs with
  | [.lst zs] => onLoc v st fun l => if l.length + zs.length ≤ sizeLine then some (.non, l ++ zs) else none
  | _ => .bad
theorem snd_extend : SndM K "list" rExtend extendM := by
  intro ρ st H v x vs xs Q E rs rx rxs h
  unfold extendM at h
  split at h
  · obtain ⟨y, rfl, ry⟩ := RVs.inv1 rxs
    obtain ⟨b, ws, rfl, hb, rb⟩ := ry
    obtain ⟨a, l, zs, r, l', rfl, hx, rl, hf, q⟩ := onLoc_of rs rx h
    split at hf
    · rename_i hz
      cases hf
      exact ⟨a, b, zs, ws, rfl, rfl, hx, fz_same _ _ _ _ _ hb, by rw [← rl.length, ← rb.length]; exact hz, q _ _ rfl (rl.append rb)⟩
    · cases hf
  · exact h.elim
section
variable {T id : String} {name : Str} {o e : Expr} {apos cpos : Pos} {to : TE} {mo : ME} {r : V → List V → Hp → VK → Prop} {f : Val → List Val → Sto → Res Val}
theorem se_met (pa : PlainAttrs T) (slot : Slot T name id) (hty : typeOf (.builtin id) = pure (.type "method_descriptor")) (hm : MtR X id r) (hs : SndM K T r f) (ho : SE K W X o to mo) (ha : SA K W X (e :: es) t m) (hK : X.K = K := by rfl)
    (hbase : attributeBase o name X.env (eval o X.env) = eval o X.env := by rfl)
    (hfew : ((backTo cpos (starEach (e :: es) X.env)).all (fun x => !x.1) && (backToKw cpos (keywordEach [] X.env)).all (fun x => x.1.isSome)
      && decide ((e :: es).length + ([] : List Keyword).length + (if ([] : List Keyword).isEmpty then 0 else 1) < 30)) = true := by rfl)
    (hline : (apos.endLine == cpos.line) = true := by rfl) (hst : starEach (e :: es) X.env = (false, eval e X.env) :: starEach es X.env := by rfl) (hpl : (backTo cpos (starEach es X.env)).any (·.1) = false := by rfl) :
    SE K W X (.Call (.Attribute o name apos) (e :: es) [] cpos) (tBM K T r to t) (mMet T f mo m) := by
  subst hK
  exact ⟨pe_bm pa slot hty hm ho.pe ha.pa hbase hfew hline hst hpl, snd_met hs ho.sd ha.sd⟩
theorem se_met0 (pa : PlainAttrs T) (slot : Slot T name id) (hty : typeOf (.builtin id) = pure (.type "method_descriptor")) (hm : MtR X id r) (hs : SndM K T r f) (ho : SE K W X o to mo) (hK : X.K = K := by rfl)
    (hbase : attributeBase o name X.env (eval o X.env) = eval o X.env := by rfl) (hline : (apos.endLine == cpos.line) = true := by rfl) :
    SE K W X (.Call (.Attribute o name apos) [] [] cpos) (tBM0 K T r to) (mMet T f mo aNil) := by
  subst hK
  exact ⟨pe_bm0 pa slot hty hm ho.pe hbase hline, snd_met0 hs ho.sd⟩
end
/-! texts -/
def strsOf : List Val → Option (List Str)
  | [] => some []
  | v :: l => match v with
    | .str s => (strsOf l).map fun r => s :: r
    | _ => none
theorem strs_of {ρ : Rho} {H : Hp} (l : List Val) : ∀ {xs : List V} {bs : List Str}, RVs K ρ H l xs → strsOf l = some bs → xs = bs.map V.str := by
  induction l with
  | nil => intro xs bs h e; cases e; exact h
  | cons v l ih =>
    intro xs bs h e
    cases v with
    | str b =>
      obtain ⟨bs, q, rfl⟩ := Option.map_eq_some_iff.mp (show (strsOf l).map _ = _ from e)
      obtain ⟨y, r, e1, e2, e3⟩ := h
      cases (show _ = _ from e2)
      rw [e1, ih e3 q]
      rfl
    | _ => cases e
def joinM (v : Val) (vs : List Val) (st : Sto) : Res Val := match v, vs with
  | .str a, [w] => match (itemsOf st w).bind strsOf with
    | some ys => if (ys.map (·.length)).sum + ys.length * a.length ≤ 16777216 then .ok (.str (Txt.join a ys)) st else .bad
    | none => .bad
  | _, _ => .bad
theorem snd_join : SndM K "str" (fun x xs H Q => ∃ a p, ∃ ys : List Str, x = .str a ∧ xs = [.ref p] ∧ (SqL K H p (ys.map V.str) ∨ SqT K H p (ys.map V.str)) ∧ (ys.map (·.length)).sum + ys.length * a.length ≤ 16777216 ∧ Q (.str (Txt.join a ys)) H) joinM := by
  intro ρ st H v x vs xs Q E rs rx rxs h
  unfold joinM at h
  split at h
  · split at h
    · rename_i ys hy
      split at h
      · rename_i hz
        obtain ⟨l, h1, h2⟩ := Option.bind_eq_some_iff.mp hy
        obtain ⟨y, rfl, ry⟩ := RVs.inv1 rxs
        obtain ⟨p, zs, rfl, sq, rl⟩ := items_of rs ry h1
        cases (show _ = _ from rx)
        exact ⟨_, p, ys, rfl, rfl, by rw [← strs_of _ rl h2]; exact sq, hz, h.ok .refl rs rfl⟩
      · exact h.elim
    · exact h.elim
  · exact h.elim
/-! where in a list -/
def firstAt (p : Val → Option Bool) : List Val → Option Nat
  | [] => none
  | v :: l => match p v with
    | some true => some 0
    | some false => (firstAt p l).map (· + 1)
    | none => none
end
end L3
end

section
set_option Elab.async false
set_option linter.all false
set_option maxRecDepth 100000
set_option maxHeartbeats 400000
/-! L3e: targets, statements, loops, a def's body. -/
namespace L3
open PySem PySem.Spec PyProof.Rows L2

/-! ### what is wanted behind a statement -/
inductive SR where
  | ok (f : Fl) (s : Sto)
  | exc (x : Exn) (σ : Env) (s : Sto)
  | bad
abbrev MSt := Env → Sto → SR
def Res.go {α : Type} (r : Res α) (σ : Env) (f : α → Sto → SR) : SR := match r with
  | .ok a s => f a s
  | .exc x s => .exc x σ s
  | .bad => .bad
@[simp] theorem Res.go_ok {α : Type} (a : α) (s : Sto) (σ : Env) (f : α → Sto → SR) : (Res.ok a s).go σ f = f a s := rfl
@[simp] theorem Res.go_exc {α : Type} (a : Exn) (s : Sto) (σ : Env) (f : α → Sto → SR) : (Res.exc a s : Res α).go σ f = .exc a σ s := rfl
@[simp] theorem Res.go_bad {α : Type} (σ : Env) (f : α → Sto → SR) : (Res.bad : Res α).go σ f = .bad := rfl
def SR.next (r : SR) (f : Env → Sto → SR) : SR := match r with
  | .ok (.nx σ) s => f σ s
  | r => r
@[simp] theorem SR.next_nx (σ : Env) (s : Sto) (f : Env → Sto → SR) : (SR.ok (.nx σ) s).next f = f σ s := rfl
@[simp] theorem SR.next_rt (v : Val) (s : Sto) (f : Env → Sto → SR) : (SR.ok (.rt v) s).next f = .ok (.rt v) s := rfl
@[simp] theorem SR.next_bk (v : Env) (s : Sto) (f : Env → Sto → SR) : (SR.ok (.bk v) s).next f = .ok (.bk v) s := rfl
@[simp] theorem SR.next_ct (v : Env) (s : Sto) (f : Env → Sto → SR) : (SR.ok (.ct v) s).next f = .ok (.ct v) s := rfl
@[simp] theorem SR.next_exc (x : Exn) (σ : Env) (s : Sto) (f : Env → Sto → SR) : (SR.exc x σ s).next f = .exc x σ s := rfl
@[simp] theorem SR.next_bad (f : Env → Sto → SR) : SR.bad.next f = .bad := rfl
def OkFl (K : Frag) (D : Ends) (ρ : Rho) (Hf H : Hp) : Fl → Prop
  | .nx σ => ∀ τ, RE K ρ Hf σ τ → D.nx τ H
  | .bk σ => ∀ τ, RE K ρ Hf σ τ → D.bk τ H
  | .ct σ => ∀ τ, RE K ρ Hf σ τ → D.ct τ H
  | .rt v => ∀ x, RV K ρ Hf v x → D.rt x H
def AfterS (K : Frag) (ρ : Rho) (st : Sto) (H : Hp) (r : SR) (D : Ends) (W : WX) : Prop := match r with
  | .ok f st' => ∀ ρ' H', Ext ρ st H ρ' st' H' → RS K ρ' st' H' → OkFl K D ρ' (Fz ρ' st' H') H' f
  | .exc x σ st' => ∀ ρ' H' cls d τ, Ext ρ st H ρ' st' H' → RS K ρ' st' H' → RE K ρ' (Fz ρ' st' H') σ τ → RX K ρ' (Fz ρ' st' H') H' x cls d → W cls d τ H'
  | .bad => False
section
variable {K : Frag} {ρ ρ1 : Rho} {st st1 : Sto} {H H1 : Hp} {W : WX} {D : Ends}
theorem AfterS.shift {r : SR} (h : AfterS K ρ st H r D W) (e : Ext ρ st H ρ1 st1 H1) : AfterS K ρ1 st1 H1 r D W := by
  cases r with
  | ok a s => exact fun ρ' H' e' => h ρ' H' (e.trans e')
  | exc a σ s => exact fun ρ' H' b d τ e' => h ρ' H' b d τ (e.trans e')
  | bad => exact h
/-- an expression of a statement -/
theorem AfterS.go {α β : Type} {R : Rho → Hp → α → β → Prop} {r : Res α} {σ : Env} {τ : L2.St} {f : α → Sto → SR} {Q1 : β → Hp → Prop} (re : RE K ρ (Fz ρ st H) σ τ) (h : AfterS K ρ st H (r.go σ f) D W)
    (k : ∀ a st1 ρ1 H1 b, Ext ρ st H ρ1 st1 H1 → RS K ρ1 st1 H1 → R ρ1 (Fz ρ1 st1 H1) a b → RE K ρ1 (Fz ρ1 st1 H1) σ τ → AfterS K ρ1 st1 H1 (f a st1) D W → Q1 b H1) : After K ρ st H R r Q1 (fun c d H' => W c d τ H') := by
  cases r with
  | ok a s => exact fun ρ' H' b e rs rr => k a s ρ' H' b e rs rr (re.mono e.pre e.fz) (AfterS.shift h e)
  | exc a s => exact fun ρ' H' c d e rs rx => h ρ' H' c d τ e rs (re.mono e.pre e.fz) rx
  | bad => exact h
theorem AfterS.nx {σ : Env} {s : Sto} (h : AfterS K ρ st H (.ok (.nx σ) s) D W) {H' : Hp} {τ : L2.St} (e : Ext ρ st H ρ1 s H') (rs : RS K ρ1 s H') (re : RE K ρ1 (Fz ρ1 s H') σ τ) : D.nx τ H' := h ρ1 H' e rs τ re
theorem AfterS.rt {v : Val} {s : Sto} (h : AfterS K ρ st H (.ok (.rt v) s) D W) {H' : Hp} {x : V} (e : Ext ρ st H ρ1 s H') (rs : RS K ρ1 s H') (rv : RV K ρ1 (Fz ρ1 s H') v x) : D.rt x H' := h ρ1 H' e rs x rv
/-- other ends: what goes on is told, the rest is as it was -/
theorem AfterS.cut {D' : Ends} {r : SR} {f : Env → Sto → SR} (h : AfterS K ρ st H (r.next f) D W)
    (k : ∀ σ st1 ρ1 H1 τ, Ext ρ st H ρ1 st1 H1 → RS K ρ1 st1 H1 → RE K ρ1 (Fz ρ1 st1 H1) σ τ → AfterS K ρ1 st1 H1 (f σ st1) D W → D'.nx τ H1)
    (hr : D'.rt = D.rt) (hb : D'.bk = D.bk) (hc : D'.ct = D.ct) : AfterS K ρ st H r D' W := by
  cases r with
  | ok fl s =>
    cases fl with
    | nx σ => exact fun ρ' H' e rs τ re => k σ s ρ' H' τ e rs re (AfterS.shift h e)
    | rt v => exact fun ρ' H' e rs x rv => by rw [hr]; exact h ρ' H' e rs x rv
    | bk v => exact fun ρ' H' e rs x rv => by rw [hb]; exact h ρ' H' e rs x rv
    | ct v => exact fun ρ' H' e rs x rv => by rw [hc]; exact h ρ' H' e rs x rv
  | exc a σ s => exact h
  | bad => exact h
end

/-! ### targets -/
abbrev MG := Val → Env → Sto → Res Env
abbrev MGs := List Val → Env → Sto → Res Env
def SndG (K : Frag) (t : TG) (g : MG) : Prop := ∀ (ρ : Rho) (st : Sto) (H : Hp) (σ : Env) (τ : L2.St) (v : Val) (x : V) (Q : L2.St → Hp → Prop) (E : XW), RS K ρ st H → RE K ρ (Fz ρ st H) σ τ → RV K ρ (Fz ρ st H) v x → After K ρ st H (RE K) (g v σ st) Q E → t x τ H Q
def SndGs (K : Frag) (t : TGs) (g : MGs) : Prop := ∀ (ρ : Rho) (st : Sto) (H : Hp) (σ : Env) (τ : L2.St) (v : List Val) (x : List V) (Q : L2.St → Hp → Prop) (E : XW), RS K ρ st H → RE K ρ (Fz ρ st H) σ τ → RVs K ρ (Fz ρ st H) v x → After K ρ st H (RE K) (g v σ st) Q E → t x τ H Q
structure SG (K : Frag) (X : Cx) (e : Expr) (t : TG) (g : MG) : Prop where
  pg : PG X e t
  sd : SndG K t g
structure SGs (K : Frag) (X : Cx) (es : List Expr) (t : TGs) (g : MGs) : Prop where
  pg : PGs X es t
  sd : SndGs K t g
section
variable {K : Frag} {W : WX} {X : Cx} {pos : Pos} {e : Expr} {es : List Expr} {t : TG} {ts : TGs} {g : MG} {gs : MGs}
def gN (i : Nat) : MG := fun v σ st => .ok (σ.set i (some v)) st
theorem sg_name (i : Nat) {x : Str} (hN : X.N.Nodup) (hi : X.N[i]? = some x := by rfl) (hx : Loc X.env.scope x := by first | exact Or.inl rfl | exact Or.inr rfl) (hf : X.fn x = true ∨ X.env.scope.names.lookup x = some .local := by first | exact .inl rfl | exact .inr rfl) : SG K X (.Name x pos) (gName i) (gN i) :=
  ⟨pg_name hN hi hx hf, fun ρ st H σ τ v x Q E rs re rv h => h.ok .refl rs (re.set rv i)⟩
def gsNil : MGs := fun vs σ st => match vs with
  | [] => .ok σ st
  | _ => .bad
def gsCons (g : MG) (gs : MGs) : MGs := fun vs σ st => match vs with
  | v :: r => (g v σ st).bind fun σ1 st1 => gs r σ1 st1
  | [] => .bad
theorem sgs_nil : SGs K X [] gNil gsNil := by
  refine ⟨pgs_nil, fun ρ st H σ τ v x Q E rs re rv h => ?_⟩
  cases v with
  | nil => cases (show _ = _ from rv); exact ⟨rfl, h.ok .refl rs re⟩
  | cons _ _ => exact h.elim
theorem sgs_cons (h1 : SG K X e t g) (h2 : SGs K X es ts gs) (hs : (assignEach (e :: es) X.env).map (·.2) = assign e X.env :: (assignEach es X.env).map (·.2) := by rfl) : SGs K X (e :: es) (gCons t ts) (gsCons g gs) := by
  refine ⟨pgs_cons h1.pg h2.pg hs, fun ρ st H σ τ v x Q E rs re rv h => ?_⟩
  cases v with
  | nil => exact h.elim
  | cons v r =>
    obtain ⟨y, zs, rfl, r1, r2⟩ := rv
    refine ⟨y, zs, rfl, h1.sd ρ st H σ τ v y _ E rs re r1 (After.bind h fun σ1 st1 ρ1 H1 τ1 _ e1 rs1 re1 hh => ?_)⟩
    exact h2.sd ρ1 st1 H1 σ1 τ1 r zs Q E rs1 re1 (r2.mono e1.pre e1.fz) hh
/-- a tuple of names, nested too -/
def gT (n : Nat) (gs : MGs) : MG := fun v σ st => match v with
  | .tup l => if l.length = n then gs l σ st else .bad
  | _ => .bad
theorem sg_tup {k n : Nat} (hc : X.calm = true) (h : SGs K X es ts gs) (hK : X.K = K := by rfl) (hn : (assignEach es X.env).length = n := by rfl) (hst : (assignEach es X.env).findIdx? (·.1) = none := by rfl) : SG K X (.Tuple es k pos) (gTup K n ts) (gT n gs) := by
  subst hK
  refine ⟨pg_tup hc h.pg hn hst, fun ρ st H σ τ v x Q E rs re rv hh => ?_⟩
  cases v with
  | tup l =>
    obtain ⟨a, xs, rfl, sa, ra⟩ := rv
    have hh : After X.K ρ st H (RE X.K) (if l.length = n then gs l σ st else .bad) Q E := hh
    split at hh
    · rename_i hl
      exact ⟨a, xs, rfl, sqT_mono (fz_same _ _ _) sa, by rw [← ra.length]; exact hl, h.sd ρ st H σ τ l xs Q E rs re ra hh⟩
    · exact hh.elim
  | _ => exact hh.elim
end

/-! ### statements -/
def SndS (K : Frag) (W : WX) (t : TS) (m : MSt) : Prop := ∀ (ρ : Rho) (st : Sto) (H : Hp) (σ : Env) (τ : L2.St) (D : Ends), RS K ρ st H → RE K ρ (Fz ρ st H) σ τ → AfterS K ρ st H (m σ st) D W → t D τ H
structure SS (K : Frag) (W : WX) (X : Cx) (s : Stmt) (t : TS) (m : MSt) : Prop where
  ps : PS X s t
  sd : SndS K W t m
structure SSs (K : Frag) (W : WX) (X : Cx) (s : List Stmt) (t : TS) (m : MSt) : Prop where
  ps : PSs X s t
  sd : SndS K W t m
section
variable {K : Frag} {W : WX} {X : Cx} {pos : Pos} {s : Stmt} {rest : List Stmt} {t u : TS} {m n : MSt} {e : Expr} {te : TE} {me : ME}
def mNext : MSt := fun σ st => .ok (.nx σ) st
def mSeq (m n : MSt) : MSt := fun σ st => (m σ st).next n
def mRet (me : ME) : MSt := fun σ st => (me σ st).go σ fun v st1 => .ok (.rt v) st1
def mRetN : MSt := fun _ st => .ok (.rt .non) st
def mExpr (me : ME) : MSt := fun σ st => (me σ st).go σ fun _ st1 => .ok (.nx σ) st1
def mIfS (c : MT) (m n : MSt) : MSt := fun σ st => (c σ st).go σ fun b st1 => if b = true then m σ st1 else n σ st1
def mNever : MSt := fun _ _ => .bad
def mAsg (me : ME) (g : MG) : MSt := fun σ st => (me σ st).go σ fun v st1 => (g v σ st1).go σ fun σ1 st2 => .ok (.nx σ1) st2
def mBreak : MSt := fun σ st => .ok (.bk σ) st
def mCont : MSt := fun σ st => .ok (.ct σ) st
theorem snd_next : SndS K W tNext mNext := fun ρ st H σ τ D rs re h => h.nx .refl rs re
theorem sss_nil : SSs K W X [] tNext mNext := ⟨pss_nil, snd_next⟩
theorem sss_cons (h1 : SS K W X s t m) (h2 : SSs K W X rest u n) : SSs K W X (s :: rest) (tSeq t u) (mSeq m n) := by
  refine ⟨pss_cons h1.ps h2.ps, fun ρ st H σ τ D rs re h => ?_⟩
  exact h1.sd ρ st H σ τ _ rs re (AfterS.cut h (fun σ1 st1 ρ1 H1 τ1 e1 rs1 re1 hh => h2.sd ρ1 st1 H1 σ1 τ1 D rs1 re1 hh) rfl rfl rfl)
theorem sss_one (h : SS K W X s t m) : SSs K W X [s] t m := ⟨pss_one h.ps, h.sd⟩
theorem ss_pass : SS K W X (.Pass pos) tNext mNext := ⟨ps_pass, snd_next⟩
theorem ss_break : SS K W X (.Break pos) tBreak mBreak := ⟨ps_break, fun ρ st H σ τ D rs re h => h ρ H .refl rs τ re⟩
theorem ss_continue : SS K W X (.Continue pos) tCont mCont := ⟨ps_continue, fun ρ st H σ τ D rs re h => h ρ H .refl rs τ re⟩
theorem ss_never : SS K W X s tNever mNever := ⟨ps_never, fun ρ st H σ τ D rs re h => h⟩
theorem sss_never {l : List Stmt} : SSs K W X l tNever mNever := ⟨pss_never, fun ρ st H σ τ D rs re h => h⟩
theorem ss_expr (h : SE K W X e te me) (hs : swapsWith e none pos.line X.env = pure false := by rfl) : SS K W X (.Expr e pos) (tDrop te) (mExpr me) :=
  ⟨ps_expr h.pe hs, fun ρ st H σ τ D rs re q => h.sd ρ st H σ τ _ rs re (AfterS.go re q fun v st1 ρ1 H1 x e1 rs1 rx re1 hh => hh.nx .refl rs1 re1)⟩
theorem ss_ret (h : SE K W X e te me) : SS K W X (.Return (some e) pos) (tRet te) (mRet me) :=
  ⟨ps_ret h.pe, fun ρ st H σ τ D rs re q => h.sd ρ st H σ τ _ rs re (AfterS.go re q fun v st1 ρ1 H1 x e1 rs1 rx re1 hh => hh.rt .refl rs1 rx)⟩
theorem ss_retN : SS K W X (.Return none pos) tRetN mRetN := ⟨ps_retN, fun ρ st H σ τ D rs re q => q.rt .refl rs (show RV K ρ _ .non _ from rfl)⟩
theorem ss_if {c : Expr} {a b : List Stmt} {tc : TT} {mc : MT} (hc : ST K W X c tc mc) (ha : SSs K W X a t m) (hb : SSs K W X b u n) : SS K W X (.If c a b pos) (tIfS tc t u) (mIfS mc m n) := by
  refine ⟨ps_if hc.pt ha.ps hb.ps, fun ρ st H σ τ D rs re q => ?_⟩
  refine hc.sd ρ st H σ τ _ rs re (AfterS.go re q fun v st1 ρ1 H1 x e1 rs1 rx re1 hh => ?_)
  subst rx
  cases v with
  | true => exact ha.sd ρ1 st1 H1 σ τ D rs1 re1 hh
  | false => exact hb.sd ρ1 st1 H1 σ τ D rs1 re1 hh
theorem snd_asg {g : TG} {gm : MG} (h : SndE K W te me) (hg : SndG K g gm) : SndS K W (tAsg te g) (mAsg me gm) := by
  intro ρ st H σ τ D rs re q
  refine h ρ st H σ τ _ rs re (AfterS.go re q fun v st1 ρ1 H1 x e1 rs1 rx re1 hh => ?_)
  exact hg ρ1 st1 H1 σ τ v x D.nx (fun c d H' => W c d τ H') rs1 re1 rx (AfterS.go re1 hh fun σ2 st2 ρ2 H2 τ2 e2 rs2 re2 _ h2 => h2.nx .refl rs2 re2)
theorem ss_asg {tg : Expr} {g : TG} {gm : MG} (h : SE K W X e te me) (hg : SG K X tg g gm) (hs : swapsWithSole [tg] e pos.line X.env = pure false := by rfl) (hw : swappedStores [tg] e X.env = pure none := by rfl)
    (h1 : (assignEach [tg] X.env).map (·.2) = [assign tg X.env] := by rfl) : SS K W X (.Assign [tg] e pos) (tAsg te g) (mAsg me gm) := ⟨ps_asg h.pe hg.pg hs hw h1, snd_asg h.sd hg.sd⟩
theorem ss_set (i : Nat) {x : Str} {pos' : Pos} (hN : X.N.Nodup) (h : SE K W X e te me) (hi : X.N[i]? = some x := by rfl) (hx : Loc X.env.scope x := by first | exact Or.inl rfl | exact Or.inr rfl) (hs : swapsWith e (some (.Name x pos')) pos.line X.env = pure false := by rfl)
    (hf : X.fn x = true ∨ X.env.scope.names.lookup x = some .local := by first | exact .inl rfl | exact .inr rfl) : SS K W X (.Assign [.Name x pos'] e pos) (tAsg te (gName i)) (mAsg me (gN i)) :=
  ⟨ps_set hN hi hx h.pe hs hf, snd_asg h.sd fun ρ st H σ τ v x Q E rs re rv h => h.ok .refl rs (re.set rv i)⟩
/-- a, b = x, y -/
def mPar (i j : Nat) (ma : MA) : MSt := fun σ st => (ma σ st).go σ fun vs st1 => match vs with
  | [v, w] => .ok (.nx ((σ.set i (some v)).set j (some w))) st1
  | _ => .bad
theorem ss_par (i j : Nat) {x y : Str} {a b : Expr} {ta : TA} {ma : MA} {px py pt pt2 : Pos} {kt k2 : Nat} (hc : X.calm = true) (hN : X.N.Nodup) (ha : SA K W X [a, b] ta ma) (hi : X.N[i]? = some x := by rfl) (hj : X.N[j]? = some y := by rfl) (hij : i ≠ j := by decide)
    (hx : X.env.scope.names.lookup x = some .local := by rfl) (hy : X.env.scope.names.lookup y = some .local := by rfl)
    (hw : swappedStores [.Tuple [.Name x px, .Name y py] kt pt] (.Tuple [a, b] k2 pt2) X.env = pure (some [x, y]) := by rfl)
    (hs : swapsWithSole [.Tuple [.Name x px, .Name y py] kt pt] (.Tuple [a, b] k2 pt2) pos.line X.env = pure false := by rfl) :
    SS K W X (.Assign [.Tuple [.Name x px, .Name y py] kt pt] (.Tuple [a, b] k2 pt2) pos) (tPar i j ta) (mPar i j ma) := by
  refine ⟨ps_par hc hN hi hj hij hx hy ha.pa hw hs, fun ρ st H σ τ D rs re q => ?_⟩
  refine ha.sd ρ st H σ τ _ rs re (AfterS.go re q fun vs st1 ρ1 H1 xs e1 rs1 rx re1 hh => ?_)
  split at hh
  · obtain ⟨p, q, rfl, r1, r2⟩ := RVs.inv2 rx
    exact ⟨p, q, rfl, hh.nx .refl rs1 ((re1.set r1 i).set r2 j)⟩
  · exact hh.elim
def mPar3 (i j l : Nat) (ma : MA) : MSt := fun σ st => (ma σ st).go σ fun vs st1 => match vs with
  | [u, v, w] => .ok (.nx (((σ.set i (some u)).set j (some v)).set l (some w))) st1
  | _ => .bad
theorem ss_par3 (i j l : Nat) {x y z : Str} {a b c : Expr} {ta : TA} {ma : MA} {px py pz pt pt2 : Pos} {kt k2 : Nat} (hc : X.calm = true) (hN : X.N.Nodup) (ha : SA K W X [a, b, c] ta ma) (hi : X.N[i]? = some x := by rfl) (hj : X.N[j]? = some y := by rfl) (hl : X.N[l]? = some z := by rfl)
    (hij : i ≠ j := by decide) (hil : i ≠ l := by decide) (hjl : j ≠ l := by decide)
    (hx : X.env.scope.names.lookup x = some .local := by rfl) (hy : X.env.scope.names.lookup y = some .local := by rfl) (hz : X.env.scope.names.lookup z = some .local := by rfl)
    (hw : swappedStores [.Tuple [.Name x px, .Name y py, .Name z pz] kt pt] (.Tuple [a, b, c] k2 pt2) X.env = pure (some [x, y, z]) := by rfl)
    (hs : swapsWithSole [.Tuple [.Name x px, .Name y py, .Name z pz] kt pt] (.Tuple [a, b, c] k2 pt2) pos.line X.env = pure false := by rfl) :
    SS K W X (.Assign [.Tuple [.Name x px, .Name y py, .Name z pz] kt pt] (.Tuple [a, b, c] k2 pt2) pos) (tPar3 i j l ta) (mPar3 i j l ma) := by
  refine ⟨ps_par3 hc hN hi hj hl hij hil hjl hx hy hz ha.pa hw hs, fun ρ st H σ τ D rs re q => ?_⟩
  refine ha.sd ρ st H σ τ _ rs re (AfterS.go re q fun vs st1 ρ1 H1 xs e1 rs1 rx re1 hh => ?_)
  split at hh
  · obtain ⟨p, r, rfl, r1, r2⟩ := rx
    obtain ⟨q, z, rfl, r2, r3⟩ := RVs.inv2 r2
    exact ⟨p, q, z, rfl, hh.nx .refl rs1 (((re1.set r1 i).set r2 j).set r3 l)⟩
  · exact hh.elim
/-- name += e, of ints -/
def mAug (i : Nat) (f : Val → Val → Sto → Res Val) (me : ME) : MSt := fun σ st => match σ[i]? with
  | some (some v) => (me σ st).go σ fun w st1 => (f v w st1).go σ fun z st2 => .ok (.nx (σ.set i (some z))) st2
  | _ => .bad
theorem ss_aug (i : Nat) {x : Str} {op : Operator} {ti : TIp} {f : Val → Val → Sto → Res Val} {pos' : Pos} (ho : PIp X op ti) (hf' : SndR2 K ti f) (hN : X.N.Nodup) (h : SE K W X e te me) (hi : X.N[i]? = some x := by rfl) (hx : Loc X.env.scope x := by first | exact Or.inl rfl | exact Or.inr rfl)
    (hf : X.fn x = true ∨ X.env.scope.names.lookup x = some .local := by first | exact .inl rfl | exact .inr rfl) : SS K W X (.AugAssign (.Name x pos') op e pos) (tAug i te ti) (mAug i f me) := by
  refine ⟨ps_aug hN hi hx h.pe ho hf, fun ρ st H σ τ D rs re q => ?_⟩
  unfold mAug at q
  split at q
  · rename_i v ev
    obtain ⟨y, e1, ry⟩ := re.get ev
    refine ⟨y, e1, h.sd ρ st H σ τ _ rs re (AfterS.go re q fun w st1 ρ1 H1 x e1 rs1 rx re1 hh => ?_)⟩
    exact hf' ρ1 st1 H1 v w y x _ (fun c d H' => W c d τ H') rs1 (ry.mono e1.pre e1.fz) rx (AfterS.go re1 hh fun z st2 ρ2 H2 x2 e2 rs2 rz re2 h2 => h2.nx .refl rs2 (re2.set rz i))
  · exact q.elim
theorem snd_ipAdd : SndR2 K (fun x y H Q => ∃ i j, x = .int i ∧ y = .int j ∧ Q (.int (i + j)) H) (fun v w st => match v, w with | .int i, .int j => .ok (.int (i + j)) st | _, _ => .bad) := by
  intro ρ st H v w x y Q E rs rx ry h
  cases v with
  | int i => cases w with
    | int j => exact ⟨i, j, rx, ry, h.ok .refl rs rfl⟩
    | _ => exact h.elim
  | _ => exact h.elim
/-- xs[i] = e -/
def setM (o i v : Val) (st : Sto) : Res Unit := match o, i with
  | .loc n, .int k => match st[n]? with
    | some (.lst l) => match ixN l.length k with
      | some j => .ok () (st.set n (.lst (l.set j v)))
      | none => .bad
    | _ => .bad
  | _, _ => .bad
def gIx (mo mi : ME) : MG := fun v σ st => (mo σ st).bind fun o st1 => (mi σ st1).bind fun i st2 => (setM o i v st2).bind fun _ st3 => .ok σ st3
theorem ss_setIx {a b : Expr} {to ti : TE} {mo mi : ME} {pos' : Pos} (h : SE K W X e te me) (ho : SE K W X a to mo) (hi : SE K W X b ti mi) (hs : swapsWithSole [.Subscript a b pos'] e pos.line X.env = pure false := by rfl) (hw : swappedStores [.Subscript a b pos'] e X.env = pure none := by rfl)
    (h1 : (assignEach [.Subscript a b pos'] X.env).map (·.2) = [assign (.Subscript a b pos') X.env] := by rfl)
    (ha : ∀ v, assign (.Subscript a b pos') X.env v = (do
      let ov ← holding [v] (eval a X.env)
      let iv ← holding [v, ov] (eval b X.env)
      standAt pos'
      holding [v, ov, iv] (setItem ov iv v)
      release [v, ov, iv] []) := by intro _; rfl) : SS K W X (.Assign [.Subscript a b pos'] e pos) (tAsg te (gSub to ti rSetL)) (mAsg me (gIx mo mi)) := by
  refine ⟨ps_asg h.pe (pg_sub ho.pe hi.pe set_list ha) hs hw h1, fun ρ st H σ τ D rs re q => ?_⟩
  refine h.sd ρ st H σ τ _ rs re (AfterS.go re q fun v st1 ρ1 H1 x e1 rs1 rx re1 hh => ?_)
  have hh2 := AfterS.go (R := RE K) (Q1 := D.nx) re1 hh fun σ2 st2 ρ2 H2 τ2 e2 rs2 re2 _ h2 => h2.nx .refl rs2 re2
  refine ho.sd ρ1 st1 H1 σ τ _ rs1 re1 (After.bind hh2 fun o st2 ρ2 H2 y _ e2 rs2 ry h2 => ?_)
  have re2 := re1.mono e2.pre e2.fz
  refine hi.sd ρ2 st2 H2 σ τ _ rs2 re2 (After.bind h2 fun i st3 ρ3 H3 z _ e3 rs3 rz h3 => ?_)
  have re3 := re2.mono e3.pre e3.fz
  have rx3 := (rx.mono e2.pre e2.fz).mono e3.pre e3.fz
  have ry3 := ry.mono e3.pre e3.fz
  cases o with
  | loc n =>
    cases i with
    | int k =>
      have h4 : After K ρ3 st3 H3 (RE K) ((match st3[n]? with
        | some (.lst l) => (match ixN l.length k with
          | some j => Res.ok () (st3.set n (.lst (l.set j v)))
          | none => .bad)
        | _ => .bad).bind fun _ st3 => .ok σ st3) D.nx (fun c d H' => W c d τ H') := h3
      split at h4
      · rename_i l hl
        split at h4
        · rename_i j hj
          obtain ⟨a, rfl, ha⟩ := ry3
          obtain ⟨ys, hy, rl⟩ := rs3.ob n _ a hl ha
          obtain ⟨e4, r4⟩ := set_loc rs3 hl ha (rl.set rx3 j)
          exact ⟨a, ys, k, j, rfl, rz, hy, by rw [← rl.length]; exact hj, h4.ok e4 r4 (re3.mono e4.pre e4.fz)⟩
        · exact h4.elim
      · exact h4.elim
    | _ => exact h3.elim
  | _ => exact h3.elim
end
end L3
end

section
set_option Elab.async false
set_option linter.all false
set_option maxRecDepth 100000
set_option maxHeartbeats 400000
/-! L3f: what loops walk, loops, comprehensions, the body of a def. -/
namespace L3
open PySem PySem.Spec PyProof.Rows L2

/-! ### what a loop walks -/
/-- J gives items, one by one, as long as the store keeps -/
def Src (K : Frag) (J : It) (items : List Val) (keep : Sto → Prop) (ρ : Rho) (Hf : Hp) : Prop := ∀ (ρ1 : Rho) (st1 : Sto) (H1 : Hp), ρ.1 <+: ρ1.1 → Same Hf (Fz ρ1 st1 H1) → RS K ρ1 st1 H1 → keep st1 → ∀ i : Nat,
  (∀ v, items[i]? = some v → J.go i H1 ∧ ∀ x H', J.yld i H1 x H' → Ext ρ1 st1 H1 ρ1 st1 H' ∧ RS K ρ1 st1 H' ∧ RV K ρ1 (Fz ρ1 st1 H') v x) ∧ (i = items.length → J.stop i H1)
abbrev MI := Env → Sto → Res (List Val × (Sto → Prop))
def SndI (K : Frag) (W : WX) (t : TI) (m : MI) : Prop := ∀ (ρ : Rho) (st : Sto) (H : Hp) (σ : Env) (τ : L2.St) (R : It → Hp → Prop), RS K ρ st H → RE K ρ (Fz ρ st H) σ τ →
  After K ρ st H (fun ρ' Hf p J => Src K J p.1 p.2 ρ' Hf) (m σ st) R (fun c d H' => W c d τ H') → t τ H R
structure SI (K : Frag) (W : WX) (X : Cx) (tg e : Expr) (t : TI) (m : MI) : Prop where
  pi : PI X tg e t
  sd : SndI K W t m
section
variable {K : Frag} {W : WX} {X : Cx} {tg e : Expr} {te : TE} {me : ME} {ta : TA} {ma : MA} {p pos : Pos}
def always : Sto → Prop := fun _ => True
def keepLs (v : Val) (l : List Val) : Sto → Prop := fun st => lsOf st v = some l
/-- over a list -/
def iLs (me : ME) : MI := fun σ st => (me σ st).bind fun v st1 => match lsOf st1 v with
  | some l => .ok (l, match v with
    | .loc _ => keepLs v l
    | _ => always) st1
  | none => .bad
/-- over a tuple -/
def iTp (me : ME) : MI := fun σ st => (me σ st).bind fun v st1 => match v with
  | .tup l => .ok (l, always) st1
  | _ => .bad
theorem src_list {ρ : Rho} {Hf : Hp} {a : Addr} {l : List Val} {keep : Sto → Prop}
    (h : ∀ (ρ1 : Rho) (st1 : Sto) (H1 : Hp), ρ.1 <+: ρ1.1 → Same Hf (Fz ρ1 st1 H1) → RS K ρ1 st1 H1 → keep st1 → ∃ xs, SqL K H1 a xs ∧ RVs K ρ1 (Fz ρ1 st1 H1) l xs) : Src K (Itl K a) l keep ρ Hf := by
  intro ρ1 st1 H1 e1 e2 rs kp i
  obtain ⟨xs, h1, h2⟩ := h ρ1 st1 H1 e1 e2 rs kp
  refine ⟨fun v hv => ?_, fun hn => ?_⟩
  · obtain ⟨y, hy, ry⟩ := h2.get hv
    refine ⟨⟨xs, y, h1, hy⟩, fun x H' hh => ?_⟩
    obtain ⟨rfl, hx⟩ := hh
    have := hx xs h1
    rw [hy] at this
    cases this
    exact ⟨.refl, rs, ry⟩
  · exact ⟨xs, h1, by rw [← h2.length, hn]; exact Nat.le_refl _⟩
theorem src_tup {ρ : Rho} {Hf : Hp} {a : Addr} {l : List Val} {xs : List V} (h1 : SqT K Hf a xs) (h2 : RVs K ρ Hf l xs) : Src K (Itt K a) l always ρ Hf := by
  intro ρ1 st1 H1 e1 e2 rs kp i
  have h1 := sqT_mono (fz_same _ _ _) (sqT_mono e2 h1)
  have h2 := h2.mono e1 e2
  refine ⟨fun v hv => ?_, fun hn => ?_⟩
  · obtain ⟨y, hy, ry⟩ := h2.get hv
    refine ⟨⟨xs, y, h1, hy⟩, fun x H' hh => ?_⟩
    obtain ⟨rfl, hx⟩ := hh
    have := hx xs h1
    rw [hy] at this
    cases this
    exact ⟨.refl, rs, ry⟩
  · exact ⟨xs, h1, by rw [← h2.length, hn]; exact Nat.le_refl _⟩
/-- a list's place, also later -/
theorem ls_later {ρ : Rho} {st : Sto} {H : Hp} {v : Val} {x : V} {l : List Val} (rs : RS K ρ st H) (h : RV K ρ (Fz ρ st H) v x) (e : lsOf st v = some l) :
    ∃ a xs, x = .ref a ∧ SqL K H a xs ∧ ∀ (ρ1 : Rho) (st1 : Sto) (H1 : Hp), ρ.1 <+: ρ1.1 → Same (Fz ρ st H) (Fz ρ1 st1 H1) → RS K ρ1 st1 H1 → (match v with | .loc _ => keepLs v l | _ => always) st1 → ∃ xs, SqL K H1 a xs ∧ RVs K ρ1 (Fz ρ1 st1 H1) l xs := by
  obtain ⟨a, xs, rfl, sq, rl⟩ := ls_of rs h e
  refine ⟨a, xs, rfl, sq, fun ρ1 st1 H1 e1 e2 rs1 kp => ?_⟩
  cases v with
  | lst l' => obtain ⟨b, ys, q1, q2, q3⟩ := h; cases q1; cases e; exact ⟨ys, .inl (.inl (fz_same _ _ _ _ _ (e2 _ _ q2))), q3.mono e1 e2⟩
  | cst l' => obtain ⟨b, ys, q1, q2, q3⟩ := h; cases q1; cases e; exact ⟨ys, sqL_mono (fz_same _ _ _) (sqL_mono e2 q2), q3.mono e1 e2⟩
  | loc n =>
    have h' : RV K ρ1 (Fz ρ1 st1 H1) (.loc n) (.ref a) := RV.mono e1 e2 h
    obtain ⟨b, ys, q1, q2, q3⟩ := ls_of rs1 h' kp
    cases q1
    exact ⟨ys, q2, q3⟩
  | _ => cases e
theorem si_list (h : SE K W X e te me) (hK : X.K = K := by rfl) : SI K W X tg e (iList K te) (iLs me) := by
  subst hK
  refine ⟨pi_list h.pe, fun ρ st H σ τ R rs re q => ?_⟩
  refine h.sd ρ st H σ τ _ rs re (After.bind q fun v st1 ρ1 H1 x _ e1 rs1 rx h1 => ?_)
  split at h1
  · rename_i l hl
    obtain ⟨a, xs, rfl, sq, later⟩ := ls_later rs1 rx hl
    exact ⟨a, rfl, ⟨xs, sq⟩, h1.ok .refl rs1 (src_list later)⟩
  · exact h1.elim
theorem si_tup (h : SE K W X e te me) (hK : X.K = K := by rfl) : SI K W X tg e (iTup K te) (iTp me) := by
  subst hK
  refine ⟨pi_tup h.pe, fun ρ st H σ τ R rs re q => ?_⟩
  refine h.sd ρ st H σ τ _ rs re (After.bind q fun v st1 ρ1 H1 x _ e1 rs1 rx h1 => ?_)
  cases v with
  | tup l =>
    obtain ⟨a, xs, rfl, sa, ra⟩ := rx
    exact ⟨a, rfl, ⟨xs, sqT_mono (fz_same _ _ _) sa⟩, h1.ok .refl rs1 (src_tup sa ra)⟩
  | _ => exact h1.elim
/-! range -/
/-- nothing ever evaluates it: a kernel that compares runs would count the number down -/
noncomputable def okR (j : Int) : Bool := @decide (-4611686018427387904 ≤ j ∧ j < 4611686018427387904) (Classical.propDecidable _)
theorem okR_iff {j : Int} : okR j = true ↔ -4611686018427387904 ≤ j ∧ j < 4611686018427387904 := by
  unfold okR
  exact @decide_eq_true_iff _ (Classical.propDecidable _)
theorem okR_of {j : Int} (h : okR j = true) : -(2 ^ 62) ≤ j ∧ j < 2 ^ 62 := by
  have h := okR_iff.mp h
  have e : (2 : Int) ^ 62 = 4611686018427387904 := by decide
  rw [e]
  exact h
def rgN (lo : Int) (n : Nat) : List Val := (List.range n).map fun i => Val.int (lo + (i : Nat))
theorem src_range {ρ : Rho} {Hf : Hp} {lo : Int} {n : Nat} : Src K (Itr lo n) (rgN lo n) always ρ Hf := by
  intro ρ1 st1 H1 e1 e2 rs kp i
  unfold rgN
  refine ⟨fun v hv => ?_, fun hn => ?_⟩
  · rw [List.getElem?_map] at hv
    by_cases hi : i < n
    · rw [List.getElem?_range hi] at hv
      cases hv
      refine ⟨hi, fun x H' hh => ?_⟩
      have hh2 : H' = H1 ∧ x = .int (lo + i) := hh
      obtain ⟨h1, h2⟩ := hh2
      subst h1
      subst h2
      exact ⟨.refl, rs, rfl⟩
    · rw [List.getElem?_eq_none (by simpa using hi)] at hv
      cases hv
  · rw [List.length_map, List.length_range] at hn
    exact Nat.le_of_eq hn.symm
noncomputable def iR1 (ma : MA) : MI := fun σ st => (ma σ st).bind fun vs st1 => match vs with
  | [.int j] => if okR j = true then .ok (rgN 0 j.toNat, always) st1 else .bad
  | _ => .bad
noncomputable def iR2 (ma : MA) : MI := fun σ st => (ma σ st).bind fun vs st1 => match vs with
  | [.int i, .int j] => if (okR i && okR j) = true then .ok (rgN i (j - i).toNat, always) st1 else .bad
  | _ => .bad
theorem si_range1 {a : Expr} (hg : Gl X "range") (hm : X.mg "range" = none) (h : SA K W X [a] ta ma) (hs : starEach [a] X.env = [(false, eval a X.env)] := by rfl) : SI K W X tg (.Call (.Name "range" p) [a] [] pos) (iRng1 ta) (iR1 ma) := by
  refine ⟨pi_range1 hg hm h.pa hs, fun ρ st H σ τ R rs re q => ?_⟩
  refine h.sd ρ st H σ τ _ rs re (After.bind q fun vs st1 ρ1 H1 xs _ e1 rs1 rx h1 => ?_)
  split at h1
  · split at h1
    · rename_i hk
      obtain ⟨x, rfl, r1⟩ := RVs.inv1 rx
      cases (show _ = _ from r1)
      exact ⟨_, rfl, (okR_of hk).1, (okR_of hk).2, h1.ok .refl rs1 src_range⟩
    · exact h1.elim
  · exact h1.elim
theorem si_range2 {a b : Expr} (hg : Gl X "range") (hm : X.mg "range" = none) (h : SA K W X [a, b] ta ma) (hs : starEach [a, b] X.env = [(false, eval a X.env), (false, eval b X.env)] := by rfl) (hs2 : starEach [b] X.env = [(false, eval b X.env)] := by rfl) : SI K W X tg (.Call (.Name "range" p) [a, b] [] pos) (iRng2 ta) (iR2 ma) := by
  refine ⟨pi_range2 hg hm h.pa hs hs2, fun ρ st H σ τ R rs re q => ?_⟩
  refine h.sd ρ st H σ τ _ rs re (After.bind q fun vs st1 ρ1 H1 xs _ e1 rs1 rx h1 => ?_)
  split at h1
  · split at h1
    · rename_i hk
      obtain ⟨x, y, rfl, r1, r2⟩ := RVs.inv2 rx
      cases (show _ = _ from r1)
      cases (show _ = _ from r2)
      have h2 := Bool.and_eq_true_iff.mp hk
      exact ⟨_, _, rfl, ⟨(okR_of h2.1).1, (okR_of h2.1).2, (okR_of h2.2).1, (okR_of h2.2).2⟩, h1.ok .refl rs1 src_range⟩
    · exact h1.elim
  · exact h1.elim
/-! the signs of a text -/
def iStrM (me : ME) : MI := fun σ st => (me σ st).bind fun v st1 => match v with
  | .str z => .ok (z.cps.toList.map fun c => Val.str ⟨#[c]⟩, always) st1
  | _ => .bad
theorem src_str {ρ : Rho} {Hf : Hp} {z : Str} : Src K (Its z) (z.cps.toList.map fun c => Val.str ⟨#[c]⟩) always ρ Hf := by
  intro ρ1 st1 H1 e1 e2 rs kp i
  refine ⟨fun v hv => ?_, fun hn => ?_⟩
  · rw [List.getElem?_map, Array.getElem?_toList] at hv
    obtain ⟨c, hc, rfl⟩ := Option.map_eq_some_iff.mp hv
    refine ⟨(Array.getElem?_eq_some_iff.mp hc).1, fun x H' hh => ?_⟩
    obtain ⟨rfl, d, hd, rfl⟩ := hh
    rw [hc] at hd
    cases hd
    exact ⟨.refl, rs, rfl⟩
  · rw [List.length_map, Array.length_toList] at hn
    exact Nat.le_of_eq hn.symm
theorem si_str (h : SE K W X e te me) : SI K W X tg e (iStr te) (iStrM me) := by
  refine ⟨pi_str h.pe, fun ρ st H σ τ R rs re q => ?_⟩
  refine h.sd ρ st H σ τ _ rs re (After.bind q fun v st1 ρ1 H1 x _ e1 rs1 rx h1 => ?_)
  cases v with
  | str z => exact ⟨z, rx, h1.ok .refl rs1 src_str⟩
  | _ => exact h1.elim
end

/-! ### for -/
def loopNext (r : SR) (f : Env → Sto → SR) : SR := match r with
  | .ok (.nx σ) s => f σ s
  | .ok (.ct σ) s => f σ s
  | .ok (.bk σ) s => .ok (.nx σ) s
  | r => r
@[simp] theorem loopNext_nx (σ : Env) (s : Sto) (f : Env → Sto → SR) : loopNext (.ok (.nx σ) s) f = f σ s := rfl
@[simp] theorem loopNext_ct (σ : Env) (s : Sto) (f : Env → Sto → SR) : loopNext (.ok (.ct σ) s) f = f σ s := rfl
@[simp] theorem loopNext_bk (σ : Env) (s : Sto) (f : Env → Sto → SR) : loopNext (.ok (.bk σ) s) f = .ok (.nx σ) s := rfl
@[simp] theorem loopNext_rt (v : Val) (s : Sto) (f : Env → Sto → SR) : loopNext (.ok (.rt v) s) f = .ok (.rt v) s := rfl
@[simp] theorem loopNext_exc (x : Exn) (σ : Env) (s : Sto) (f : Env → Sto → SR) : loopNext (.exc x σ s) f = .exc x σ s := rfl
@[simp] theorem loopNext_bad (f : Env → Sto → SR) : loopNext .bad f = .bad := rfl
open Classical in
noncomputable def forM (keep : Sto → Prop) (g : MG) (body : MSt) : List Val → Env → Sto → SR
  | [], σ, st => if keep st then .ok (.nx σ) st else .bad
  | v :: l, σ, st => if keep st then (g v σ st).go σ fun σ1 st1 => loopNext (body σ1 st1) fun σ2 st2 => forM keep g body l σ2 st2 else .bad
noncomputable def mFor (mi : MI) (g : MG) (body : MSt) : MSt := fun σ st => (mi σ st).go σ fun p st1 => forM p.2 g body p.1 σ st1
theorem AfterS.loop {K : Frag} {ρ : Rho} {st : Sto} {H : Hp} {W : WX} {D : Ends} {N : L2.St → Hp → Prop} {r : SR} {f : Env → Sto → SR} (h : AfterS K ρ st H (loopNext r f) D W)
    (k : ∀ σ st1 ρ1 H1 τ, Ext ρ st H ρ1 st1 H1 → RS K ρ1 st1 H1 → RE K ρ1 (Fz ρ1 st1 H1) σ τ → AfterS K ρ1 st1 H1 (f σ st1) D W → N τ H1) : AfterS K ρ st H r { D with nx := N, ct := N, bk := D.nx } W := by
  cases r with
  | ok fl s =>
    cases fl with
    | nx σ => exact fun ρ' H' e rs τ re => k σ s ρ' H' τ e rs re (AfterS.shift h e)
    | ct σ => exact fun ρ' H' e rs τ re => k σ s ρ' H' τ e rs re (AfterS.shift h e)
    | bk σ => exact fun ρ' H' e rs τ re => h ρ' H' e rs τ re
    | rt v => exact fun ρ' H' e rs x rv => h ρ' H' e rs x rv
  | exc a σ s => exact h
  | bad => exact h
section
variable {K : Frag} {W : WX} {X : Cx} {tg it : Expr} {body : List Stmt} {wi : TI} {mi : MI} {g : TG} {gm : MG} {tb : TS} {mb : MSt} {pos : Pos}
theorem snd_for (hi : SndI K W wi mi) (hg : SndG K g gm) (hb : SndS K W tb mb) : SndS K W (tFor wi g tb) (mFor mi gm mb) := by
  intro ρ st H σ τ D rs re q
  refine hi ρ st H σ τ _ rs re (AfterS.go re q fun p st1 ρ1 H1 J e1 rs1 src re1 hh => ?_)
  obtain ⟨items, keep⟩ := p
  refine ⟨fun i m τ H => ∃ ρ' st' σ', Ext ρ1 st1 H1 ρ' st' H ∧ RS K ρ' st' H ∧ RE K ρ' (Fz ρ' st' H) σ' τ ∧ AfterS K ρ' st' H (forM keep gm mb (items.drop i) σ' st') D W ∧ m = items.length - i ∧ i ≤ items.length,
    ⟨items.length, ρ1, st1, σ, .refl, rs1, re1, hh, rfl, Nat.zero_le _⟩, ?_⟩
  rintro i m τ2 H2 ⟨ρ2, st2, σ2, e2, rs2, re2, h2, rfl, hle⟩
  cases hn : items[i]? with
  | none =>
    have hd : items.drop i = [] := List.drop_eq_nil_of_le (List.getElem?_eq_none_iff.mp hn)
    rw [hd] at h2
    unfold forM at h2
    split at h2
    · rename_i hk
      exact .inl ⟨(src ρ2 st2 H2 e2.pre e2.fz rs2 hk i).2 (Nat.le_antisymm hle (List.getElem?_eq_none_iff.mp hn)), h2.nx .refl rs2 re2⟩
    · exact h2.elim
  | some v =>
    obtain ⟨hlt, hv⟩ := List.getElem?_eq_some_iff.mp hn
    have hd : items.drop i = v :: items.drop (i + 1) := by rw [List.drop_eq_getElem_cons hlt, hv]
    rw [hd] at h2
    unfold forM at h2
    split at h2
    · rename_i hk
      obtain ⟨go, yl⟩ := (src ρ2 st2 H2 e2.pre e2.fz rs2 hk i).1 v hn
      refine .inr ⟨go, fun τ' H' => ∃ ρ' st' σ', Ext ρ1 st1 H1 ρ' st' H' ∧ RS K ρ' st' H' ∧ RE K ρ' (Fz ρ' st' H') σ' τ' ∧ AfterS K ρ' st' H' (forM keep gm mb (items.drop (i + 1)) σ' st') D W, fun τ' H' h' => ?_, fun x H' hy => ?_⟩
      · obtain ⟨ρ', st', σ', a, b, c, d⟩ := h'
        exact ⟨items.length - (i + 1), by omega, ρ', st', σ', a, b, c, d, rfl, hlt⟩
      · obtain ⟨e3, rs3, rv⟩ := yl x H' hy
        have re3 := re2.mono e3.pre e3.fz
        refine hg ρ2 st2 H' σ2 τ2 v x _ (fun c d H' => W c d τ2 H') rs3 re3 rv (AfterS.go re3 (h2.shift e3) fun σ4 st4 ρ4 H4 τ4 e4 rs4 re4 _ h4 => ?_)
        exact hb ρ4 st4 H4 σ4 τ4 _ rs4 re4 (AfterS.loop h4 fun σ5 st5 ρ5 H5 τ5 e5 rs5 re5 h5 => ⟨ρ5, st5, σ5, e2.trans (e3.trans (e4.trans e5)), rs5, re5, h5⟩)
    · exact h2.elim
theorem ss_for (hp : PassesOwn (model X.prog X.w) X.A X.env X.xe) (hi : SI K W X tg it wi mi) (hg : SG K X tg g gm) (hb : SSs K W X body tb mb) (hc : X.calm = true := by rfl) (hs : ∀ x, foldedSetIterable it X.env x = pure x := by intro _; rfl) : SS K W X (.For tg it body [] pos) (tFor wi g tb) (mFor mi gm mb) :=
  ⟨ps_for hp hc hi.pi hg.pg hb.ps hs, snd_for hi.sd hg.sd hb.sd⟩
/-! ### while -/
def whileN (c : MT) (body : MSt) : Nat → Env → Sto → SR
  | 0, _, _ => .bad
  | n + 1, σ, st => (c σ st).go σ fun b st1 => if b = true then loopNext (body σ st1) fun σ2 st2 => whileN c body n σ2 st2 else .ok (.nx σ) st1
theorem ss_while (n : Nat) {c : Expr} {tc : TT} {mc : MT} (hp : PassesOwn (model X.prog X.w) X.A X.env X.xe) (hc : ST K W X c tc mc) (hb : SSs K W X body tb mb) : SS K W X (.While c body [] pos) (tWhile tc tb) (whileN mc mb n) := by
  refine ⟨ps_while hp hc.pt hb.ps, fun ρ st H σ τ D rs re q => ?_⟩
  refine ⟨fun m τ H => ∃ ρ' st' σ', RS K ρ' st' H ∧ RE K ρ' (Fz ρ' st' H) σ' τ ∧ AfterS K ρ' st' H (whileN mc mb m σ' st') D W, ⟨n, ρ, st, σ, rs, re, q⟩, ?_⟩
  rintro m τ2 H2 ⟨ρ2, st2, σ2, rs2, re2, h2⟩
  cases m with
  | zero => exact h2.elim
  | succ m =>
    unfold whileN at h2
    refine hc.sd ρ2 st2 H2 σ2 τ2 _ rs2 re2 (AfterS.go re2 h2 fun b st3 ρ3 H3 b' e3 rs3 eb re3 h3 => ?_)
    subst eb
    cases b with
    | true =>
      refine ⟨fun τ' H' => ∃ ρ' st' σ', RS K ρ' st' H' ∧ RE K ρ' (Fz ρ' st' H') σ' τ' ∧ AfterS K ρ' st' H' (whileN mc mb m σ' st') D W, fun τ' H' h' => ⟨m, Nat.lt_succ_self m, h'⟩, ?_⟩
      exact hb.sd ρ3 st3 H3 σ2 τ2 _ rs3 re3 (AfterS.loop h3 fun σ5 st5 ρ5 H5 τ5 e5 rs5 re5 h5 => ⟨ρ5, st5, σ5, rs5, re5, h5⟩)
    | false => exact h3.nx .refl rs3 re3
end

/-! ### a def -/
def runB (m : MSt) (N n : Nat) (as : List Val) (st : Sto) : Res Val := if as.length = n then (match m (as.map some ++ List.replicate (N - n) none) st with
  | .ok (.rt v) s => .ok v s
  | .ok (.nx _) s => .ok .non s
  | .ok _ _ => .bad
  | .exc x _ s => .exc x s
  | .bad => .bad) else .bad
theorem fnG_mk {P : Program} {w : World} {K : Frag} {mg : Str → Option Value} {base : Heap} {x qual : Str} {params : Arguments} {body : List Stmt} {scope : Scope} {dvs : List V} {kws : List (Str × V)} {f : Addr} {fd : FuncData} {ps N : List Str} {k : Nat} {m : MSt}
    (F : FunD K x qual params body scope dvs kws f fd) (S : FnScope N ps scope)
    (hb : ∀ (cd : Value) (A : Around) (fs : List PySem.Env) (s : Shared) (H : Hp) (E : XK), Room k (cxG P w K mg base N qual scope f cd A fs s H E).A → (cxG P w K mg base N qual scope f cd A fs s H E).A.guards = some [] →
      Takes (cxG P w K mg base N qual scope f cd A fs s H E) (fun c d _ H' => E c d H') → PassesOwn (model P w) (cxG P w K mg base N qual scope f cd A fs s H E).A (cxG P w K mg base N qual scope f cd A fs s H E).env (cxG P w K mg base N qual scope f cd A fs s H E).xe →
      ∃ t, SSs K (fun c d _ H' => E c d H') (cxG P w K mg base N qual scope f cd A fs s H E) body t m) : FnG P w K mg base (k + 1) f fd ps (spF K (runB m N.length ps.length)) := by
  refine fnG_of F S ?_ ?_
  · rintro vs H Q E ⟨ρ, st, as, rs, ra, h⟩
    unfold runB at h
    split at h
    · rename_i hl
      rw [← ra.length]
      exact hl
    · exact h.elim
  · rintro cd A fs s H vs Q E hg hr ⟨ρ, st, as, rs, ra, h⟩
    obtain ⟨t, h2⟩ := hb cd A fs s H E hr (by rw [show (cxG P w K mg base N qual scope f cd A fs s H E).A = A.deeper (envOfC qual scope s.heap.objs.size f cd) from rfl]; exact hg)
      (takes_of rfl rfl rfl rfl) (passes_of (X := cxG P w K mg base N qual scope f cd A fs s H E) rfl)
    refine ⟨t, h2.ps, ?_⟩
    unfold runB at h
    split at h
    · rename_i hl
      have hlen : vs.length = ps.length := by rw [← ra.length]; exact hl
      have es : L2.start N vs = vs.map some ++ List.replicate (N.length - ps.length) none := by unfold L2.start; rw [hlen]
      rw [es]
      refine h2.sd ρ st H _ _ _ rs (RE.args ra) ?_
      cases hm : m (as.map some ++ List.replicate (N.length - ps.length) none) st with
      | ok fl s =>
        rw [hm] at h
        cases fl with
        | nx σ => exact fun ρ' H' e rs' τ re => h ρ' H' .non e rs' rfl
        | rt v => exact fun ρ' H' e rs' x rv => h ρ' H' x e rs' rv
        | bk σ => exact h.elim
        | ct σ => exact h.elim
      | exc a σ s =>
        rw [hm] at h
        exact fun ρ' H' c d τ e rs' _ rx => h ρ' H' c d e rs' rx
      | bad => rw [hm] at h; exact h.elim
    · exact h.elim
end L3
end

section
set_option Elab.async false
set_option linter.all false
set_option maxRecDepth 100000
set_option maxHeartbeats 1000000
/-! L3z: zip(a, b, strict=True), at the library's level. -/
namespace L3
open PySem
open PySem.Sem (wp)
abbrev strictW : Str := Str.ofString "strict"
theorem typeCall_zipS (a b : Value) : checkTypeCall "zip" ⟨[a, b], [(strictW, .bool true)]⟩ = pure () := by kernel_rfl
theorem newCall_zipS (a b : Value) : checkBuiltinCall "zip.__new__" ⟨[.type "zip", a, b], [(strictW, .bool true)]⟩ = pure () := by kernel_rfl
theorem args_initS (o a b : Value) : argsOk "object.__init__" ⟨[o, a, b], [(strictW, .bool true)]⟩ := by
  unfold argsOk
  kernel_rfl
/-- a zip that is strict -/
abbrev IsZipS (h : Heap) (z TI TO : Addr) (f0 : Value) : Prop := h.get? z = some { cls := .type "zip", data := .fields #[f0, .bool false, .bool true, .ref TI, .ref TO] }
abbrev zsZ (h : Heap) (o1 o2 : Obj) : Heap := (gzO2 h o1 o2).push { cls := .type "zip", data := .fields #[.none, .bool false, .bool true, .ref ((h.push o1).push o2).objs.size, .ref (gzT2 h o1 o2).objs.size] }
theorem meets_zipS {v1 v2 : Value} {o1 o2 : Obj} {H1 H2 : Heap → Prop} (B1 : Begins v1 o1 H1) (B2 : Begins v2 o2 H2) :
    Meets (Builtin.«zip.__new__» ⟨[.type "zip", v1, v2], [(strictW, .bool true)]⟩) fun _ R s => (H1 s.heap ∧ H2 s.heap) ∧ R (.ok (.ret (.ref (gzO2 s.heap o1 o2).objs.size))) { s with heap := zsZ s.heap o1 o2 } :=
  .of_wp fun prog w A R s h => by
    obtain ⟨hp, g, d, tk, os⟩ := s
    obtain ⟨⟨h1, h2⟩, h⟩ := h
    have hsub := sub_zip
    have p1 : ∀ {A' : Around} {E : Value → Shared → Prop} {Q : Value → Shared → Prop}, Q (.ref hp.objs.size) ⟨hp.push o1, g, d, tk, os⟩ → wpAny (model prog w) A' (pyIter v1) Q E ⟨hp, g, d, tk, os⟩ := fun q => B1.iter prog w _ _ ⟨hp, g, d, tk, os⟩ _ h1 q
    have p2 : ∀ {A' : Around} {E : Value → Shared → Prop} {Q : Value → Shared → Prop}, Q (.ref (hp.push o1).objs.size) ⟨(hp.push o1).push o2, g, d, tk, os⟩ → wpAny (model prog w) A' (pyIter v2) Q E ⟨hp.push o1, g, d, tk, os⟩ := fun q =>
      B2.iter prog w _ _ ⟨hp.push o1, g, d, tk, os⟩ _ (B2.keeps _ _ h2 fun b o' e => Heap.get?_push_of_some _ e) q
    have e1 : (strictW == ("strict" : Str)) = true := by decide +kernel
    have e2 : (strictW != ("strict" : Str)) = false := by decide +kernel
    wp_walk using p1, p2
    exact ⟨_, rfl, h⟩
/-- enumerate(v), v of any kind -/
theorem meets_enumB {v : Value} {o : Obj} {H : Heap → Prop} (B : Begins v o H) :
    Meets (Builtin.«enumerate.__new__» ⟨[.type "enumerate", v], []⟩) fun _ R s => H s.heap ∧ R (.ok (.ret (.ref (s.heap.push o).objs.size))) { s with heap := (s.heap.push o).push { cls := .type "enumerate", data := .fields #[.none, .bool false, .ref s.heap.objs.size, rawInt 0, .none, .none] } } :=
  .of_wp fun prog w A R s h => by
    obtain ⟨hp, g, d, tk, os⟩ := s
    obtain ⟨h1, h⟩ := h
    have hsub := sub_enumerate
    have p1 : ∀ {A' : Around} {E : Value → Shared → Prop} {Q : Value → Shared → Prop}, Q (.ref hp.objs.size) ⟨hp.push o, g, d, tk, os⟩ → wpAny (model prog w) A' (pyIter v) Q E ⟨hp, g, d, tk, os⟩ := fun q => B.iter prog w _ _ ⟨hp, g, d, tk, os⟩ _ h1 q
    wp_walk using p1
    refine wpAny_stack_any fun st => wpAny_pure ?_
    split
    · rename_i c _ _ _ _ _
      cases (c == Value.type "enumerate") <;> (wp_walk using p1; exact ⟨_, rfl, h⟩)
    · wp_walk using p1
      exact ⟨_, rfl, h⟩
section
variable {prog : Program} {w : World} {A : Around} {E : Value → Shared → Prop} {s : Shared}
theorem enum_beginsB {v : Value} {o : Obj} {H : Heap → Prop} {Q : Value → Shared → Prop} (B : Begins v o H) (h1 : H s.heap)
    (h : ∀ h', IsEnum h' (s.heap.objs.size + 1) s.heap.objs.size 0 .none → h'.get? s.heap.objs.size = some o → (∀ b o, s.heap.get? b = some o → h'.get? b = some o) → Q (.ref (s.heap.objs.size + 1)) { s with heap := h' }) :
    wpAny (model prog w) A (call (.type "enumerate") [v]) Q E s := by
  refine callType_new F.called_enumerate (by decide) (F.typeCall_enumerate_1 _) (F.newCall_enumerate_1 _) (fun obj => F.args_object_init_2 obj _) F.entry_enumerate_new (meets_enumB B) ⟨h1, ?_⟩
  have n1 : (s.heap.push o).objs.size = s.heap.objs.size + 1 := Heap.size_push ..
  have he : IsEnum ((s.heap.push o).push { cls := .type "enumerate", data := .fields #[.none, .bool false, .ref s.heap.objs.size, rawInt 0, .none, .none] }) (s.heap.push o).objs.size s.heap.objs.size 0 .none := Heap.get?_push_size _ rfl
  rw [n1] at he
  show _ ∧ _
  rw [n1]
  exact ⟨⟨_, he, rfl⟩, h _ he (Heap.get?_push_of_some _ (Heap.get?_push_size _ B.free)) fun b o e => Heap.get?_push_of_some _ (Heap.get?_push_of_some _ e)⟩
theorem zip_beginsS {v1 v2 : Value} {o1 o2 : Obj} {H1 H2 : Heap → Prop} {Q : Value → Shared → Prop} (B1 : Begins v1 o1 H1) (B2 : Begins v2 o2 H2) (h1 : H1 s.heap) (h2 : H2 s.heap)
    (h : ∀ h', IsZipS h' (s.heap.objs.size + 4) (s.heap.objs.size + 2) (s.heap.objs.size + 3) .none → IsTupOf2 h' (s.heap.objs.size + 2) (.ref s.heap.objs.size) (.ref (s.heap.objs.size + 1)) → IsTupOf2 h' (s.heap.objs.size + 3) .none .none →
      h'.get? s.heap.objs.size = some o1 → h'.get? (s.heap.objs.size + 1) = some o2 → (∀ c o, s.heap.get? c = some o → h'.get? c = some o) → Q (.ref (s.heap.objs.size + 4)) { s with heap := h' }) :
    wpAny (model prog w) A (call (.type "zip") [v1, v2] [(strictW, .bool true)]) Q E s := by
  refine callType_newKw F.called_zip (by decide) (typeCall_zipS _ _) (newCall_zipS _ _) (fun o => args_initS o _ _) F.entry_zip_new (meets_zipS B1 B2) ⟨⟨h1, h2⟩, ?_⟩
  have n1 : (s.heap.push o1).objs.size = s.heap.objs.size + 1 := Heap.size_push ..
  have n2 : ((s.heap.push o1).push o2).objs.size = s.heap.objs.size + 2 := by rw [Heap.size_push, n1]
  have nT : (gzT2 s.heap o1 o2).objs.size = s.heap.objs.size + 3 := by rw [Heap.size_push, n2]
  have nO : (gzO2 s.heap o1 o2).objs.size = s.heap.objs.size + 4 := by rw [Heap.size_push, nT]
  have gZ : IsZipS (zsZ s.heap o1 o2) (gzO2 s.heap o1 o2).objs.size ((s.heap.push o1).push o2).objs.size (gzT2 s.heap o1 o2).objs.size .none := Heap.get?_push_size _ rfl
  have gO : IsTupOf2 (zsZ s.heap o1 o2) (gzT2 s.heap o1 o2).objs.size .none .none := Heap.get?_push_of_some _ (Heap.get?_push_size _ rfl)
  have gT : IsTupOf2 (zsZ s.heap o1 o2) ((s.heap.push o1).push o2).objs.size (.ref s.heap.objs.size) (.ref (s.heap.push o1).objs.size) := Heap.get?_push_of_some _ (Heap.get?_push_of_some _ (Heap.get?_push_size _ rfl))
  have up2 : ∀ c o, ((s.heap.push o1).push o2).get? c = some o → (zsZ s.heap o1 o2).get? c = some o := fun c o e => Heap.get?_push_of_some _ (Heap.get?_push_of_some _ (Heap.get?_push_of_some _ e))
  have g1 : (zsZ s.heap o1 o2).get? s.heap.objs.size = some o1 := up2 _ _ (Heap.get?_push_of_some _ (Heap.get?_push_size _ B1.free))
  have g2 : (zsZ s.heap o1 o2).get? (s.heap.push o1).objs.size = some o2 := up2 _ _ (Heap.get?_push_size _ B2.free)
  rw [nO, nT, n2] at gZ
  rw [nT] at gO
  rw [n2, n1] at gT
  rw [n1] at g2
  show _ ∧ _
  rw [nO]
  exact ⟨⟨_, gZ, rfl⟩, h _ gZ gT gO g1 g2 fun c o e => up2 _ _ (Heap.get?_push_of_some _ (Heap.get?_push_of_some _ e))⟩
end
end L3
end

section
set_option Elab.async false
set_option linter.all false
set_option maxRecDepth 100000
set_option maxHeartbeats 1000000
/-! L3z2: its turns and its end. -/
namespace L3
open PySem
open PySem.Sem (wp)
section
variable {prog : Program} {w : World} {A : Around} {E : Value → Shared → Prop} {s : Shared} {z TI TO i1 i2 : Addr} {fp1 fp2 : List Addr} {n1 n2 i : Nat} {P1 P2 : Nat → Value → Prop} {St1 St2 : Nat → Heap → Prop} {a1 a2 : Value}
theorem zipS_item {Q : Value → Shared → Prop} (S : ZipSep2 z TI TO i1 i2 fp1 fp2) (D1 : Draws prog w A i1 fp1 n1 P1 St1) (D2 : Draws prog w A i2 fp2 n2 P2 St2) (hz : IsZipS s.heap z TI TO .none) (hTI : IsTupOf2 s.heap TI (.ref i1) (.ref i2)) (hTO : IsTupOf2 s.heap TO a1 a2)
    (st1 : St1 i s.heap) (st2 : St2 i s.heap) (l1 : i < n1) (l2 : i < n2)
    (hQ : ∀ x1 x2 h' tk, P1 i x1 → P2 i x2 → IsZipS h' z TI TO (rawInt s.heap.objs.size) → IsTupOf2 h' TO x1 x2 → St1 (i + 1) h' → St2 (i + 1) h' → IsTupOf2 h' s.heap.objs.size x1 x2 →
      (∀ c o, c ≠ z → c ≠ TO → c ≠ i1 → c ≠ i2 → s.heap.get? c = some o → h'.get? c = some o) → Q (.ref s.heap.objs.size) { s with heap := h', toks := tk }) :
    wpAny (model prog w) A (Builtin.«zip.__next__» ⟨[.ref z], []⟩) (fun fin s' => ∃ v, fin = .done (.ret v) ∧ Q v s') E s := by
  obtain ⟨hp, g, d, k0, os⟩ := s
  show wpAny _ _ (field (.ref z) 2 >>= _) _ _ _
  refine wpAny_bind (wpAny_field (o := { cls := .type "zip", data := .fields #[.none, .bool false, .bool true, .ref TI, .ref TO] }) hz rfl (x := .bool true) rfl ?_)
  show wpAny _ _ (field (.ref z) 3 >>= _) _ _ _
  refine wpAny_bind (wpAny_field (o := { cls := .type "zip", data := .fields #[.none, .bool false, .bool true, .ref TI, .ref TO] }) hz rfl (x := .ref TI) rfl ?_)
  refine wpAny_bind (wpAny_seqItems hTI rfl ?_)
  show wpAny _ _ (Builtin.SmallTypes.ownedTupleIsFree (.ref z) >>= _) _ _ _
  refine wpAny_bind ?_
  unfold Builtin.SmallTypes.ownedTupleIsFree
  refine wpAny_bind (wpAny_field (o := { cls := .type "zip", data := .fields #[.none, .bool false, .bool true, .ref TI, .ref TO] }) hz rfl (x := .none) rfl (wpAny_pure ?_))
  simp only [if_true]
  refine wpAny_bind (wpAny_rule (wpAny_bind (wpAny_field (o := { cls := .type "zip", data := .fields #[.none, .bool false, .bool true, .ref TI, .ref TO] }) hz rfl (x := .ref TO) rfl ?_)))
  refine wpAny_bind (wpAny_setField_rec hz (by simp) fun y0 z0 b0 => ?_)
  replace z0 : IsZipS y0 z TI TO .ellipsis := z0
  replace b0 : Heap.SameBut z hp y0 := b0
  refine wpAny_bind ?_
  simp only [List.zipIdx_cons, List.zipIdx_nil, List.forIn_cons, List.forIn_nil]
  refine wpAny_bind (wpAny_bind (wpAny_onRaise ?_))
  show wpAny _ _ (Builtin.SmallTypes.nextOrEnd (.ref i1)) _ _ ⟨y0, g, d, k0, os⟩
  unfold Builtin.SmallTypes.nextOrEnd
  refine wpAny_bind (wpAny_attempt (D1.item i _ _ _ l1 (D1.over st1 b0 S.zf1) fun x1 u1 k1 q1 t1 c1 => wpAny_pure ?_))
  replace c1 : Heap.SameBut i1 y0 u1 := c1
  have o1 : IsTupOf2 u1 TO a1 a2 := c1.extBut _ _ S.Ti1 (b0.extBut _ _ S.TOz hTO)
  refine wpAny_bind (wpAny_seqItems (s := ⟨u1, g, d, k1, os⟩) o1 rfl (wpAny_bind (updateSeq_IsTupOf2 (s := ⟨u1, g, d, k1, os⟩) o1 fun y1 p1 b1 => ?_)))
  replace p1 : IsTupOf2 y1 TO x1 a2 := p1
  replace b1 : Heap.SameBut TO u1 y1 := b1
  refine wpAny_bind (wpAny_letGo (wpAny_pure (wpAny_bind (wpAny_bind (wpAny_onRaise ?_)))))
  show wpAny _ _ (Builtin.SmallTypes.nextOrEnd (.ref i2)) _ _ ⟨y1, g, d, k1, os⟩
  unfold Builtin.SmallTypes.nextOrEnd
  refine wpAny_bind (wpAny_attempt (D2.item i _ _ _ l2 (D2.over (D2.over (D2.over st2 b0 S.zf2) c1 S.sep1_2) b1 S.Tf2) fun x2 u2 k2 q2 t2 c2 => wpAny_pure ?_))
  replace c2 : Heap.SameBut i2 y1 u2 := c2
  have o2 : IsTupOf2 u2 TO x1 a2 := c2.extBut _ _ S.Ti2 p1
  refine wpAny_bind (wpAny_seqItems (s := ⟨u2, g, d, k2, os⟩) o2 rfl (wpAny_bind (updateSeq_IsTupOf2 (s := ⟨u2, g, d, k2, os⟩) o2 fun y2 p2 b2 => ?_)))
  replace p2 : IsTupOf2 y2 TO x1 x2 := p2
  replace b2 : Heap.SameBut TO u2 y2 := b2
  refine wpAny_bind (wpAny_letGo (wpAny_pure (wpAny_pure (wpAny_bind (wpAny_seqItems (s := ⟨y2, g, d, k2, os⟩) p2 rfl (wpAny_bind (wpAny_newTuple ?_)))))))
  have sz : y2.objs.size = hp.objs.size := by rw [b2.1, c2.1, b1.1, c1.1, b0.1]
  have zz : IsZipS y2 z TI TO .ellipsis := b2.extBut _ _ S.TOz.symm (c2.extBut _ _ S.zi2 (b1.extBut _ _ S.TOz.symm (c1.extBut _ _ S.zi1 z0)))
  have kk : ∀ c o, c ≠ z → c ≠ TO → c ≠ i1 → c ≠ i2 → hp.get? c = some o → y2.get? c = some o := fun c o n1 n2 n3 n4 e => b2.extBut _ _ n2 (c2.extBut _ _ n4 (b1.extBut _ _ n2 (c1.extBut _ _ n3 (b0.extBut _ _ n1 e))))
  have j1 : St1 (i + 1) y2 := D1.over (D1.over (D1.over t1 b1 S.Tf1) c2 S.sep2_1) b2 S.Tf1
  have j2 : St2 (i + 1) y2 := D2.over t2 b2 S.Tf2
  have zlt : z < y2.objs.size := Heap.lt_size zz
  show wpAny _ _ (Builtin.SmallTypes.ownedTupleHandOut (.ref z) (.ref y2.objs.size) >>= _) _ _ ⟨y2.push { cls := .type "tuple", data := .seq #[x1, x2] }, g, d, k2, os⟩
  refine wpAny_bind ?_
  unfold Builtin.SmallTypes.ownedTupleHandOut
  have z6 : IsZipS (y2.push { cls := .type "tuple", data := .seq #[x1, x2] }) z TI TO .ellipsis := Heap.get?_push_of_some _ zz
  refine wpAny_bind (wpAny_setField_rec z6 (by simp) fun y7 z7 b7 => ?_)
  replace z7 : IsZipS y7 z TI TO (rawInt y2.objs.size) := z7
  refine wpAny_setField_rec z7 (by simp) fun y8 z8 b8 => ?_
  replace z8 : IsZipS y8 z TI TO (rawInt y2.objs.size) := z8
  replace b7 : Heap.SameBut z (y2.push { cls := .type "tuple", data := .seq #[x1, x2] }) y7 := b7
  replace b8 : Heap.SameBut z y7 y8 := b8
  have up : ∀ c o, c ≠ z → y2.get? c = some o → y8.get? c = some o := fun c o n e => b8.extBut _ _ n (b7.extBut _ _ n (Heap.get?_push_of_some _ e))
  have T8 : IsTupOf2 y8 y2.objs.size x1 x2 := b8.extBut _ _ (Nat.ne_of_gt zlt) (b7.extBut _ _ (Nat.ne_of_gt zlt) (Heap.get?_push_size _ rfl))
  rw [sz] at z8 T8
  refine wpAny_pure ⟨_, rfl, ?_⟩
  show Q (.ref y2.objs.size) ⟨y8, g, d, k2, os⟩
  rw [sz]
  exact hQ x1 x2 y8 k2 q1 q2 z8 (up _ _ S.TOz p2) (D1.frame _ _ _ j1 fun b hb o e => up b o (fun q => S.zf1 (q ▸ hb)) e) (D2.frame _ _ _ j2 fun b hb o e => up b o (fun q => S.zf2 (q ▸ hb)) e) T8 fun c o n1 n2 n3 n4 e => up c o n1 (kk c o n1 n2 n3 n4 e)
theorem zipS_end {Q : Fin → Shared → Prop} (hh : A.handled = none) (S : ZipSep2 z TI TO i1 i2 fp1 fp2) (D1 : Draws prog w A i1 fp1 n1 P1 St1) (D2 : Draws prog w A i2 fp2 n2 P2 St2) (hz : IsZipS s.heap z TI TO .none) (hTI : IsTupOf2 s.heap TI (.ref i1) (.ref i2)) (hTO : IsTupOf2 s.heap TO a1 a2)
    (st1 : St1 n1 s.heap) (st2 : St2 n2 s.heap)
    (hE : ∀ h' e, (∀ c o, c ≠ z → c ≠ TO → c ≠ i1 → c ≠ i2 → s.heap.get? c = some o → h'.get? c = some o) → (∃ o, h'.get? e = some o ∧ o.cls = .type "StopIteration") → E (.ref e) { s with heap := h' }) :
    wpAny (model prog w) A (Builtin.«zip.__next__» ⟨[.ref z], []⟩) Q E s := by
  obtain ⟨hp, g, d, k0, os⟩ := s
  show wpAny _ _ (field (.ref z) 2 >>= _) _ _ _
  refine wpAny_bind (wpAny_field (o := { cls := .type "zip", data := .fields #[.none, .bool false, .bool true, .ref TI, .ref TO] }) hz rfl (x := .bool true) rfl ?_)
  show wpAny _ _ (field (.ref z) 3 >>= _) _ _ _
  refine wpAny_bind (wpAny_field (o := { cls := .type "zip", data := .fields #[.none, .bool false, .bool true, .ref TI, .ref TO] }) hz rfl (x := .ref TI) rfl ?_)
  refine wpAny_bind (wpAny_seqItems hTI rfl ?_)
  show wpAny _ _ (Builtin.SmallTypes.ownedTupleIsFree (.ref z) >>= _) _ _ _
  refine wpAny_bind ?_
  unfold Builtin.SmallTypes.ownedTupleIsFree
  refine wpAny_bind (wpAny_field (o := { cls := .type "zip", data := .fields #[.none, .bool false, .bool true, .ref TI, .ref TO] }) hz rfl (x := .none) rfl (wpAny_pure ?_))
  simp only [if_true]
  refine wpAny_bind (wpAny_rule (wpAny_bind (wpAny_field (o := { cls := .type "zip", data := .fields #[.none, .bool false, .bool true, .ref TI, .ref TO] }) hz rfl (x := .ref TO) rfl ?_)))
  refine wpAny_bind (wpAny_setField_rec hz (by simp) fun y0 z0 b0 => ?_)
  replace z0 : IsZipS y0 z TI TO .ellipsis := z0
  replace b0 : Heap.SameBut z hp y0 := b0
  refine wpAny_bind ?_
  simp only [List.zipIdx_cons, List.zipIdx_nil, List.forIn_cons, List.forIn_nil]
  refine wpAny_bind (wpAny_bind (wpAny_onRaise ?_))
  show wpAny _ _ (Builtin.SmallTypes.nextOrEnd (.ref i1)) _ _ ⟨y0, g, d, k0, os⟩
  unfold Builtin.SmallTypes.nextOrEnd
  refine wpAny_bind (wpAny_attempt (D1.done ⟨y0, g, d, k0, os⟩ _ _ (D1.over st1 b0 S.zf1) fun u1 e1 c1 x1 => ?_))
  replace c1 : Heap.ExtBut i1 y0 u1 := c1
  obtain ⟨oe, he1, hc1⟩ := x1
  replace he1 : u1.get? e1 = some oe := he1
  refine wpAny_bind (wpAny_isInstance (T := "StopIteration") (b := true) (s := ⟨u1, g, d, k0, os⟩) ⟨oe, he1, hc1⟩ isSubtype_stop (wpAny_pure ?_))
  have z1 : IsZipS u1 z TI TO .ellipsis := c1 _ _ S.zi1 z0
  refine wpAny_bind (wpAny_setField_rec (s := ⟨u1, g, d, k0, os⟩) z1 (by simp) fun y1 _ b1 => ?_)
  replace b1 : Heap.SameBut z u1 y1 := b1
  refine wpAny_bind ?_
  show wpAny _ _ (forIn ((List.drop 1 [Value.ref i1, Value.ref i2]).zipIdx 1) PUnit.unit _ >>= _) _ _ ⟨y1, g, d, k0, os⟩
  simp only [List.drop_succ_cons, List.drop_zero, List.zipIdx_cons, List.zipIdx_nil, List.forIn_cons, List.forIn_nil]
  refine wpAny_bind ?_
  refine wpAny_bind ?_
  refine wpAny_bind ?_
  show wpAny _ _ (Builtin.SmallTypes.nextOrEnd (.ref i2)) _ _ ⟨y1, g, d, k0, os⟩
  unfold Builtin.SmallTypes.nextOrEnd
  refine wpAny_bind (wpAny_attempt (D2.done ⟨y1, g, d, k0, os⟩ _ _ (D2.over (D2.frame _ _ _ st2 fun b hb o e => c1 _ _ (fun q => S.sep1_2 (q ▸ hb)) (b0.extBut _ _ (fun q => S.zf2 (q ▸ hb)) e)) b1 S.zf2) fun u2 e2 c2 x2 => ?_))
  replace c2 : Heap.ExtBut i2 y1 u2 := c2
  obtain ⟨o2, he2, hc2⟩ := x2
  replace he2 : u2.get? e2 = some o2 := he2
  refine wpAny_bind (wpAny_isInstance (T := "StopIteration") (b := true) (s := ⟨u2, g, d, k0, os⟩) ⟨o2, he2, hc2⟩ isSubtype_stop (wpAny_pure ?_))
  refine wpAny_pure (wpAny_pure (wpAny_bind (wpAny_rule ?_)))
  unfold Builtin.SmallTypes.stopIteration
  refine wpAny_bind ?_
  simp only [newExc, newTuple]
  refine wpAny_bind (wpAny_newObj_type ?_ (by size_fits))
  refine wpAny_bind (m := firstArgMember _ _) (wpAny_of_eq (a := Value.none) (by first | rfl | (simp only [firstArgMember]; rfl)) ?_)
  refine wpAny_newObj_type ?_ (by size_fits)
  simp only [raiseNew]
  refine wpAny_bind (wpAny_handled ?_)
  rw [hh]
  refine wpAny_bind (wpAny_pure (wpAny_throw ?_))
  refine hE _ _ (fun c o n1 n2 n3 n4 e => ?_) ⟨_, Heap.get?_push_size _ rfl, rfl⟩
  exact Heap.get?_push_of_some _ (Heap.get?_push_of_some _ (c2 _ _ n4 (b1.extBut _ _ n1 (c1 _ _ n3 (b0.extBut _ _ n1 e)))))
theorem pyNext_zipS_item {Q : Option Value → Shared → Prop} (S : ZipSep2 z TI TO i1 i2 fp1 fp2) (D1 : Draws prog w A.in1 i1 fp1 n1 P1 St1) (D2 : Draws prog w A.in1 i2 fp2 n2 P2 St2) (hz : IsZipS s.heap z TI TO .none) (hTI : IsTupOf2 s.heap TI (.ref i1) (.ref i2)) (hTO : IsTupOf2 s.heap TO a1 a2)
    (st1 : St1 i s.heap) (st2 : St2 i s.heap) (l1 : i < n1) (l2 : i < n2)
    (hQ : ∀ x1 x2 h' tk, P1 i x1 → P2 i x2 → IsZipS h' z TI TO (rawInt s.heap.objs.size) → IsTupOf2 h' TO x1 x2 → St1 (i + 1) h' → St2 (i + 1) h' → IsTupOf2 h' s.heap.objs.size x1 x2 →
      (∀ c o, c ≠ z → c ≠ TO → c ≠ i1 → c ≠ i2 → s.heap.get? c = some o → h'.get? c = some o) → Q (some (.ref s.heap.objs.size)) { s with heap := h', toks := tk }) :
    wpAny (model prog w) A (pyNext (.ref z)) Q E s := by
  have ty : s.TypeIs (.ref z) "zip" := ⟨_, hz, rfl⟩
  unfold pyNext
  refine wpAny_bind (wpAny_attempt (wpAny_callSpecial?_slot (name := Str.ofString "__next__") ty F.slot_zip_next (wpAny_call_entry F.slot_zip_next ty F.entry_zip_next ?_ (F.args_zip_next_1 _))))
  exact zipS_item S D1 D2 hz hTI hTO st1 st2 l1 l2 fun x1 x2 h' tk y1 y2 b1 b2 d1 d2 b5 b7 => wpAny_pure (hQ x1 x2 h' tk y1 y2 b1 b2 d1 d2 b5 b7)
theorem pyNext_zipS_end {Q : Option Value → Shared → Prop} (hh : A.handled = none) (S : ZipSep2 z TI TO i1 i2 fp1 fp2) (D1 : Draws prog w A.in1 i1 fp1 n1 P1 St1) (D2 : Draws prog w A.in1 i2 fp2 n2 P2 St2) (hz : IsZipS s.heap z TI TO .none) (hTI : IsTupOf2 s.heap TI (.ref i1) (.ref i2))
    (hTO : IsTupOf2 s.heap TO a1 a2) (st1 : St1 n1 s.heap) (st2 : St2 n2 s.heap) (hQ : ∀ h', (∀ c o, c ≠ z → c ≠ TO → c ≠ i1 → c ≠ i2 → s.heap.get? c = some o → h'.get? c = some o) → Q none { s with heap := h' }) : wpAny (model prog w) A (pyNext (.ref z)) Q E s := by
  have ty : s.TypeIs (.ref z) "zip" := ⟨_, hz, rfl⟩
  unfold pyNext
  refine wpAny_bind (wpAny_attempt (wpAny_callSpecial?_slot (name := Str.ofString "__next__") ty F.slot_zip_next (wpAny_call_entry F.slot_zip_next ty F.entry_zip_next (zipS_end (A := A.in1) hh S D1 D2 hz hTI hTO st1 st2 fun h' e hk he => ?_) (F.args_zip_next_1 _))))
  obtain ⟨o, ho, hc⟩ := he
  refine wpAny_bind (wpAny_isInstance (T := "StopIteration") (b := true) (s := { s with heap := h' }) ⟨o, ho, hc⟩ isSubtype_stop ?_)
  exact wpAny_pure (hQ _ hk)
theorem go_zipS {elts : List Expr} {k : Nat} {pos : Pos} {T : Addr} {Q : Unit → Shared → Prop} (hz : IsZipS s.heap z TI TO (rawInt T)) (hQ : ∀ h', IsZipS h' z TI TO .none → Heap.SameBut z s.heap h' → Q () { s with heap := h' }) :
    wpAny (model prog w) A (letOwnedTupleGo (.Tuple elts k pos) (.ref z) (.ref T)) Q E s := by
  unfold letOwnedTupleGo
  refine wpAny_bind (wpAny_load hz ?_)
  show wpAny _ _ (if (["enumerate", "zip", "dict_itemiterator", "dict_reverseitemiterator", "odict_iterator", "itertools.zip_longest", "itertools.pairwise"].contains "zip" && (#[rawInt T, .bool false, .bool true, .ref TI, .ref TO] : Array Value)[0]? == some (rawInt T)) = true then _ else _) Q E s
  rw [if_pos (by simp)]
  refine wpAny_bind (wpAny_rule (?_ : wpAny _ _ (setField (.ref z) 0 .none) Q E s))
  exact wpAny_setField_rec hz (by simp) fun h' hz' hs' => hQ h' hz' hs'
theorem pyIter_zipS {f : Value} {Q : Value → Shared → Prop} (hz : IsZipS s.heap z TI TO f) (h : Q (.ref z) s) : wpAny (model prog w) A (pyIter (.ref z)) Q E s := by
  have ty : s.TypeIs (.ref z) "zip" := ⟨_, hz, rfl⟩
  refine wpAny_pyIter_slot ty F.slot_zip_iter (wpAny_call_entry F.slot_zip_iter ty F.entry_zip_iter (?_ : wpAny _ _ (ret (.ref z)) _ _ s) (F.args_zip_iter_1 _))
  exact wpAny_pure ⟨_, rfl, "zip", _, ty, F.slot_zip_next.lookup, h⟩
end
end L3
end

section
set_option Elab.async false
set_option linter.all false
set_option maxRecDepth 100000
set_option maxHeartbeats 1000000
/-! L3z3: tuple(d), d a dict of any kind: its keys in their order. -/
namespace L3
open PySem PySem.Spec PyProof.Rows PySem.W
open AutoSeq1 (wpAny_loadPart')
section
variable {prog : Program} {w : World} {A : Around} {E : Value → Shared → Prop} {s : Shared} {d : Addr} {es : Array DictEntry} {ep : Nat}
theorem kdl_rawD (lo : (d == sysModules) = false) : KdlSrc prog w "dict" d d es.size (fun i v => ∃ e, es[i]? = some e ∧ v = e.key) (fun h => h.DictRaw d es ep) where
  type := fun _ m => m.typeIs
  there := fun _ m => let ⟨_, ho, _⟩ := m; ⟨Heap.lt_size ho, Heap.lt_size ho⟩
  keep := fun _ _ m k => m.at fun o e => k d (.inl rfl) o e
  notList := by decide
  notTuple := by decide
  hint := fun _ _ _ _ m q => kdl_hint_dict m.typeIs q
  iter := fun _ s hh m => by
    have lt : d < s.heap.objs.size := let ⟨_, ho, _⟩ := m; Heap.lt_size ho
    refine ⟨_, _, fun _ _ hq => wpAny_pyIter_dict_raw lo m hq, (Walks.rawKeys hh _ d (Nat.ne_of_lt lt) es ep).mono_item fun i v _ hv => ?_, ?_⟩
    · obtain ⟨hi, rfl⟩ := hv
      exact ⟨es[i], Array.getElem?_eq_getElem hi, rfl⟩
    · exact ⟨⟨_, Heap.get?_push_size _ rfl, rfl, rfl⟩, m.at fun o e => Heap.get?_push_of_some _ e⟩
theorem items_keys {acc : Array Value} (h : ItemsOf (fun i v => ∃ e, es[i]? = some e ∧ v = e.key) acc es.size) : acc = es.map (·.key) := by
  refine Array.ext (by rw [Array.size_map]; exact h.1) fun i h1 h2 => ?_
  obtain ⟨e, q1, q2⟩ := h.2 i acc[i] (Array.getElem?_eq_getElem h1)
  rw [q2, Array.getElem_map]
  exact congrArg DictEntry.key (Array.getElem?_eq_some_iff.mp q1).2.symm
theorem iadd_rawD {R : Result → Shared → Prop} {S : Addr} (lo : (d == sysModules) = false) (hh : A.handled = none) (m : s.heap.DictRaw d es ep) (hn : es.size ≤ sizeLine) (hSd : S ≠ d) (hS : s.heap.get? S = some { cls := .type "list", data := .seq #[] })
    (hR : ∀ (h' : Heap) (tk c : Nat), (∀ b o, b ≠ S → s.heap.get? b = some o → h'.get? b = some o) → h'.get? S = some { cls := .type "list", data := .seq (es.map (·.key)) c } → R (.ok (.ret (.ref S))) { s with heap := h', toks := tk }) :
    codeAny (model prog w) A (.builtin "list.__iadd__" ⟨[.ref S, .ref d], []⟩) R s := by
  refine codeAny_builtin PySem.F.entry_list_iadd ?_
  rw [Around.under_plainId PySem.F.plain_list_iadd _]
  show wpAny _ A.in1 (Builtin.List.listExtendWith (.ref S) (.ref d) (.ref S)) _ _ _
  refine kdl_extend (kdl_rawD (es := es) (ep := ep) lo) hh m S hSd hSd _ 0 hS (fun h' tk acc c hk hS' hacc => ?_) hn
  rw [items_keys hacc] at hS'
  exact hR h' tk c hk hS'
theorem collect_rawD {Q : List Value → Shared → Prop} (lo : (d == sysModules) = false) (hh : A.handled = none) (m : s.heap.DictRaw d es ep) (hn : es.size ≤ sizeLine)
    (hQ : ∀ (h' : Heap) (tk : Nat), (∀ b o, s.heap.get? b = some o → h'.get? b = some o) → Q (es.map (·.key)).toList { s with heap := h', toks := tk }) : wpAny (model prog w) A (collect (.ref d)) Q E s := by
  have lt : d < s.heap.objs.size := let ⟨_, ho, _⟩ := m; Heap.lt_size ho
  unfold collect
  refine wpAny_bind (wpAny_runValue (codeAny_builtin PySem.F.entry_proto_collect ?_))
  rw [Around.under_plainId PySem.F.plain_proto_collect _]
  show wpAny _ A.in1 (newList [] >>= fun l => again (.builtin "list.__iadd__" ⟨[l, .ref d], []⟩)) _ _ s
  have new : (s.heap.push { cls := .type "list", data := .seq ([] : List Value).toArray }).get? s.heap.objs.size = some { cls := .type "list", data := .seq ([] : List Value).toArray } := Heap.get?_push_size _ rfl
  refine wpAny_bind (wpAny_newObj_type (wpAny_pure ⟨plainId_quiet PySem.F.plain_list_iadd _, iadd_rawD (s := { s with heap := s.heap.push { cls := .type "list", data := .seq ([] : List Value).toArray } }) lo hh (m.at fun o e => Heap.get?_push_of_some _ e) hn (Nat.ne_of_gt lt) new fun h' tk c hk hS => ?_⟩))
  show wpAny _ A (load s.heap.objs.size >>= _) _ _ _
  refine wpAny_bind (wpAny_load hS (wpAny_pure ?_))
  exact hQ h' tk fun b o e => hk b o (Nat.ne_of_lt (Heap.lt_size e)) (Heap.get?_push_of_some _ e)
theorem meets_tuple_rawD (lo : (d == sysModules) = false) (hn : es.size ≤ sizeLine) :
    Meets (Builtin.«tuple.__new__» ⟨[.type "tuple", .ref d], []⟩) fun A R s => A.handled = none ∧ s.heap.DictRaw d es ep ∧ ∀ (h' : Heap) (tk : Nat), (∀ b o, s.heap.get? b = some o → h'.get? b = some o) →
      R (.ok (.ret (.ref h'.objs.size))) { s with heap := h'.push { cls := .type "tuple", data := .seq (es.map (·.key)) }, toks := tk } :=
  .of_wp fun prog w A R s h => by
    obtain ⟨hh, m, h⟩ := h
    have hsub := sub_tuple_self
    have hinit := init_tuple_lookup
    have hmh := madeHere_tuple
    have hT : s.TypeIs (.ref d) "dict" := m.typeIs
    have hh1 : A.in1.handled = none := hh
    obtain ⟨o, ho, hex, hd⟩ := id m
    wp_walk using wpAny_loadPart' ho, wpAny_typeOf hT, collect_rawD lo hh1 m hn
    intro h' tk hk
    show wpAny _ _ (Builtin.Tuple.tupleExact (es.map (·.key)).toList.toArray >>= fun v => ret v) _ _ _
    unfold Builtin.Tuple.tupleExact
    refine wpAny_bind (wpAny_newObj_type (wpAny_pure ⟨_, rfl, ?_⟩) (show (es.map (·.key)).toList.toArray.size ≤ sizeLine by simpa using hn))
    rw [Array.toArray_toList]
    exact h h' tk hk
theorem call_tuple_rawD {Q : Value → Shared → Prop} (lo : (d == sysModules) = false) (hh : A.handled = none) (m : s.heap.DictRaw d es ep) (hn : es.size ≤ sizeLine)
    (h : ∀ (h' : Heap) (tk : Nat), (∀ b o, s.heap.get? b = some o → h'.get? b = some o) → Q (.ref h'.objs.size) { s with heap := h'.push { cls := .type "tuple", data := .seq (es.map (·.key)) }, toks := tk }) : wpAny (model prog w) A (call (.type "tuple") [.ref d]) Q E s :=
  callType_new PySem.F.called_tuple (by decide) (PySem.F.typeCall_tuple_1 _) (PySem.F.newCall_tuple_1 _) (fun obj => PySem.F.args_object_init_2 obj _) PySem.F.entry_tuple_new (meets_tuple_rawD lo hn) ⟨hh, m, fun h' tk hk => ⟨⟨_, Heap.get?_push_size _ rfl, rfl⟩, h h' tk hk⟩⟩
end
end L3
end

section
set_option Elab.async false
set_option linter.all false
set_option maxRecDepth 100000
set_option maxHeartbeats 400000
/-! L3g1: list comprehensions; a list or a tuple walked. -/
namespace L3
open PySem PySem.Spec PyProof.Rows L2

/-! ### targets of a comprehension's block -/
theorem wipe_setmem {σ : L2.St} {i : Nat} {x : Option V} : ∀ {vs : List Nat}, i ∈ vs → wipe (σ.set i x) vs = wipe σ vs
  | v :: vs, h => by
    unfold wipe
    by_cases hi : i ∈ vs
    · rw [wipe_setmem hi]
    · have e : i = v := (List.mem_cons.mp h).resolve_right hi
      subst e
      have key : ∀ (vs : List Nat), i ∉ vs → wipe (σ.set i x) vs = (wipe σ vs).set i x := by
        intro vs
        induction vs with
        | nil => intro _; rfl
        | cons w vs ih =>
          intro h
          have hw : w ≠ i := fun e => h (by rw [e]; exact List.mem_cons_self)
          unfold wipe
          rw [ih fun z => h (List.mem_cons_of_mem _ z), List.set_comm _ _ (Ne.symm hw)]
      rw [key vs hi, List.set_set]
def SndGw (K : Frag) (vs : List Nat) (t : TG) (g : MG) : Prop := ∀ (ρ : Rho) (st : Sto) (H : Hp) (σ : Env) (τ : L2.St) (v : Val) (x : V) (Q : L2.St → Hp → Prop) (E : XW), RS K ρ st H → RE K ρ (Fz ρ st H) σ τ → RV K ρ (Fz ρ st H) v x →
  After K ρ st H (RE K) (g v σ st) (fun τ' H' => wipe τ' vs = wipe τ vs → Q τ' H') E → t x τ H Q
def SndGsw (K : Frag) (vs : List Nat) (t : TGs) (g : MGs) : Prop := ∀ (ρ : Rho) (st : Sto) (H : Hp) (σ : Env) (τ : L2.St) (v : List Val) (x : List V) (Q : L2.St → Hp → Prop) (E : XW), RS K ρ st H → RE K ρ (Fz ρ st H) σ τ → RVs K ρ (Fz ρ st H) v x →
  After K ρ st H (RE K) (g v σ st) (fun τ' H' => wipe τ' vs = wipe τ vs → Q τ' H') E → t x τ H Q
structure SGw (K : Frag) (X : Cx) (vs : List Nat) (e : Expr) (t : TG) (g : MG) : Prop where
  pg : PG X e t
  sd : SndGw K vs t g
structure SGsw (K : Frag) (X : Cx) (vs : List Nat) (es : List Expr) (t : TGs) (g : MGs) : Prop where
  pg : PGs X es t
  sd : SndGsw K vs t g
section
variable {K : Frag} {W : WX} {X : Cx} {pos : Pos} {e : Expr} {es : List Expr} {t : TG} {ts : TGs} {g : MG} {gs : MGs} {vs : List Nat}
theorem sgw_name (i : Nat) {x : Str} (hN : X.N.Nodup) (hv : i ∈ vs := by decide) (hi : X.N[i]? = some x := by rfl) (hx : Loc X.env.scope x := by first | exact Or.inl rfl | exact Or.inr rfl) (hf : X.fn x = true ∨ X.env.scope.names.lookup x = some .local := by first | exact .inl rfl | exact .inr rfl) : SGw K X vs (.Name x pos) (gName i) (gN i) :=
  ⟨pg_name hN hi hx hf, fun ρ st H σ τ v x Q E rs re rv h => h.ok .refl rs (re.set rv i) (wipe_setmem hv)⟩
theorem sgsw_nil : SGsw K X vs [] gNil gsNil := by
  refine ⟨pgs_nil, fun ρ st H σ τ v x Q E rs re rv h => ?_⟩
  cases v with
  | nil => cases (show _ = _ from rv); exact ⟨rfl, h.ok .refl rs re rfl⟩
  | cons _ _ => exact h.elim
theorem sgsw_cons (h1 : SGw K X vs e t g) (h2 : SGsw K X vs es ts gs) (hs : (assignEach (e :: es) X.env).map (·.2) = assign e X.env :: (assignEach es X.env).map (·.2) := by rfl) : SGsw K X vs (e :: es) (gCons t ts) (gsCons g gs) := by
  refine ⟨pgs_cons h1.pg h2.pg hs, fun ρ st H σ τ v x Q E rs re rv h => ?_⟩
  cases v with
  | nil => exact h.elim
  | cons v r =>
    obtain ⟨y, zs, rfl, r1, r2⟩ := rv
    refine ⟨y, zs, rfl, h1.sd ρ st H σ τ v y _ E rs re r1 (After.bind h fun σ1 st1 ρ1 H1 τ1 _ e1 rs1 re1 hh w1 => ?_)⟩
    exact h2.sd ρ1 st1 H1 σ1 τ1 r zs Q E rs1 re1 (r2.mono e1.pre e1.fz) (hh.mono (fun τ' H' q w2 => q (w2.trans w1)) fun _ _ _ q => q)
theorem sgw_tup {k n : Nat} (hc : X.calm = true) (h : SGsw K X vs es ts gs) (hK : X.K = K := by rfl) (hn : (assignEach es X.env).length = n := by rfl) (hst : (assignEach es X.env).findIdx? (·.1) = none := by rfl) : SGw K X vs (.Tuple es k pos) (gTup K n ts) (gT n gs) := by
  subst hK
  refine ⟨pg_tup hc h.pg hn hst, fun ρ st H σ τ v x Q E rs re rv hh => ?_⟩
  cases v with
  | tup l =>
    obtain ⟨a, xs, rfl, sa, ra⟩ := rv
    have hh : After X.K ρ st H (RE X.K) (if l.length = n then gs l σ st else .bad) (fun τ' H' => wipe τ' vs = wipe τ vs → Q τ' H') E := hh
    split at hh
    · rename_i hl
      exact ⟨a, xs, rfl, sqT_mono (fz_same _ _ _) sa, by rw [← ra.length]; exact hl, h.sd ρ st H σ τ l xs Q E rs re ra hh⟩
    · exact hh.elim
  | _ => exact hh.elim
end

/-! ### list comprehensions -/
def wipeE (σ : Env) : List Nat → Env
  | [] => σ
  | v :: vs => (wipeE σ vs).set v none
theorem RE.wipe {K : Frag} {ρ : Rho} {H : Hp} {σ : Env} {τ : L2.St} (h : RE K ρ H σ τ) : ∀ vs : List Nat, RE K ρ H (wipeE σ vs) (L2.wipe τ vs)
  | [] => h
  | v :: vs => (RE.wipe h vs).unset v
/-- no exception comes out of a block -/
def Res.calm {α β : Type} (r : Res α) (f : α → Sto → Res β) : Res β := match r with
  | .ok a s => f a s
  | _ => .bad
@[simp] theorem Res.calm_ok {α β : Type} (a : α) (s : Sto) (f : α → Sto → Res β) : (Res.ok a s).calm f = f a s := rfl
@[simp] theorem Res.calm_exc {α β : Type} (a : Exn) (s : Sto) (f : α → Sto → Res β) : (Res.exc a s : Res α).calm f = .bad := rfl
@[simp] theorem Res.calm_bad {α β : Type} (f : α → Sto → Res β) : (Res.bad : Res α).calm f = .bad := rfl
theorem After.calm {α β γ δ : Type} {K : Frag} {ρ : Rho} {st : Sto} {H : Hp} {R : Rho → Hp → α → β → Prop} {R' : Rho → Hp → γ → δ → Prop} {W W' : XW} {r : Res α} {f : α → Sto → Res γ} {Q : δ → Hp → Prop} {Q1 : β → Hp → Prop} (h : After K ρ st H R' (r.calm f) Q W)
    (k : ∀ a st1 ρ1 H1 b, r = .ok a st1 → Ext ρ st H ρ1 st1 H1 → RS K ρ1 st1 H1 → R ρ1 (Fz ρ1 st1 H1) a b → After K ρ1 st1 H1 R' (f a st1) Q W → Q1 b H1) : After K ρ st H R r Q1 W' := by
  cases r with
  | ok a s => exact fun ρ' H' b e rs rr => k a s ρ' H' b rfl e rs rr (After.shift h e)
  | exc a s => exact h.elim
  | bad => exact h
structure SIf (K : Frag) (X : Cx) (ifs : List Expr) (t : TT) (m : MT) : Prop where
  pt : PTs X ifs t
  sd : SndT K (fun _ _ _ _ => False) t m
def mYes : MT := fun _ st => .ok true st
theorem sif_nil {K : Frag} {X : Cx} : SIf K X [] tYes mYes := ⟨pts_nil, fun ρ st H σ τ Q rs re h => h.ok .refl rs rfl⟩
theorem sif_one {K : Frag} {X : Cx} {c : Expr} {t : TT} {m : MT} (h : ST K (fun _ _ _ _ => False) X c t m) : SIf K X [c] t m := ⟨pts_one h.pt, h.sd⟩
open Classical in
noncomputable def lcGo (keep : Sto → Prop) (g : MG) (c : MT) (me : ME) (σ0 : Env) : List Val → List Val → Sto → Res (List Val)
  | [], acc, st => if keep st then .ok acc st else .bad
  | v :: l, acc, st => if keep st then (g v σ0 st).calm fun σ1 st1 => (c σ1 st1).calm fun b st2 =>
      if b = true then (me σ1 st2).calm fun w st3 => if acc.length < sizeLine then lcGo keep g c me σ0 l (acc ++ [w]) st3 else .bad else lcGo keep g c me σ0 l acc st2 else .bad
noncomputable def mLc (mi : MI) (g : MG) (c : MT) (me : ME) (vs : List Nat) : ME := fun σ st => (mi σ st).bind fun p st1 => (lcGo p.2 g c me (wipeE σ vs) p.1 [] st1).bind fun l st2 => .ok (.lst l) st2
section
variable {K : Frag} {W : WX} {X : Cx} {pos spos py : Pos} {elt tg iter : Expr} {ifs : List Expr} {scope : Scope} {own : List (Str × Nat)} {wi : TI} {mi : MI} {g : TG} {gm : MG} {tt : TT} {mt : MT} {te : TE} {me : ME} {vs : List Nat}
theorem snd_lc (hi : SndI K W wi mi) (hg : SndGw K vs g gm) (ht : SndT K (fun _ _ _ _ => False) tt mt) (he : SndE K (fun _ _ _ _ => False) te me) : SndE K W (tLc wi g tt te vs) (mLc mi gm mt me vs) := by
  intro ρ st H σ τ Q rs re q
  refine hi ρ st H σ τ _ rs re (After.bind q fun p st1 ρ1 H1 J _ e1 rs1 src hh D hD => ?_)
  obtain ⟨items, keep⟩ := p
  have nD := rs1.fresh hD
  have rsD : RS K (hideR ρ1 D) st1 (upd H1 D (.lst [])) := rs1.hide hD
  have ef : Fz (hideR ρ1 D) st1 (upd H1 D (.lst [])) = Fz ρ1 st1 H1 := fz_hide nD hD fun b hb => upd_ne hb
  have reD : RE K (hideR ρ1 D) (Fz (hideR ρ1 D) st1 (upd H1 D (.lst []))) (wipeE σ vs) (wipe τ vs) := by
    rw [ef]
    exact RE.mono (ρ := ρ1) (ρ' := hideR ρ1 D) List.prefix_rfl (Same.refl _) ((re.mono e1.pre e1.fz).wipe vs)
  have hnD : D ∉ ρ1.2 := fun z => nD (.inl z)
  have hh : After K ρ1 st1 H1 (RV K) ((lcGo keep gm mt me (wipeE σ vs) items [] st1).bind fun l st2 => .ok (.lst l) st2) Q (fun c d H' => W c d τ H') := hh
  refine ⟨fun i m H => ∃ ρ' st' acc ac, Ext (hideR ρ1 D) st1 (upd H1 D (.lst [])) ρ' st' (upd H D (.lst [])) ∧ RS K ρ' st' H ∧ H D = some (.lst ac) ∧ RVs K ρ' (Fz ρ' st' H) acc ac ∧
      (∃ r, r = lcGo keep gm mt me (wipeE σ vs) (items.drop i) acc st' ∧ After K ρ1 st1 H1 (RV K) (r.bind fun l st2 => .ok (.lst l) st2) Q (fun c d H' => W c d τ H')) ∧ m = items.length - i ∧ i ≤ items.length,
    ⟨items.length, hideR ρ1 D, st1, [], [], ?_, rsD, upd_same, rfl, ⟨_, rfl, hh⟩, rfl, Nat.zero_le _⟩, ?_⟩
  · have e : upd (upd H1 D (.lst [])) D (.lst []) = upd H1 D (.lst []) := by
      funext b
      by_cases hb : b = D
      · subst hb; rw [upd_same, upd_same]
      · rw [upd_ne hb]
    rw [e]
    exact .refl
  rintro i m H2 ⟨ρ2, st2, acc, ac, e2, rs2, hac, rac, ⟨r, rfl, h2⟩, rfl, hle⟩
  -- the heap H2 has D's list as it is
  have hD2 : D ∈ ρ2.2 := by rw [e2.hs]; exact List.mem_cons_self
  have fzD : ∀ (ρ' : Rho) (st' : Sto) (H' : Hp) (o : HO), D ∈ ρ'.2 → Fz ρ' st' (upd H' D o) = Fz ρ' st' H' := fun ρ' st' H' o hm => by
    funext b
    by_cases ho : Own ρ' st' b
    · rw [fz_none ho, fz_none ho]
    · have hb : b ≠ D := fun z => ho (.inl (by rw [z]; exact hm))
      rw [fz_eq ho, fz_eq ho, upd_ne hb]
  have base2 : Same (Fz ρ1 st1 H1) (Fz ρ2 st2 H2) := by
    rw [← ef, ← fzD ρ2 st2 H2 (.lst []) hD2]
    exact e2.fz
  have pre2 : ρ1.1 <+: ρ2.1 := e2.pre
  cases hn : items[i]? with
  | none =>
    have hd : items.drop i = [] := List.drop_eq_nil_of_le (List.getElem?_eq_none_iff.mp hn)
    rw [hd] at h2
    unfold lcGo at h2
    split at h2
    · rename_i hk
      refine .inl ⟨(src ρ2 st2 H2 pre2 base2 rs2 hk i).2 (Nat.le_antisymm hle (List.getElem?_eq_none_iff.mp hn)), ?_⟩
      have e22 : ρ2 = hideR (ρ2.1, ρ1.2) D := Prod.ext rfl e2.hs
      rw [e22] at rs2 rac
      obtain ⟨rs3, sm3, fD3⟩ := rs2.unhide hnD
      refine h2 (ρ2.1, ρ1.2) H2 (.ref D) ⟨pre2, ?_, rfl, fun b hb => ?_⟩ rs3 ⟨D, ac, rfl, by rw [fD3]; exact hac, RVs.mono (ρ := hideR (ρ2.1, ρ1.2) D) (ρ' := (ρ2.1, ρ1.2)) List.prefix_rfl sm3 rac⟩
      · rw [e22] at base2
        exact base2.trans sm3
      · have hb' := e2.hid b (List.mem_cons_of_mem _ hb)
        have hbD : b ≠ D := fun z => hnD (by rw [← z]; exact hb)
        rw [upd_ne hbD, upd_ne hbD] at hb'
        exact hb'
    · exact h2.elim
  | some v =>
    obtain ⟨hlt, hv⟩ := List.getElem?_eq_some_iff.mp hn
    have hd : items.drop i = v :: items.drop (i + 1) := by rw [List.drop_eq_getElem_cons hlt, hv]
    rw [hd] at h2
    unfold lcGo at h2
    split at h2
    · rename_i hk
      obtain ⟨go, yl⟩ := (src ρ2 st2 H2 pre2 base2 rs2 hk i).1 v hn
      refine .inr ⟨go, fun H' => ∃ ρ' st' acc ac, Ext (hideR ρ1 D) st1 (upd H1 D (.lst [])) ρ' st' (upd H' D (.lst [])) ∧ RS K ρ' st' H' ∧ H' D = some (.lst ac) ∧ RVs K ρ' (Fz ρ' st' H') acc ac ∧
        (∃ r, r = lcGo keep gm mt me (wipeE σ vs) (items.drop (i + 1)) acc st' ∧ After K ρ1 st1 H1 (RV K) (r.bind fun l st2 => .ok (.lst l) st2) Q (fun c d H' => W c d τ H')), fun H' h' => ?_, fun x H' hy => ?_⟩
      · obtain ⟨ρ', st', acc', ac', a, b, c, d, f⟩ := h'
        exact ⟨items.length - (i + 1), by omega, ρ', st', acc', ac', a, b, c, d, f, rfl, hlt⟩
      · obtain ⟨e3, rs3, rv⟩ := yl x H' hy
        -- moves of the heap beside D
        have move : ∀ (ρa : Rho) (sa : Sto) (Ha : Hp) (ρb : Rho) (sb : Sto) (Hb : Hp), D ∈ ρa.2 → Ext ρa sa Ha ρb sb Hb → Ext ρa sa (upd Ha D (.lst [])) ρb sb (upd Hb D (.lst [])) := fun ρa sa Ha ρb sb Hb hm e => by
          refine ⟨e.pre, ?_, e.hs, fun b hb => ?_⟩
          · rw [fzD _ _ _ _ hm, fzD _ _ _ _ (by rw [e.hs]; exact hm)]
            exact e.fz
          · by_cases hbD : b = D
            · subst hbD; rw [upd_same, upd_same]
            · rw [upd_ne hbD, upd_ne hbD]; exact e.hid b hb
        have re2 : RE K ρ2 (Fz ρ2 st2 H') (wipeE σ vs) (wipe τ vs) := by
          refine RE.mono ?_ ?_ reD
          · exact e2.pre
          · rw [ef]
            exact base2.trans e3.fz
        -- a chain of results inside the turn
        have key : ∀ (r : Res Env), After K ρ1 st1 H1 (RV K) ((r.calm fun σ1 st1 => (mt σ1 st1).calm fun b st2 => if b = true then (me σ1 st2).calm fun w st3 => if acc.length < sizeLine then lcGo keep gm mt me (wipeE σ vs) (items.drop (i + 1)) (acc ++ [w]) st3 else .bad else lcGo keep gm mt me (wipeE σ vs) (items.drop (i + 1)) acc st2).bind fun l st2 => .ok (.lst l) st2) Q (fun c d H' => W c d τ H') →
            ∃ σ1 s1, r = .ok σ1 s1 := fun r h => by
          cases r with
          | ok a s => exact ⟨a, s, rfl⟩
          | exc a s => exact h.elim
          | bad => exact h.elim
        obtain ⟨σ4, st4, er⟩ := key _ h2
        rw [er] at h2
        refine hg ρ2 st2 H' (wipeE σ vs) (wipe τ vs) v x _ (fun _ _ _ => False) rs3 re2 rv ?_
        rw [er]
        intro ρ4 H4 τ4 e4 rs4 re4 w4
        refine ⟨?_, ?_⟩
        · have ww : wipe (wipe τ vs) vs = wipe τ vs := by
            have key : ∀ (us : List Nat), (∀ i ∈ us, i ∈ vs) → wipe (wipe τ vs) us = wipe τ vs := by
              intro us
              induction us with
              | nil => intro _; rfl
              | cons u us ih =>
                intro h
                show (wipe (wipe τ vs) us).set u none = wipe τ vs
                rw [show wipe (wipe τ vs) us = wipe τ vs from ih fun i hi => h i (List.mem_cons_of_mem _ hi)]
                have hu := h u List.mem_cons_self
                have : ∀ (l : List Nat), u ∈ l → (wipe τ l).set u none = wipe τ l := by
                  intro l
                  induction l with
                  | nil => intro h; cases h
                  | cons w l ih2 =>
                    intro h
                    unfold wipe
                    by_cases hw : u = w
                    · subst hw; rw [List.set_set]
                    · rw [List.set_comm _ _ (Ne.symm hw), ih2 ((List.mem_cons.mp h).resolve_left hw)]
                exact this vs hu
            exact key vs fun _ h => h
          exact w4.trans ww
        have h2' : After K ρ1 st1 H1 (RV K) (((mt σ4 st4).calm fun b st2 => if b = true then (me σ4 st2).calm fun w st3 => if acc.length < sizeLine then lcGo keep gm mt me (wipeE σ vs) (items.drop (i + 1)) (acc ++ [w]) st3 else .bad else lcGo keep gm mt me (wipeE σ vs) (items.drop (i + 1)) acc st2).bind fun l st2 => .ok (.lst l) st2) Q (fun c d H' => W c d τ H') := h2
        cases ht4 : mt σ4 st4 with
        | exc a s => rw [ht4] at h2'; exact h2'.elim
        | bad => rw [ht4] at h2'; exact h2'.elim
        | ok b s5 =>
          rw [ht4] at h2'
          refine ht ρ4 st4 H4 σ4 τ4 _ rs4 re4 ?_
          rw [ht4]
          intro ρ5 H5 b' e5 rs5 eb
          subst eb
          have e35 : Ext ρ2 st2 H2 ρ5 s5 H5 := e3.trans (e4.trans e5)
          cases b with
          | false =>
            have hac5 : H5 D = some (.lst ac) := by rw [e35.hid D hD2]; exact hac
            exact ⟨ρ5, s5, acc, ac, e2.trans (move _ _ _ _ _ _ hD2 e35), rs5, hac5, rac.mono e35.pre e35.fz, _, rfl, h2'⟩
          | true =>
            have h3' : After K ρ1 st1 H1 (RV K) (((me σ4 s5).calm fun w st3 => if acc.length < sizeLine then lcGo keep gm mt me (wipeE σ vs) (items.drop (i + 1)) (acc ++ [w]) st3 else .bad).bind fun l st2 => .ok (.lst l) st2) Q (fun c d H' => W c d τ H') := h2'
            cases he5 : me σ4 s5 with
            | exc a s => rw [he5] at h3'; exact h3'.elim
            | bad => rw [he5] at h3'; exact h3'.elim
            | ok w s6 =>
              rw [he5] at h3'
              show te τ4 H5 _
              refine he ρ5 s5 H5 σ4 τ4 _ rs5 (re4.mono e5.pre e5.fz) ?_
              rw [he5]
              intro ρ6 H6 y e6 rs6 ry
              have e36 : Ext ρ2 st2 H2 ρ6 s6 H6 := e35.trans e6
              have hac6 : H6 D = some (.lst ac) := by rw [e36.hid D hD2]; exact hac
              have rac6 := rac.mono e36.pre e36.fz
              have h4' : After K ρ1 st1 H1 (RV K) ((if acc.length < sizeLine then lcGo keep gm mt me (wipeE σ vs) (items.drop (i + 1)) (acc ++ [w]) s6 else .bad).bind fun l st2 => .ok (.lst l) st2) Q (fun c d H' => W c d τ H') := h3'
              split at h4'
              · rename_i hz
                have hD6 : D ∈ ρ6.2 := by rw [e36.hs]; exact hD2
                have e66 : ρ6 = hideR (ρ6.1, ρ1.2) D := Prod.ext rfl (e36.hs.trans e2.hs)
                refine ⟨ac, hac6, by rw [← rac.length]; exact hz, ρ6, s6, acc ++ [w], ac ++ [y], ?_, ?_, upd_same, ?_, _, rfl, h4'⟩
                · have eu : upd (upd H6 D (.lst (ac ++ [y]))) D (.lst []) = upd H6 D (.lst []) := by
                    funext b
                    by_cases hb : b = D
                    · subst hb; rw [upd_same, upd_same]
                    · rw [upd_ne hb, upd_ne hb, upd_ne hb]
                  rw [eu]
                  exact e2.trans (move _ _ _ _ _ _ hD2 e36)
                · rw [e66] at rs6 ⊢
                  exact rs6.rehide.1
                · rw [fzD _ _ _ _ hD6]
                  exact rac6.append (.one ry)
              · exact h4'.elim
    · exact h2.elim
theorem se_lc (own : List (Str × Nat)) (hc : X.calm = true) (hN : X.N.Nodup) (hi : SI K W X tg iter wi mi) (ok : blkC X.N X.env.scope scope own = true)
    (hg : ∀ (s : Shared) (H : Hp) (C : Addr) (cl : List (Str × Addr)) (fp : List Addr), SGw K (X.blk s H scope (compEnvC scope cl C X.env) fp) (own.map (·.2)) tg g gm)
    (ht : ∀ (s : Shared) (H : Hp) (C : Addr) (cl : List (Str × Addr)) (fp : List Addr), SIf K (X.blk s H scope (compEnvC scope cl C X.env) fp) ifs tt mt)
    (he : ∀ (s : Shared) (H : Hp) (C : Addr) (cl : List (Str × Addr)) (fp : List Addr), SE K (fun _ _ _ _ => False) (X.blk s H scope (compEnvC scope cl C X.env) fp) elt te me) (hs : ∀ x, foldedSetIterable iter X.env x = pure x := by intro _; rfl) :
    SE K W X (.ListComp elt [⟨tg, iter, ifs, 0⟩] scope pos) (tLc wi g tt te (own.map (·.2))) (mLc mi gm mt me (own.map (·.2))) :=
  ⟨pe_lc hc hN hi.pi (blkOk_by ok) (fun s H C cl fp => (hg s H C cl fp).pg) (fun s H C cl fp => (ht s H C cl fp).pt) (fun s H C cl fp => (he s H C cl fp).pe) hs,
    snd_lc hi.sd (hg {} (fun _ => none) 0 [] []).sd (ht {} (fun _ => none) 0 [] []).sd (he {} (fun _ => none) 0 [] []).sd⟩
/-- name = [..] on one line -/
theorem ss_setLc (i : Nat) (own : List (Str × Nat)) {y : Str} (hc : X.calm = true) (hN : X.N.Nodup) (hi : SI K W X tg iter wi mi) (ok : blkC X.N X.env.scope scope own = true)
    (hg : ∀ (s : Shared) (H : Hp) (C : Addr) (cl : List (Str × Addr)) (fp : List Addr), SGw K (X.blk s H scope (compEnvC scope cl C X.env) fp) (own.map (·.2)) tg g gm)
    (ht : ∀ (s : Shared) (H : Hp) (C : Addr) (cl : List (Str × Addr)) (fp : List Addr), SIf K (X.blk s H scope (compEnvC scope cl C X.env) fp) ifs tt mt)
    (he : ∀ (s : Shared) (H : Hp) (C : Addr) (cl : List (Str × Addr)) (fp : List Addr), SE K (fun _ _ _ _ => False) (X.blk s H scope (compEnvC scope cl C X.env) fp) elt te me)
    (hy : X.N[i]? = some y := by rfl) (hyl : X.env.scope.names.lookup y = some .local := by rfl) (hsw : swapsWith (.ListComp elt [⟨tg, iter, ifs, 0⟩] scope pos) (some (.Name y py)) spos.line X.env = pure true := by exact sw_true rfl rfl rfl rfl)
    (hs : ∀ x, foldedSetIterable iter X.env x = pure x := by intro _; rfl) :
    SS K W X (.Assign [.Name y py] (.ListComp elt [⟨tg, iter, ifs, 0⟩] scope pos) spos) (tAsg (tLc wi g tt te (own.map (·.2))) (gName i)) (mAsg (mLc mi gm mt me (own.map (·.2))) (gN i)) :=
  ⟨ps_setLc hc hN hy hyl hsw hi.pi (blkOk_by ok) (fun s H C cl fp => (hg s H C cl fp).pg) (fun s H C cl fp => (ht s H C cl fp).pt) (fun s H C cl fp => (he s H C cl fp).pe) hs,
    snd_asg (snd_lc hi.sd (hg {} (fun _ => none) 0 [] []).sd (ht {} (fun _ => none) 0 [] []).sd (he {} (fun _ => none) 0 [] []).sd) fun ρ st H σ τ v x Q E rs re rv h => h.ok .refl rs (re.set rv i)⟩
end
end L3
end

section
set_option Elab.async false
set_option linter.all false
set_option maxRecDepth 100000
set_option maxHeartbeats 400000
/-! L3g2: a list or a tuple walked, by itself, by enumerate, by zip (strict, too). -/
namespace L3
open PySem PySem.Spec PyProof.Rows L2

/-! ### lists and tuples alike -/
/-- b: a tuple -/
def SqB (K : Frag) (b : Bool) (H : Hp) (a : Addr) (xs : List V) : Prop := if b = true then SqT K H a xs else SqL K H a xs
def ItB (b : Bool) (h : Heap) (it a : Addr) (i : Nat) : Prop := if b = true then h.IsTupleIter it a i else h.IsListIter it a i
def AtB (b : Bool) (h : Heap) (a : Addr) (us : Array Value) : Prop := if b = true then h.IsTuple a us else h.IsList a us
theorem ItB.at {b : Bool} {h h' : Heap} {it a : Addr} {i : Nat} (x : ItB b h it a i) (k : ∀ o, h.get? it = some o → h'.get? it = some o) : ItB b h' it a i := by
  cases b with
  | true => exact Heap.IsTupleIter.at x k
  | false => exact Heap.IsListIter.at x k
theorem ItB.obj {b : Bool} {h : Heap} {it a : Addr} {i : Nat} (x : ItB b h it a i) : ∃ o, h.get? it = some o ∧ ∀ v, o.data ≠ .cell v := by
  cases b with
  | true => obtain ⟨o, e, _, d⟩ := (show h.IsTupleIter it a i from x); exact ⟨o, e, fun v q => by rw [d] at q; cases q⟩
  | false => obtain ⟨o, e, _, d⟩ := (show h.IsListIter it a i from x); exact ⟨o, e, fun v q => by rw [d] at q; cases q⟩
def objB (b : Bool) (a : Addr) : Obj := { cls := .type (if b = true then "tuple_iterator" else "list_iterator"), data := .fields #[.ref a, .int 0 0] }
theorem begins_b (b : Bool) (a : Addr) (us : Array Value) : Begins (.ref a) (objB b a) fun h => AtB b h a us := by
  cases b with
  | true => exact begins_tuple a us
  | false => exact begins_list a us
theorem itB_new {b : Bool} {h : Heap} {it a : Addr} (e : h.get? it = some (objB b a)) : ItB b h it a 0 := by
  cases b with
  | true => exact ⟨_, e, rfl, rfl⟩
  | false => exact ⟨_, e, rfl, rfl⟩
theorem draws_b {prog : Program} {w : World} {A : Around} (hh : A.handled = none) (b : Bool) (it a : Addr) (hne : a ≠ it) (us : Array Value) :
    Draws prog w A it [it, a] us.size (fun i v => us[i]? = some v) (fun i h => ItB b h it a i ∧ AtB b h a us) := by
  cases b with
  | true => exact Draws.tuple hh it a hne us
  | false => exact Draws.list hh it a hne us
theorem sqB_at {X : Cx} {pins : List (Addr × Obj)} {σ : L2.St} {H : Hp} {s : Shared} {b : Bool} {a : Addr} {xs : List V} (I : Inv X pins σ H s) (q : SqB X.K b H a xs) : ∃ its : List Value, Vals xs its ∧ AtB b s.heap a its.toArray ∧ a < s.heap.objs.size := by
  cases b with
  | true =>
    obtain ⟨its, rv, p, _⟩ := I.tuple q
    have p : s.heap.IsTuple a its.toArray := p
    obtain ⟨o, e, _⟩ := id p
    exact ⟨its, rv, p, Heap.lt_size e⟩
  | false =>
    obtain ⟨its, rv, p, _⟩ := I.list q
    exact ⟨its, rv, p.isList, p.lt⟩
theorem sqB_inj {X : Cx} {pins : List (Addr × Obj)} {σ : L2.St} {H : Hp} {s : Shared} {b : Bool} {a : Addr} {xs ys : List V} (I : Inv X pins σ H s) (p : SqB X.K b H a xs) (q : SqB X.K b H a ys) : xs = ys := by
  cases b with
  | true => exact I.tuple_inj p q
  | false => exact I.list_inj p q
/-- its state while something else is written -/
theorem itB_same {b : Bool} {h h' : Heap} {it a x : Addr} {i : Nat} (q : ItB b h it a i) (e : Heap.SameBut x h h') (n : it ≠ x) : ItB b h' it a i := q.at fun o z => e.extBut _ _ n z

/-! ### by itself -/
def iSeq (K : Frag) (tl : TE) : TI := fun σ H R => tl σ H fun x H1 => ∃ a, x = .ref a ∧ ((∃ xs, SqL K H1 a xs) ∧ R (Itl K a) H1 ∨ (∃ xs, SqT K H1 a xs) ∧ R (Itt K a) H1)
theorem pi_seq {X : Cx} {tg l : Expr} {tl : TE} (hl : PE X l tl) : PI X tg l (iSeq X.K tl) := by
  refine ⟨fun pins s σ H R I h => thn (hl.run pins s σ H _ I h) fun v s1 ⟨x, H1, I1, r1, a, e, q1⟩ => ?_⟩
  subst e
  cases r1
  have nw : ∀ b ∈ [s1.heap.objs.size], FpOk X pins H1 b := fun b hb => by
    cases List.mem_singleton.mp hb
    exact I1.fpOk (Nat.le_refl _) (I1.hok.fresh (Nat.le_refl _))
  rcases q1 with ⟨⟨xs, hq⟩, q⟩ | ⟨⟨xs, hq⟩, q⟩
  · obtain ⟨its, rv, p, _⟩ := I1.list hq
    exact wpAny_pyIter_list p.isList ⟨_, [s1.heap.objs.size], _, _, H1, rfl, I1.kept (t' := s1.toks) fun b o e => Heap.get?_push_of_some _ e, turn_list a _, ⟨_, Heap.get?_push_size _ rfl, rfl, rfl⟩, nw, q⟩
  · obtain ⟨its, rv, p, _⟩ := I1.tuple hq
    exact wpAny_pyIter_tuple (show s1.heap.IsTuple a its.toArray from p) ⟨_, [s1.heap.objs.size], _, _, H1, rfl, I1.kept (t' := s1.toks) fun b o e => Heap.get?_push_of_some _ e, turn_tuple a _, ⟨_, Heap.get?_push_size _ rfl, rfl, rfl⟩, nw, q⟩
/-- over a list or a tuple -/
def iSq (me : ME) : MI := fun σ st => (me σ st).bind fun v st1 => match v with
  | .tup l => .ok (l, always) st1
  | v => (match lsOf st1 v with
    | some l => .ok (l, match v with
      | .loc _ => keepLs v l
      | _ => always) st1
    | none => .bad)
section
variable {K : Frag} {W : WX} {X : Cx} {tg e e2 : Expr} {te te2 : TE} {me me2 : ME} {ta : TA} {ma : MA} {p pos : Pos}
theorem si_seq (h : SE K W X e te me) (hK : X.K = K := by rfl) : SI K W X tg e (iSeq K te) (iSq me) := by
  subst hK
  refine ⟨pi_seq h.pe, fun ρ st H σ τ R rs re q => ?_⟩
  refine h.sd ρ st H σ τ _ rs re (After.bind q fun v st1 ρ1 H1 x _ e1 rs1 rx h1 => ?_)
  split at h1
  · obtain ⟨a, xs, rfl, sa, ra⟩ := rx
    exact ⟨a, rfl, .inr ⟨⟨xs, sqT_mono (fz_same _ _ _) sa⟩, h1.ok .refl rs1 (src_tup sa ra)⟩⟩
  · split at h1
    · rename_i hl
      obtain ⟨a, xs, rfl, sq, later⟩ := ls_later rs1 rx hl
      exact ⟨a, rfl, .inl ⟨⟨xs, sq⟩, h1.ok .refl rs1 (src_list later)⟩⟩
    · exact h1.elim
end

/-! ### enumerate -/
def IteB (K : Frag) (b : Bool) (a : Addr) : It :=
  ⟨fun i H => ∃ xs x, SqB K b H a xs ∧ xs[i]? = some x, fun i H v H' => ∃ T x, v = .ref T ∧ H T = none ∧ H' = upd H T (.tup [.int (i : Nat), x]) ∧ ∀ xs, SqB K b H a xs → xs[i]? = some x, fun i H => ∃ xs, SqB K b H a xs ∧ xs.length = i⟩
theorem turn_enumB {P : Program} {w : World} {K : Frag} {elts : List Expr} {kk : Nat} {tpos : Pos} (b : Bool) (a e it : Addr) (h1 : e ≠ it) (h2 : a ≠ it) (h3 : e ≠ a) :
    Turn P w K (.Tuple elts kk tpos) (IteB K b a) [e, it] e (fun i h => (∃ old, IsEnum h e it ((i : Nat) : Int) old) ∧ ItB b h it a i) where
  mem := by simp
  obj := fun i h st c hc => by
    obtain ⟨⟨old, he⟩, hi⟩ := st
    rcases (by simpa using hc : c = e ∨ c = it) with z | z
    · rw [z]; exact ⟨_, he, fun v q => nomatch q⟩
    · rw [z]; exact hi.obj
  keep := fun i h h' st k => ⟨⟨st.1.choose, k e (by simp) _ st.1.choose_spec⟩, st.2.at fun o q => k it (by simp) o q⟩
  item := by
    intro X hP hw hK hc i pins s σ H E I hf st hg
    subst hP hw hK
    obtain ⟨⟨old, he⟩, hit⟩ := st
    obtain ⟨xs, x, hq, hx⟩ := hg
    obtain ⟨its, rv, p, _⟩ := sqB_at I hq
    obtain ⟨u, hu, ru⟩ := rv.get hx
    have hel : e < s.heap.objs.size := Heap.lt_size he
    have hil : it < s.heap.objs.size := by obtain ⟨o, q, _⟩ := hit.obj; exact Heap.lt_size q
    have hlt : i < its.toArray.size := by rw [List.size_toArray]; exact (List.getElem?_eq_some_iff.mp hu).1
    have D : Draws X.prog X.w X.A.in1 it [it, a] its.toArray.size _ _ := draws_b (show X.A.in1.handled = none from I.ok.hd hc) b it a h2 its.toArray
    refine wpAny_pyNext_enum_itemC D he ⟨hit, p⟩ hlt h1 (by simp [h1, h3]) fun u' h' tk hu' ho hst hT hsz hk => ?_
    have eu : u' = u := by
      have z : its.toArray[i]? = some u := by simpa using hu
      rw [z] at hu'
      exact (Option.some.inj hu').symm
    subst eu
    refine ⟨_, rfl, wpAny_letOwnedTupleGo_enum (s := { s with heap := h', toks := tk + 1 }) ho fun h'' he' sb => ?_⟩
    have hT2 : h''.get? s.heap.objs.size = some { cls := .type "tuple", data := .seq #[.int i tk, u'] } := (sb.2 _ (Nat.ne_of_gt hel)).trans hT
    have new : ObjOk X.prog X.w (upd H s.heap.objs.size (.tup [.int (i : Nat), x])) h'' s.heap.objs.size (.tup [.int (i : Nat), x]) :=
      ⟨(by decide : 2 ≤ sizeLine), [.int i tk, u'], .cons ⟨_, rfl⟩ (.cons ru .nil), ⟨_, hT2, rfl, _, rfl⟩⟩
    have I1 : Inv X pins σ (upd H s.heap.objs.size (.tup [.int (i : Nat), x])) { s with heap := h'', toks := tk + 1 } :=
      I.turnedNew (ch := [e, it]) (fun c ob hb q => (sb.2 c (fun z => hb (by simp [z]))).trans (hk c ob (fun z => hb (by simp [z])) (fun z => hb (by simp [z])) q)) hf (Nat.le_refl _) new
    refine ⟨.ref s.heap.objs.size, _, I1, rfl, ⟨_, x, rfl, I.hok.fresh (Nat.le_refl _), rfl, fun ys hy => by rw [sqB_inj I hy hq]; exact hx⟩, ⟨⟨u', (show ((i + 1 : Nat) : Int) = (i : Int) + 1 by omega) ▸ he'⟩, itB_same hst.1 sb (Ne.symm h1)⟩, fun c hc => ?_⟩
    have hlt : c < s.heap.objs.size := by
      rcases (by simpa using hc : c = e ∨ c = it) with z | z <;> (rw [z]; assumption)
    rw [upd_ne (Nat.ne_of_lt hlt)]
    exact (hf c hc).1
  done := by
    intro X hP hw hK hc i pins s σ H E I hf st hg
    subst hP hw hK
    obtain ⟨⟨old, he⟩, hit⟩ := st
    obtain ⟨xs, hq, rfl⟩ := hg
    obtain ⟨its, rv, p, _⟩ := sqB_at I hq
    have hl : its.toArray.size = xs.length := by rw [List.size_toArray, rv.length]
    have D : Draws X.prog X.w X.A.in1 it [it, a] its.toArray.size _ _ := draws_b (show X.A.in1.handled = none from I.ok.hd hc) b it a h2 its.toArray
    obtain ⟨f0, f1, f2, f3, f4, f5⟩ := hf it (by simp)
    exact wpAny_pyNext_enum_endD D he ⟨by rw [hl]; exact hit, p⟩ fun h' eb => ⟨rfl, I.turned (t' := s.toks) (fun c o hb q => eb c o hb q) f0 f1 f3 f4 f5⟩
  self := fun A i s Q E st h => let ⟨⟨_, he⟩, _⟩ := st; wpAny_pyIter_enum he h
def iEnumB (K : Frag) (ta : TA) : TI := fun σ H R => ta σ H fun vs H1 => ∃ a b xs, vs = [.ref a] ∧ SqB K b H1 a xs ∧ R (IteB K b a) H1
theorem pi_enumB {X : Cx} {e : Expr} {ta : TA} {p pos tpos : Pos} {elts : List Expr} {kk : Nat} (hg : Gl X "enumerate") (hm : X.mg "enumerate" = none) (ha : PA X [e] ta) (hs : starEach [e] X.env = [(false, eval e X.env)] := by rfl) :
    PI X (.Tuple elts kk tpos) (.Call (.Name "enumerate" p) [e] [] pos) (iEnumB X.K ta) := by
  refine ⟨fun pins s σ H R I h => Call_ (ld_blt I hg hm boot_enumerate (PyProof.Rows.callWith_type1 (thn (ha.run pos pins s σ H _ I h) fun us s1 ⟨vs, H1, I1, r1, a, b, xs, ex, hq, q⟩ => ?_) hs rfl))⟩
  subst ex
  cases r1 with
  | cons r rr =>
    cases rr
    cases r
    obtain ⟨its, rv, p', hlt⟩ := sqB_at I1 hq
    refine enum_beginsB (begins_b b a its.toArray) p' fun h' he hit hk => wpAny_pyIter_enum he ?_
    refine ⟨s1.heap.objs.size + 1, [s1.heap.objs.size + 1, s1.heap.objs.size], _, _, H1, rfl, I1.kept (t' := s1.toks) hk, turn_enumB b a (s1.heap.objs.size + 1) s1.heap.objs.size (Nat.succ_ne_self _) (Nat.ne_of_lt hlt) (Nat.ne_of_gt (Nat.lt_succ_of_lt hlt)), ⟨⟨.none, he⟩, itB_new hit⟩, fun c hc => ?_, q⟩
    have hle : s1.heap.objs.size ≤ c := by
      rcases (by simpa using hc : c = s1.heap.objs.size + 1 ∨ c = s1.heap.objs.size) with z | z
      · rw [z]; exact Nat.le_succ _
      · rw [z]; exact Nat.le_refl _
    exact I1.fpOk hle (I1.hok.fresh hle)
/-- where a list or a tuple lies, also later -/
theorem sq_later {K : Frag} {ρ : Rho} {st : Sto} {H : Hp} {v : Val} {x : V} {l : List Val} (rs : RS K ρ st H) (h : RV K ρ (Fz ρ st H) v x) (e : itemsOf st v = some l) :
    ∃ a b xs, x = .ref a ∧ SqB K b H a xs ∧ ∀ (ρ1 : Rho) (st1 : Sto) (H1 : Hp), ρ.1 <+: ρ1.1 → Same (Fz ρ st H) (Fz ρ1 st1 H1) → RS K ρ1 st1 H1 → itemsOf st1 v = some l → ∃ xs, SqB K b H1 a xs ∧ RVs K ρ1 (Fz ρ1 st1 H1) l xs := by
  have key : ∀ v, (∀ st, itemsOf st v = lsOf st v) → RV K ρ (Fz ρ st H) v x → itemsOf st v = some l → ∃ a b xs, x = .ref a ∧ SqB K b H a xs ∧ ∀ (ρ1 : Rho) (st1 : Sto) (H1 : Hp), ρ.1 <+: ρ1.1 → Same (Fz ρ st H) (Fz ρ1 st1 H1) → RS K ρ1 st1 H1 → itemsOf st1 v = some l → ∃ xs, SqB K b H1 a xs ∧ RVs K ρ1 (Fz ρ1 st1 H1) l xs := fun v hv h e => by
    rw [hv] at e
    obtain ⟨a, xs, rfl, sq, _⟩ := ls_of rs h e
    refine ⟨a, false, xs, rfl, sq, fun ρ1 st1 H1 e1 e2 rs1 kp => ?_⟩
    rw [hv] at kp
    obtain ⟨a', ys, q1, q2, q3⟩ := ls_of rs1 (RV.mono e1 e2 h) kp
    cases q1
    exact ⟨ys, q2, q3⟩
  cases v with
  | tup l' =>
    obtain ⟨a, xs, rfl, q, r⟩ := h
    cases e
    exact ⟨a, true, xs, rfl, sqT_mono (fz_same _ _ _) q, fun ρ1 st1 H1 e1 e2 rs1 _ => ⟨xs, sqT_mono (fz_same _ _ _) (sqT_mono e2 q), r.mono e1 e2⟩⟩
  | lst l' => exact key _ (fun _ => rfl) h e
  | cst l' => exact key _ (fun _ => rfl) h e
  | loc n => exact key _ (fun _ => rfl) h e
  | _ => cases e
/-- as long as it is so -/
def keepIt (v : Val) (l : List Val) : Sto → Prop := match v with
  | .loc _ => fun st => itemsOf st v = some l
  | _ => always
theorem keepIt_of {st st1 : Sto} {v : Val} {l : List Val} (e : itemsOf st v = some l) (k : keepIt v l st1) : itemsOf st1 v = some l := by
  cases v <;> first | exact e | exact k
def numd (l : List Val) : List Val := l.zipIdx.map fun p => Val.tup [.int (p.2 : Nat), p.1]
theorem src_enum {K : Frag} {ρ : Rho} {Hf : Hp} {b : Bool} {a : Addr} {l : List Val} {keep : Sto → Prop}
    (h : ∀ (ρ1 : Rho) (st1 : Sto) (H1 : Hp), ρ.1 <+: ρ1.1 → Same Hf (Fz ρ1 st1 H1) → RS K ρ1 st1 H1 → keep st1 → ∃ xs, SqB K b H1 a xs ∧ RVs K ρ1 (Fz ρ1 st1 H1) l xs) : Src K (IteB K b a) (numd l) keep ρ Hf := by
  intro ρ1 st1 H1 e1 e2 rs kp i
  obtain ⟨xs, h1, h2⟩ := h ρ1 st1 H1 e1 e2 rs kp
  unfold numd
  refine ⟨fun v hv => ?_, fun hn => ?_⟩
  · rw [List.getElem?_map, List.getElem?_zipIdx] at hv
    cases hl : l[i]? with
    | none => rw [hl] at hv; cases hv
    | some u =>
      rw [hl] at hv
      cases hv
      obtain ⟨y, hy, ry⟩ := h2.get hl
      refine ⟨⟨xs, y, h1, hy⟩, fun x H' hh => ?_⟩
      obtain ⟨T, y', rfl, hT, rfl, hx⟩ := hh
      have := hx xs h1
      rw [hy] at this
      cases this
      obtain ⟨e3, r3, f3⟩ := new_fz (o := .tup [.int (i : Nat), y]) rs hT
      refine ⟨e3, r3, T, [.int (i : Nat), y], rfl, .inl (.inl f3), ?_⟩
      refine ⟨_, _, rfl, ?_, y, [], rfl, ry.mono e3.pre e3.fz, rfl⟩
      simp [RV]
  · rw [List.length_map, List.length_zipIdx] at hn
    exact ⟨xs, h1, by rw [hn]; exact h2.length.symm⟩
def iEn (ma : MA) : MI := fun σ st => (ma σ st).bind fun vs st1 => match vs with
  | [v] => (match itemsOf st1 v with
    | some l => .ok (numd l, keepIt v l) st1
    | none => .bad)
  | _ => .bad
theorem si_enum {K : Frag} {W : WX} {X : Cx} {e : Expr} {ta : TA} {ma : MA} {p pos tpos : Pos} {elts : List Expr} {kk : Nat} (hg : Gl X "enumerate") (hm : X.mg "enumerate" = none) (h : SA K W X [e] ta ma) (hK : X.K = K := by rfl) (hs : starEach [e] X.env = [(false, eval e X.env)] := by rfl) :
    SI K W X (.Tuple elts kk tpos) (.Call (.Name "enumerate" p) [e] [] pos) (iEnumB K ta) (iEn ma) := by
  subst hK
  refine ⟨pi_enumB hg hm h.pa hs, fun ρ st H σ τ R rs re q => ?_⟩
  refine h.sd ρ st H σ τ _ rs re (After.bind q fun vs st1 ρ1 H1 xs _ e1 rs1 rx h1 => ?_)
  split at h1
  · split at h1
    · rename_i hl
      obtain ⟨x, rfl, r1⟩ := RVs.inv1 rx
      obtain ⟨a, b, xs, rfl, sq, later⟩ := sq_later rs1 r1 hl
      exact ⟨a, b, xs, rfl, sq, h1.ok .refl rs1 (src_enum fun ρ1 st1 H1 a1 a2 a3 a4 => later ρ1 st1 H1 a1 a2 a3 (keepIt_of hl a4))⟩
    · exact h1.elim
  · exact h1.elim
end L3
end

section
set_option Elab.async false
set_option linter.all false
set_option maxRecDepth 100000
set_option maxHeartbeats 400000
/-! L3g3: zip of two lists or tuples, strict or not. -/
namespace L3
open PySem PySem.Spec PyProof.Rows L2
/-- f: strict -/
abbrev IsZ (f : Bool) (h : Heap) (z TI TO : Addr) (v : Value) : Prop := h.get? z = some { cls := .type "zip", data := .fields #[v, .bool false, .bool f, .ref TI, .ref TO] }
section
variable {prog : Program} {w : World} {A : Around} {E : Value → Shared → Prop} {s : Shared} {z TI TO i1 i2 : Addr} {fp1 fp2 : List Addr} {n1 n2 i : Nat} {P1 P2 : Nat → Value → Prop} {St1 St2 : Nat → Heap → Prop} {a1 a2 : Value}
theorem nextZ_item (f : Bool) {Q : Option Value → Shared → Prop} (S : ZipSep2 z TI TO i1 i2 fp1 fp2) (D1 : Draws prog w A.in1 i1 fp1 n1 P1 St1) (D2 : Draws prog w A.in1 i2 fp2 n2 P2 St2) (hz : IsZ f s.heap z TI TO .none) (hTI : IsTupOf2 s.heap TI (.ref i1) (.ref i2))
    (hTO : IsTupOf2 s.heap TO a1 a2) (st1 : St1 i s.heap) (st2 : St2 i s.heap) (l1 : i < n1) (l2 : i < n2)
    (hQ : ∀ x1 x2 h' tk, P1 i x1 → P2 i x2 → IsZ f h' z TI TO (rawInt s.heap.objs.size) → IsTupOf2 h' TO x1 x2 → St1 (i + 1) h' → St2 (i + 1) h' → IsTupOf2 h' s.heap.objs.size x1 x2 →
      (∀ c o, c ≠ z → c ≠ TO → c ≠ i1 → c ≠ i2 → s.heap.get? c = some o → h'.get? c = some o) → Q (some (.ref s.heap.objs.size)) { s with heap := h', toks := tk }) :
    wpAny (model prog w) A (pyNext (.ref z)) Q E s := by
  cases f with
  | true => exact pyNext_zipS_item S D1 D2 hz hTI hTO st1 st2 l1 l2 hQ
  | false => exact wpAny_pyNext_zipD2_item S D1 D2 hz hTI hTO st1 st2 l1 l2 fun x1 x2 h' tk y1 y2 b1 b2 d1 d2 b5 _ b7 => hQ x1 x2 h' tk y1 y2 b1 b2 d1 d2 b5 b7
def endsZ (f : Bool) (n1 n2 i : Nat) : Prop := i ≤ n1 ∧ i ≤ n2 ∧ (if f = true then n1 = i ∧ n2 = i else n1 = i ∨ n2 = i)
theorem nextZ_end (f : Bool) {Q : Option Value → Shared → Prop} (hh : A.handled = none) (S : ZipSep2 z TI TO i1 i2 fp1 fp2) (D1 : Draws prog w A.in1 i1 fp1 n1 P1 St1) (D2 : Draws prog w A.in1 i2 fp2 n2 P2 St2) (hz : IsZ f s.heap z TI TO .none) (hTI : IsTupOf2 s.heap TI (.ref i1) (.ref i2))
    (hTO : IsTupOf2 s.heap TO a1 a2) (st1 : St1 i s.heap) (st2 : St2 i s.heap) (he : endsZ f n1 n2 i)
    (hQ : ∀ h' tk, (∀ c o, c ≠ z → c ≠ TO → c ≠ i1 → c ≠ i2 → s.heap.get? c = some o → h'.get? c = some o) → Q none { s with heap := h', toks := tk }) : wpAny (model prog w) A (pyNext (.ref z)) Q E s := by
  obtain ⟨e1, e2, e3⟩ := he
  cases f with
  | true =>
    have e3 : n1 = i ∧ n2 = i := e3
    exact pyNext_zipS_end hh S D1 D2 hz hTI hTO (by rw [e3.1]; exact st1) (by rw [e3.2]; exact st2) fun h' hk => hQ h' s.toks hk
  | false =>
    have e3 : n1 = i ∨ n2 = i := e3
    exact wpAny_pyNext_zipD2_end S D1 D2 hz hTI hTO st1 st2 e1 e2 (e3.imp Eq.symm Eq.symm) hQ
theorem goZ (f : Bool) {elts : List Expr} {k : Nat} {pos : Pos} {T : Addr} {Q : Unit → Shared → Prop} (hz : IsZ f s.heap z TI TO (rawInt T)) (hQ : ∀ h', IsZ f h' z TI TO .none → Heap.SameBut z s.heap h' → Q () { s with heap := h' }) :
    wpAny (model prog w) A (letOwnedTupleGo (.Tuple elts k pos) (.ref z) (.ref T)) Q E s := by
  cases f with
  | true => exact go_zipS hz hQ
  | false => exact wpAny_letOwnedTupleGo_zip hz hQ
theorem iterZ (f : Bool) {v : Value} {Q : Value → Shared → Prop} (hz : IsZ f s.heap z TI TO v) (h : Q (.ref z) s) : wpAny (model prog w) A (pyIter (.ref z)) Q E s := by
  cases f with
  | true => exact pyIter_zipS hz h
  | false => exact wpAny_pyIter_zip hz h
theorem beginsZ (f : Bool) {v1 v2 : Value} {o1 o2 : Obj} {H1 H2 : Heap → Prop} {Q : Value → Shared → Prop} (B1 : Begins v1 o1 H1) (B2 : Begins v2 o2 H2) (h1 : H1 s.heap) (h2 : H2 s.heap)
    (h : ∀ h', IsZ f h' (s.heap.objs.size + 4) (s.heap.objs.size + 2) (s.heap.objs.size + 3) .none → IsTupOf2 h' (s.heap.objs.size + 2) (.ref s.heap.objs.size) (.ref (s.heap.objs.size + 1)) → IsTupOf2 h' (s.heap.objs.size + 3) .none .none →
      h'.get? s.heap.objs.size = some o1 → h'.get? (s.heap.objs.size + 1) = some o2 → (∀ c o, s.heap.get? c = some o → h'.get? c = some o) → Q (.ref (s.heap.objs.size + 4)) { s with heap := h' }) :
    wpAny (model prog w) A (call (.type "zip") [v1, v2] (if f = true then [(strictW, .bool true)] else [])) Q E s := by
  cases f with
  | true => exact zip_beginsS B1 B2 h1 h2 h
  | false => exact zip_begins2 B1 B2 h1 h2 fun h' a1 a2 a3 a4 a5 _ a7 => h h' a1 a2 a3 a4 a5 a7
end
/-- a and b: lists or tuples, the items in new pairs -/
def ItzB (K : Frag) (f b1 b2 : Bool) (a b : Addr) : It :=
  ⟨fun i H => ∃ xs ys x y, SqB K b1 H a xs ∧ SqB K b2 H b ys ∧ xs[i]? = some x ∧ ys[i]? = some y,
    fun i H v H' => ∃ T x y, v = .ref T ∧ H T = none ∧ H' = upd H T (.tup [x, y]) ∧ (∀ xs, SqB K b1 H a xs → xs[i]? = some x) ∧ ∀ ys, SqB K b2 H b ys → ys[i]? = some y,
    fun i H => ∃ xs ys, SqB K b1 H a xs ∧ SqB K b2 H b ys ∧ endsZ f xs.length ys.length i⟩
theorem turn_zipB {P : Program} {w : World} {K : Frag} {elts : List Expr} {kk : Nat} {tpos : Pos} (f b1 b2 : Bool) {a b z TI TO i1 i2 : Addr} (S : ZipSep2 z TI TO i1 i2 [i1, a] [i2, b]) (n1 : a ≠ i1) (n2 : b ≠ i2) :
    Turn P w K (.Tuple elts kk tpos) (ItzB K f b1 b2 a b) [z, TI, TO, i1, i2] z (fun i h => IsZ f h z TI TO .none ∧ IsTupOf2 h TI (.ref i1) (.ref i2) ∧ (∃ x y, IsTupOf2 h TO x y) ∧ ItB b1 h i1 a i ∧ ItB b2 h i2 b i) where
  mem := by simp
  obj := fun i h st c hc => by
    obtain ⟨hz, hTI, ⟨x, y, hTO⟩, h1, h2⟩ := st
    rcases (by simpa using hc : c = z ∨ c = TI ∨ c = TO ∨ c = i1 ∨ c = i2) with q | q | q | q | q <;> rw [q]
    · exact ⟨_, hz, fun v q => nomatch q⟩
    · exact ⟨_, hTI, fun v q => nomatch q⟩
    · exact ⟨_, hTO, fun v q => nomatch q⟩
    · exact h1.obj
    · exact h2.obj
  keep := fun i h h' st k => by
    obtain ⟨hz, hTI, ⟨x, y, hTO⟩, h1, h2⟩ := st
    exact ⟨k z (by simp) _ hz, k TI (by simp) _ hTI, ⟨x, y, k TO (by simp) _ hTO⟩, h1.at fun o q => k i1 (by simp) o q, h2.at fun o q => k i2 (by simp) o q⟩
  item := by
    intro X hP hw hK hc i pins s σ H E I hf st hg
    subst hP hw hK
    obtain ⟨hz, hTI, ⟨x0, y0, hTO⟩, h1, h2⟩ := st
    obtain ⟨xs, ys, x, y, hqx, hqy, hx, hy⟩ := hg
    obtain ⟨its, rv, p, la⟩ := sqB_at I hqx
    obtain ⟨its2, rv2, p2, lb⟩ := sqB_at I hqy
    obtain ⟨u, hu, ru⟩ := rv.get hx
    obtain ⟨u2, hu2, ru2⟩ := rv2.get hy
    have hzl : z < s.heap.objs.size := Heap.lt_size hz
    have hd : X.A.in1.handled = none := I.ok.hd hc
    have D1 := draws_b (prog := X.prog) (w := X.w) hd b1 i1 a n1 its.toArray
    have D2 := draws_b (prog := X.prog) (w := X.w) hd b2 i2 b n2 its2.toArray
    have lt1 : i < its.toArray.size := by rw [List.size_toArray]; exact (List.getElem?_eq_some_iff.mp hu).1
    have lt2 : i < its2.toArray.size := by rw [List.size_toArray]; exact (List.getElem?_eq_some_iff.mp hu2).1
    refine nextZ_item f S D1 D2 hz hTI hTO ⟨h1, p⟩ ⟨h2, p2⟩ lt1 lt2 fun v1 v2 h' tk w1 w2 z' TO' t1 t2 hT hk => ?_
    have e1 : v1 = u := by
      have q : its.toArray[i]? = some u := by simpa using hu
      rw [q] at w1
      exact (Option.some.inj w1).symm
    have e2 : v2 = u2 := by
      have q : its2.toArray[i]? = some u2 := by simpa using hu2
      rw [q] at w2
      exact (Option.some.inj w2).symm
    subst e1
    subst e2
    refine ⟨_, rfl, goZ f (s := { s with heap := h', toks := tk }) z' fun h'' z'' sb => ?_⟩
    have hT2 : IsTupOf2 h'' s.heap.objs.size v1 v2 := sb.extBut _ _ (Nat.ne_of_gt hzl) hT
    have new : ObjOk X.prog X.w (upd H s.heap.objs.size (.tup [x, y])) h'' s.heap.objs.size (.tup [x, y]) := ⟨(by decide : 2 ≤ sizeLine), [v1, v2], .cons ru (.cons ru2 .nil), ⟨_, hT2, rfl, _, rfl⟩⟩
    have I1 : Inv X pins σ (upd H s.heap.objs.size (.tup [x, y])) { s with heap := h'', toks := tk } :=
      I.turnedNew (ch := [z, TI, TO, i1, i2]) (fun c o hb q => sb.extBut _ _ (fun q' => hb (by simp [q'])) (hk c o (fun q' => hb (by simp [q'])) (fun q' => hb (by simp [q'])) (fun q' => hb (by simp [q'])) (fun q' => hb (by simp [q'])) q)) hf (Nat.le_refl _) new
    refine ⟨.ref s.heap.objs.size, _, I1, rfl, ⟨_, x, y, rfl, I.hok.fresh (Nat.le_refl _), rfl, fun l hl => by rw [sqB_inj I hl hqx]; exact hx, fun l hl => by rw [sqB_inj I hl hqy]; exact hy⟩, ⟨z'', ?_, ⟨v1, v2, ?_⟩, ?_, ?_⟩, fun c hc => ?_⟩
    · exact sb.extBut _ _ S.TIz (hk _ _ S.TIz S.TITO S.TIi1 S.TIi2 hTI)
    · exact sb.extBut _ _ S.TOz TO'
    · exact itB_same t1.1 sb (Ne.symm S.zi1)
    · exact itB_same t2.1 sb (Ne.symm S.zi2)
    · have hlt : c < s.heap.objs.size := by
        rcases (by simpa using hc : c = z ∨ c = TI ∨ c = TO ∨ c = i1 ∨ c = i2) with q | q | q | q | q <;> rw [q]
        · exact hzl
        · exact Heap.lt_size hTI
        · exact Heap.lt_size hTO
        · obtain ⟨_, e, _⟩ := h1.obj; exact Heap.lt_size e
        · obtain ⟨_, e, _⟩ := h2.obj; exact Heap.lt_size e
      rw [upd_ne (Nat.ne_of_lt hlt)]
      exact (hf c hc).1
  done := by
    intro X hP hw hK hc i pins s σ H E I hf st hg
    subst hP hw hK
    obtain ⟨hz, hTI, ⟨x0, y0, hTO⟩, h1, h2⟩ := st
    obtain ⟨xs, ys, hqx, hqy, he⟩ := hg
    obtain ⟨its, rv, p, _⟩ := sqB_at I hqx
    obtain ⟨its2, rv2, p2, _⟩ := sqB_at I hqy
    have hd : X.A.in1.handled = none := I.ok.hd hc
    have D1 := draws_b (prog := X.prog) (w := X.w) hd b1 i1 a n1 its.toArray
    have D2 := draws_b (prog := X.prog) (w := X.w) hd b2 i2 b n2 its2.toArray
    refine nextZ_end f (I.ok.hd hc) S D1 D2 hz hTI hTO ⟨h1, p⟩ ⟨h2, p2⟩ (by rw [List.size_toArray, List.size_toArray, ← rv.length, ← rv2.length]; exact he) fun h' tk hk => ⟨rfl, ?_⟩
    exact I.turnedL (t' := tk) (ch := [z, TI, TO, i1, i2]) (fun c o hb q => hk c o (fun q' => hb (by simp [q'])) (fun q' => hb (by simp [q'])) (fun q' => hb (by simp [q'])) (fun q' => hb (by simp [q'])) q) hf
  self := fun A i s Q E st h => iterZ f st.1 h
def iZipB (K : Frag) (f : Bool) (ta : TA) : TI := fun σ H R => ta σ H fun vs H1 => ∃ a b b1 b2 xs ys, vs = [.ref a, .ref b] ∧ SqB K b1 H1 a xs ∧ SqB K b2 H1 b ys ∧ R (ItzB K f b1 b2 a b) H1
section
variable {X : Cx} {pins : List (Addr × Obj)} {σ : L2.St} {H1 : Hp} {s1 : Shared} {R : It → Hp → Prop} {elts : List Expr} {kk : Nat} {tpos : Pos}
theorem zip_run (f : Bool) {vs : List V} {us : List Value} (I1 : Inv X pins σ H1 s1) (r1 : Vals vs us) (h : ∃ a b b1 b2 xs ys, vs = [.ref a, .ref b] ∧ SqB X.K b1 H1 a xs ∧ SqB X.K b2 H1 b ys ∧ R (ItzB X.K f b1 b2 a b) H1) :
    wpAny (model X.prog X.w) X.A (call (.type "zip") us (if f = true then [(strictW, .bool true)] else [])) (fun v s => wpAny (model X.prog X.w) X.A (pyIter v) (PIE X pins σ (.Tuple elts kk tpos) R) X.xe s) X.xe s1 := by
  obtain ⟨a, b, b1, b2, xs, ys, ex, hqx, hqy, q⟩ := h
  subst ex
  cases r1 with
  | cons r rr =>
    cases rr with
    | cons r' rr =>
      cases rr
      cases r
      cases r'
      obtain ⟨its, rv, p1, la⟩ := sqB_at I1 hqx
      obtain ⟨its2, rv2, p2, lb⟩ := sqB_at I1 hqy
      refine beginsZ f (begins_b b1 a its.toArray) (begins_b b2 b its2.toArray) p1 p2 fun h' hz hTI hTO h1 h2 hk => iterZ f hz ?_
      have S : ZipSep2 (s1.heap.objs.size + 4) (s1.heap.objs.size + 2) (s1.heap.objs.size + 3) s1.heap.objs.size (s1.heap.objs.size + 1) [s1.heap.objs.size, a] [s1.heap.objs.size + 1, b] :=
        zip_sep2 (fun c hc => by rw [List.mem_singleton.mp hc]; exact la) (fun c hc => by rw [List.mem_singleton.mp hc]; exact lb)
      refine ⟨s1.heap.objs.size + 4, [s1.heap.objs.size + 4, s1.heap.objs.size + 2, s1.heap.objs.size + 3, s1.heap.objs.size, s1.heap.objs.size + 1], _, _, H1, rfl, I1.kept (t' := s1.toks) hk, turn_zipB f b1 b2 S (Nat.ne_of_lt la) (Nat.ne_of_lt (Nat.lt_succ_of_lt lb)), ⟨hz, hTI, ⟨_, _, hTO⟩, itB_new h1, itB_new h2⟩, fun c hc => ?_, q⟩
      have hle : s1.heap.objs.size ≤ c := by
        rcases (by simpa using hc : c = s1.heap.objs.size + 4 ∨ c = s1.heap.objs.size + 2 ∨ c = s1.heap.objs.size + 3 ∨ c = s1.heap.objs.size ∨ c = s1.heap.objs.size + 1) with z | z | z | z | z <;> rw [z]
        · exact Nat.le_add_right _ _
        · exact Nat.le_add_right _ _
        · exact Nat.le_add_right _ _
        · exact Nat.le_refl _
        · exact Nat.le_add_right _ _
      exact I1.fpOk hle (I1.hok.fresh hle)
end
theorem pi_zipB {X : Cx} {e e2 : Expr} {ta : TA} {p pos tpos : Pos} {elts : List Expr} {kk : Nat} (hg : Gl X "zip") (hm : X.mg "zip" = none) (ha : PA X [e, e2] ta) (hs : starEach [e, e2] X.env = (false, eval e X.env) :: starEach [e2] X.env := by rfl) (hpl : (backTo pos (starEach [e2] X.env)).any (·.1) = false := by rfl) :
    PI X (.Tuple elts kk tpos) (.Call (.Name "zip" p) [e, e2] [] pos) (iZipB X.K false ta) :=
  ⟨fun pins s σ H R I h => Call_ (ld_blt I hg hm PyProof.Rows.boot_zip (PyProof.Rows.callWith_type1 (thn (ha.run pos pins s σ H _ I h) fun us s1 ⟨vs, H1, I1, r1, q1⟩ => zip_run false I1 r1 q1) hs hpl))⟩
end L3
end

section
set_option Elab.async false
set_option linter.all false
set_option maxRecDepth 100000
set_option maxHeartbeats 400000
/-! L3g4: zip's calls; its items. -/
namespace L3
open PySem PySem.Spec PyProof.Rows L2
theorem callWith_typeKw {M : Model} {A : Around} {E : Value → Shared → Prop} {s : Shared} {env : PySem.Env} {pos : Pos} {T : String} {e : Expr} {rest : List Expr} {kws : List Keyword} {Q : Value → Shared → Prop} (hall : (backToKw pos (keywordEach kws env)).all (·.1.isSome) = true)
    (h : wpAny M A (spliced (backTo pos (starEach (e :: rest) env))) (fun vs s1 => wpAny M A (evalAll ((backToKw pos (keywordEach kws env)).map (·.2))) (fun ks s2 => wpAny M A (call (.type T) vs (((backToKw pos (keywordEach kws env)).filterMap (·.1)).zip ks)) Q E s2) E s1) E s)
    (hpl : ((backTo pos (starEach (e :: rest) env)).any (·.1) || (backToKw pos (keywordEach kws env)).any (·.1.isNone)) = false) (he : starEach (e :: rest) env = (false, eval e env) :: starEach rest env) :
    wpAny M A (callWith pos (.type T) [] (backTo pos (starEach (e :: rest) env)) (backToKw pos (keywordEach kws env))) Q E s := by
  unfold callWith
  refine wpAny_bind (wpAny_holding (wpAny_mono (evalArgs_kw2 (Q := fun a t => wpAny M A (call (.type T) a.pos a.kw) Q E t) hall h he) (fun a t q => wpAny_bind (wpAny_standAt ?_)) fun _ _ x => x))
  simp only [hpl]
  exact wpAny_bind (wpAny_pure (wpAny_bind (wpAny_mono q (fun r t2 q2 => wpAny_bind (wpAny_holding (wpAny_point (wpAny_pure q2)))) fun _ _ x => x)))
theorem pi_zipS {X : Cx} {e e2 : Expr} {ta : TA} {p pos tpos kp cp : Pos} {elts : List Expr} {kk ck : Nat} (hg : Gl X "zip") (hm : X.mg "zip" = none) (ha : PA X [e, e2] ta) (hs : starEach [e, e2] X.env = (false, eval e X.env) :: starEach [e2] X.env := by rfl)
    (hpl : ((backTo pos (starEach [e, e2] X.env)).any (·.1) || (backToKw pos (keywordEach [⟨some "strict", .Constant (.bool true) ck cp, kp⟩] X.env)).any (·.1.isNone)) = false := by rfl) :
    PI X (.Tuple elts kk tpos) (.Call (.Name "zip" p) [e, e2] [⟨some "strict", .Constant (.bool true) ck cp, kp⟩] pos) (iZipB X.K true ta) := by
  refine ⟨fun pins s σ H R I h => wpAny_Call_Name_kw (ld_blt I hg hm PyProof.Rows.boot_zip (callWith_typeKw rfl (thn (ha.run pos pins s σ H _ I h) fun us s1 ⟨vs, H1, I1, r1, q1⟩ => ?_) hpl hs))⟩
  refine kws_cons (Constant_bool (kws_nil ?_))
  exact zip_run true I1 r1 q1
def zipL (xs ys : List Val) : List Val := (xs.zip ys).map fun p => Val.tup [p.1, p.2]
theorem src_zip {K : Frag} {ρ : Rho} {Hf : Hp} {f b1 b2 : Bool} {a b : Addr} {l m : List Val} {k1 k2 : Sto → Prop} (hf : f = true → l.length = m.length)
    (h1 : ∀ (ρ1 : Rho) (st1 : Sto) (H1 : Hp), ρ.1 <+: ρ1.1 → Same Hf (Fz ρ1 st1 H1) → RS K ρ1 st1 H1 → k1 st1 → ∃ xs, SqB K b1 H1 a xs ∧ RVs K ρ1 (Fz ρ1 st1 H1) l xs)
    (h2 : ∀ (ρ1 : Rho) (st1 : Sto) (H1 : Hp), ρ.1 <+: ρ1.1 → Same Hf (Fz ρ1 st1 H1) → RS K ρ1 st1 H1 → k2 st1 → ∃ xs, SqB K b2 H1 b xs ∧ RVs K ρ1 (Fz ρ1 st1 H1) m xs) : Src K (ItzB K f b1 b2 a b) (zipL l m) (fun st => k1 st ∧ k2 st) ρ Hf := by
  intro ρ1 st1 H1 e1 e2 rs kp i
  obtain ⟨xs, q1, r1⟩ := h1 ρ1 st1 H1 e1 e2 rs kp.1
  obtain ⟨ys, q2, r2⟩ := h2 ρ1 st1 H1 e1 e2 rs kp.2
  unfold zipL
  refine ⟨fun v hv => ?_, fun hn => ?_⟩
  · rw [List.getElem?_map] at hv
    obtain ⟨⟨u1, u2⟩, hu, rfl⟩ := Option.map_eq_some_iff.mp hv
    obtain ⟨hu1, hu2⟩ := List.getElem?_zip_eq_some.mp hu
    obtain ⟨x, hx, rx⟩ := r1.get hu1
    obtain ⟨y, hy, ry⟩ := r2.get hu2
    refine ⟨⟨xs, ys, x, y, q1, q2, hx, hy⟩, fun z H' hh => ?_⟩
    obtain ⟨T, x', y', rfl, hT, rfl, hx', hy'⟩ := hh
    have t1 := hx' xs q1
    have t2 := hy' ys q2
    rw [hx] at t1
    rw [hy] at t2
    cases t1
    cases t2
    obtain ⟨e3, r3, f3⟩ := new_fz (o := .tup [x, y]) rs hT
    exact ⟨e3, r3, T, [x, y], rfl, .inl (.inl f3), x, [y], rfl, rx.mono e3.pre e3.fz, y, [], rfl, ry.mono e3.pre e3.fz, rfl⟩
  · rw [List.length_map, List.length_zip] at hn
    refine ⟨xs, ys, q1, q2, ?_⟩
    rw [← r1.length, ← r2.length]
    unfold endsZ
    cases f with
    | true => have := hf rfl; refine ⟨by omega, by omega, ?_⟩; simp only [if_true]; omega
    | false => refine ⟨by omega, by omega, ?_⟩; simp only [Bool.false_eq_true, if_false]; omega
def iZp (f : Bool) (ma : MA) : MI := fun σ st => (ma σ st).bind fun vs st1 => match vs with
  | [v, w] => (match itemsOf st1 v, itemsOf st1 w with
    | some l, some m => if f = true ∧ l.length ≠ m.length then .bad else .ok (zipL l m, fun st => keepIt v l st ∧ keepIt w m st) st1
    | _, _ => .bad)
  | _ => .bad
section
variable {K : Frag} {W : WX} {X : Cx} {e e2 : Expr} {ta : TA} {ma : MA} {p pos tpos kp cp : Pos} {elts : List Expr} {kk ck : Nat}
theorem snd_zip (f : Bool) (h : SndA K W ta ma) : SndI K W (iZipB K f ta) (iZp f ma) := by
  intro ρ st H σ τ R rs re q
  refine h ρ st H σ τ _ rs re (After.bind q fun vs st1 ρ1 H1 xs _ e1 rs1 rx h1 => ?_)
  split at h1
  · split at h1
    · rename_i hl hm
      split at h1
      · exact h1.elim
      · rename_i hc
        obtain ⟨x, y, rfl, r1, r2⟩ := RVs.inv2 rx
        obtain ⟨a, b1, xs, rfl, sq, later⟩ := sq_later rs1 r1 hl
        obtain ⟨b, b2, ys, rfl, sq2, later2⟩ := sq_later rs1 r2 hm
        refine ⟨a, b, b1, b2, xs, ys, rfl, sq, sq2, h1.ok .refl rs1 (src_zip (fun e => ?_) (fun ρ1 st1 H1 a1 a2 a3 a4 => later ρ1 st1 H1 a1 a2 a3 (keepIt_of hl a4)) (fun ρ1 st1 H1 a1 a2 a3 a4 => later2 ρ1 st1 H1 a1 a2 a3 (keepIt_of hm a4)))⟩
        exact Classical.byContradiction fun q => hc ⟨e, q⟩
    · exact h1.elim
  · exact h1.elim
theorem si_zip (hg : Gl X "zip") (hm : X.mg "zip" = none) (h : SA K W X [e, e2] ta ma) (hK : X.K = K := by rfl) (hs : starEach [e, e2] X.env = (false, eval e X.env) :: starEach [e2] X.env := by rfl) (hpl : (backTo pos (starEach [e2] X.env)).any (·.1) = false := by rfl) :
    SI K W X (.Tuple elts kk tpos) (.Call (.Name "zip" p) [e, e2] [] pos) (iZipB K false ta) (iZp false ma) := by
  subst hK
  exact ⟨pi_zipB hg hm h.pa hs hpl, snd_zip false h.sd⟩
theorem si_zipS (hg : Gl X "zip") (hm : X.mg "zip" = none) (h : SA K W X [e, e2] ta ma) (hK : X.K = K := by rfl) (hs : starEach [e, e2] X.env = (false, eval e X.env) :: starEach [e2] X.env := by rfl)
    (hpl : ((backTo pos (starEach [e, e2] X.env)).any (·.1) || (backToKw pos (keywordEach [⟨some "strict", .Constant (.bool true) ck cp, kp⟩] X.env)).any (·.1.isNone)) = false := by rfl) :
    SI K W X (.Tuple elts kk tpos) (.Call (.Name "zip" p) [e, e2] [⟨some "strict", .Constant (.bool true) ck cp, kp⟩] pos) (iZipB K true ta) (iZp true ma) := by
  subst hK
  exact ⟨pi_zipS hg hm h.pa hs hpl, snd_zip true h.sd⟩
end
end L3
end

section
set_option Elab.async false
set_option linter.all false
set_option maxRecDepth 100000
set_option maxHeartbeats 400000
/-! L3g5: a, *b = a tuple; sets of ints by their number. -/
namespace L3
open PySem PySem.Spec PyProof.Rows L2
section
variable {prog : Program} {w : World} {A : Around} {E : Value → Shared → Prop} {s : Shared}
theorem starT {l : Addr} {items : Array Value} {n i : Nat} {Q : List Value → Shared → Prop} (hl : IsTup s.heap l items) (hh : A.handled = none) (hi : i < n) (hn : n ≤ items.size + 1) (hz : items.size ≤ sizeLine)
    (h : ∀ (y : Heap) (tk : Nat), (∀ b o, s.heap.get? b = some o → y.get? b = some o) →
      Q (items.toList.take i ++ [.ref y.objs.size] ++ (items.toList.drop i).drop (items.size + 1 - n)) { s with heap := y.push { cls := .type "list", data := .seq ((items.toList.drop i).take (items.size + 1 - n)).toArray }, toks := tk }) : wpAny (model prog w) A (unpackItems (.ref l) n (some i)) Q E s := by
  have hll : l < s.heap.objs.size := by
    obtain ⟨o, ho, _⟩ := hl
    exact Heap.lt_size ho
  have hne : l ≠ s.heap.objs.size := Nat.ne_of_lt hll
  unfold unpackItems
  refine wpAny_bind ?_
  unfold notIterableAtAll
  refine wpAny_bind (wpAny_specialOf hl.typeIs slot_tuple_iter.lookup (wpAny_pure ?_))
  simp only [Bool.false_eq_true, if_false]
  refine wpAny_bind (wpAny_holding (iter_tuple hl (wpAny_bind (wpAny_holding (draw_tuple hne i 0 _ _ ⟨_, Heap.get?_push_size _ rfl, rfl, rfl⟩ (hl.push _) (by omega) fun y1 t1 b1 => ?_)))))
  have hl1 : IsTup y1 l items := (hl.push _).extBut b1.extBut hne
  rw [Nat.zero_add] at t1
  obtain ⟨oi, hoi, _⟩ := id t1
  obtain ⟨ol, hol, _⟩ := id hl1
  rw [List.drop_zero]
  have hfl : (items.toList.take i).length = i := by
    rw [List.length_take, Array.length_toList]
    omega
  have hrl : (items.toList.drop i).length = items.size - i := by rw [List.length_drop, Array.length_toList]
  have hmid : (items.toList.drop i).length - (n - 1 - i) = items.size + 1 - n := by
    rw [hrl]
    omega
  rw [if_neg (by rw [hfl]; omega : ¬ (items.toList.take i).length < i)]
  refine wpAny_bind (wpAny_holding (PySem.W.kun_collect (s := { s with heap := y1 }) (T := "tuple_iterator") (.inr (.inr (.inr rfl))) (Walks.tuple (A := A.in1) hh s.heap.objs.size l hne items) (fun j u st => st.1.typeIs) (k := i) (by omega) ⟨t1, hl1⟩ (Heap.lt_size hoi) (Heap.lt_size hol) (fun y2 tk hk => ?_) hz))
  show wpAny _ _ (if (items.toList.drop i).length < n - 1 - i then _ else newList ((items.toList.drop i).take ((items.toList.drop i).length - (n - 1 - i))) >>= fun d => pure (items.toList.take i ++ [d] ++ (items.toList.drop i).drop ((items.toList.drop i).length - (n - 1 - i)))) _ _ _
  rw [if_neg (by rw [hrl]; omega), hmid]
  have up : ∀ b o, s.heap.get? b = some o → y2.get? b = some o := fun b o e => hk b o (Nat.ne_of_lt (Heap.lt_size e)) (b1.extBut _ _ (Nat.ne_of_lt (Heap.lt_size e)) (Heap.get?_push_of_some _ e))
  refine wpAny_bind (wpAny_newList (s := { s with heap := y2, toks := tk }) (wpAny_pure (h y2 tk up)) ?_)
  rw [List.length_take, hrl]
  omega
end
/-- a, *b, c = a tuple: the star at i of n -/
def gTupS (K : Frag) (n i : Nat) (t : TGs) : TG := fun v σ H Q => ∃ a xs, v = .ref a ∧ SqT K H a xs ∧ n ≤ xs.length + 1 ∧ ∀ D, H D = none → t (xs.take i ++ [.ref D] ++ (xs.drop i).drop (xs.length + 1 - n)) σ (upd H D (.lst ((xs.drop i).take (xs.length + 1 - n)))) Q
theorem Vals.app {xs ys : List V} {us ws : List Value} (h : Vals xs us) (h' : Vals ys ws) : Vals (xs ++ ys) (us ++ ws) := h.append h'
theorem pg_tupS {X : Cx} {es : List Expr} {k n i : Nat} {t : TGs} {pos : Pos} (hc : X.calm = true) (h : PGs X es t) (hn : (assignEach es X.env).length = n := by rfl) (hst : (assignEach es X.env).findIdx? (·.1) = some i := by rfl) (hi : i < n := by decide) : PG X (.Tuple es k pos) (gTupS X.K n i t) := by
  refine ⟨fun pins s σ H v u Q I r hw => ?_⟩
  obtain ⟨a, xs, e1, hq, hl, hw⟩ := hw
  subst e1
  cases r
  obtain ⟨its, rv, ht, hz⟩ := I.tuple hq
  have hlen : its.toArray.size = xs.length := by rw [List.size_toArray, rv.length]
  rw [assign_Tuple]
  refine wpAny_bind (wpAny_standAt ?_)
  unfold unpack
  rw [hn, hst]
  refine wpAny_bind (wpAny_holding (starT ht (I.ok.hd hc) hi (by rw [hlen]; exact hl) (by rw [hlen]; exact hz) fun y tk up => ?_))
  have I1 : Inv X pins σ H { s with heap := y, toks := tk } := I.kept up
  have hf : H y.objs.size = none := I1.hok.fresh (Nat.le_refl _)
  have rm : Vals ((xs.drop i).take (xs.length + 1 - n)) ((its.drop i).take (its.length + 1 - n)) := by
    rw [rv.length]
    exact (rv.drop _).take _
  have I2 : Inv X pins σ (upd H y.objs.size (.lst ((xs.drop i).take (xs.length + 1 - n)))) { s with heap := y.push { cls := .type "list", data := .seq ((its.toArray.toList.drop i).take (its.toArray.size + 1 - n)).toArray }, toks := tk } := by
    refine I1.laid (t' := tk) (fun b u e => Heap.get?_push_of_some _ e) (Nat.le_refl _) ⟨?_, _, 0, rm, ?_⟩
    · show ((xs.drop i).take (xs.length + 1 - n)).length ≤ sizeLine
      rw [List.length_take, List.length_drop]
      omega
    · simpa using Heap.get?_push_size _ rfl
  refine h.run pins _ σ _ _ _ Q I2 ?_ (hw _ hf)
  rw [rv.length]
  simp only [List.size_toArray]
  have one : Vals [V.ref y.objs.size] [Value.ref y.objs.size] := .cons rfl .nil
  exact ((rv.take i).append one).append ((rv.drop i).drop _)
section
variable {K : Frag} {X : Cx} {es : List Expr} {ts : TGs} {gs : MGs} {vs : List Nat} {pos : Pos}
def gTS (n i : Nat) (gs : MGs) : MG := fun v σ st => match v with
  | .tup l => if n ≤ l.length + 1 then gs (l.take i ++ [.lst ((l.drop i).take (l.length + 1 - n))] ++ (l.drop i).drop (l.length + 1 - n)) σ st else .bad
  | _ => .bad
theorem sg_tupS {k n i : Nat} (hc : X.calm = true) (h : SGs K X es ts gs) (hK : X.K = K := by rfl) (hn : (assignEach es X.env).length = n := by rfl) (hst : (assignEach es X.env).findIdx? (·.1) = some i := by rfl) (hi : i < n := by decide) : SG K X (.Tuple es k pos) (gTupS K n i ts) (gTS n i gs) := by
  subst hK
  refine ⟨pg_tupS hc h.pg hn hst hi, fun ρ st H σ τ v x Q E rs re rv hh => ?_⟩
  cases v with
  | tup l =>
    obtain ⟨a, xs, rfl, sa, ra⟩ := rv
    have hh : After X.K ρ st H (RE X.K) (if n ≤ l.length + 1 then gs (l.take i ++ [.lst ((l.drop i).take (l.length + 1 - n))] ++ (l.drop i).drop (l.length + 1 - n)) σ st else .bad) Q E := hh
    split at hh
    · rename_i hl
      refine ⟨a, xs, rfl, sqT_mono (fz_same _ _ _) sa, by rw [← ra.length]; exact hl, fun D hD => ?_⟩
      obtain ⟨e1, r1, f1⟩ := new_fz (o := .lst ((xs.drop i).take (xs.length + 1 - n))) rs hD
      have ra1 := ra.mono e1.pre e1.fz
      refine h.sd ρ st _ σ τ _ _ Q E r1 (re.mono e1.pre e1.fz) ?_ (hh.shift e1)
      rw [ra.length]
      have one : RV X.K ρ (Fz ρ st (upd H D (.lst ((xs.drop i).take (xs.length + 1 - n))))) (.lst ((l.drop i).take (xs.length + 1 - n))) (.ref D) := ⟨D, _, rfl, f1, (ra1.drop i).take _⟩
      exact ((ra1.take i).append (.one one)).append ((ra1.drop i).drop _)
    · exact hh.elim
  | _ => exact hh.elim
/-- the starred name -/
theorem pgs_star {X : Cx} {e : Expr} {es : List Expr} {t : TGs} {p : Pos} (h : PGs X (e :: es) t) (hs : (assignEach (.Starred e p :: es) X.env).map (·.2) = (assignEach (e :: es) X.env).map (·.2) := by rfl) : PGs X (.Starred e p :: es) t := by
  refine ⟨fun pins s σ H v u Q I r hw => ?_⟩
  rw [hs]
  exact h.run pins s σ H v u Q I r hw
theorem sgs_star {X : Cx} {e : Expr} {es : List Expr} {ts : TGs} {gs : MGs} {p : Pos} (h : SGs K X (e :: es) ts gs) (hs : (assignEach (.Starred e p :: es) X.env).map (·.2) = (assignEach (e :: es) X.env).map (·.2) := by rfl) : SGs K X (.Starred e p :: es) ts gs := ⟨pgs_star h.pg hs, h.sd⟩
end
end L3
end

section
set_option Elab.async false
set_option linter.all false
set_option maxRecDepth 100000
set_option maxHeartbeats 400000
/-! L3g6: {e for t in it}, e an int or a text; their number. -/
namespace L3
open PySem PySem.Spec PyProof.Rows L2
abbrev emptyK (P : Program) (w : World) (D : Addr) : HO := SetK P w D (fun _ => false) 0
abbrev withK (P : Program) (w : World) (D : Addr) (S : Key → Bool) (n : Nat) (k : Key) : HO := SetK P w D (fun j => S j || decide (j = k)) (if S k = true then n else n + 1)
def tScK (P : Program) (w : World) (wi : TI) (g : TG) (tt : TT) (te : TE) (vs : List Nat) : TE := fun σ H Q => wi σ H fun J H1 => ∀ D, H1 D = none → ∃ W : Nat → Nat → Hp → Prop, (∃ m, W 0 m (upd H1 D (emptyK P w D))) ∧ ∀ i m H, W i m H →
  (J.stop i H ∧ Q (.ref D) H) ∨ (J.go i H ∧ ∃ Nx : Hp → Prop, (∀ H', Nx H' → ∃ m', m' < m ∧ W (i + 1) m' H') ∧ ∀ x H', J.yld i H x H' → g x (wipe σ vs) H' fun σ2 H2 => wipe σ2 vs = wipe σ vs ∧ tt σ2 H2 fun b H3 =>
    if b = true then te σ2 H3 fun y H4 => ∃ k S n, y = kV k ∧ H4 D = some (SetK P w D S n) ∧ n + 1 < scanBound ∧ Nx (upd H4 D (withK P w D S n k)) else Nx H3)
section
variable {X : Cx} {elt tg iter : Expr} {ifs : List Expr} {scope : Scope} {own : List (PySem.Str × Nat)} {pos : Pos} {wi : TI} {g : TG} {tt : TT} {te : TE}
/-- a block's turn ends: what it pinned is let go, its own names are forgotten -/
theorem turn_back {Z : Cx} {fp : List Addr} {t7 : Shared} {σ0 σ8 : L2.St} {vs : List Nat} {t' : Shared} {G' : Hp} {P : Program} {w : World} {K : Frag} {J : It} {it : Addr} {tn : Nat → Heap → Prop} {i : Nat} (T : Turn P w K tg J fp it tn) (hs : tn (i + 1) t7.heap) (hw : wipe σ8 vs = wipe σ0 vs) (I : Inv Z ([] ++ pinsAt fp t7.heap) σ8 G' t') :
    Inv Z [] (wipe σ0 vs) G' t' ∧ tn (i + 1) t'.heap ∧ ∀ b ∈ fp, G' b = none := by
  have pin : ∀ b ∈ fp, ∀ o, t7.heap.get? b = some o → t'.heap.get? b = some o ∧ G' b = none := fun b hb o e =>
    have z := I.pin (b, o) (List.mem_append_right _ (List.mem_append_right _ (mem_pinsAt hb e)))
    ⟨z.1, z.2.1⟩
  refine ⟨(I.unpinned (pins := [])).weak (by rw [← hw, wipe_length]) fun j v e => ?_, T.keep _ _ _ hs fun b hb o e => (pin b hb o e).1, fun b hb => ?_⟩
  · rw [← hw] at e
    exact (wipe_some e).1
  · obtain ⟨o, e, _⟩ := T.obj _ _ hs b hb
    exact (pin b hb o e).2
theorem pe_scK (hc : X.calm = true) (hN : X.N.Nodup) (hi : PI X tg iter wi) (ok : BlkOk X.N X.env.scope scope own)
    (hg : ∀ s H C cl fp, PG (X.blk s H scope (compEnvC scope cl C X.env) fp) tg g) (ht : ∀ s H C cl fp, PTs (X.blk s H scope (compEnvC scope cl C X.env) fp) ifs tt)
    (he : ∀ s H C cl fp, PE (X.blk s H scope (compEnvC scope cl C X.env) fp) elt te) (hs : ∀ x, foldedSetIterable iter X.env x = pure x := by intro _; rfl) :
    PE X (.SetComp elt [⟨tg, iter, ifs, 0⟩] scope pos) (tScK X.prog X.w wi g tt te (own.map (·.2))) := by
  refine ⟨fun pins s σ H Q I h => ?_⟩
  rw [PpSet.eval_SetComp]
  have cells : ∀ y ∈ scope.names, y.2 = .free → ∃ c, X.env.cells.lookup y.1 = some c := fun y hy e => (ok.free y hy e).elim (fun k => I.ok.has _ (.inl k)) fun k => I.ok.has _ (.inr k)
  refine wpAny_comprehension_free (use := none) rfl hs (closure_ok cells) ok.kind (fun y hy e => by rw [ok.uniq y hy, e]) ?_
  refine thn (hi.run pins s σ H _ I h) fun _ t1 hx => thn hx fun _ t2 ⟨it, fp, tn, J, G2, e, I2, T, st2, f2, q⟩ => ?_
  subst e
  refine PpSet.newSet_ok (newEnv_comp ?_)
  have hD0 : G2 t2.heap.objs.size = none := I2.hok.fresh (Nat.le_refl _)
  obtain ⟨W, ⟨m0, w0⟩, turn⟩ := q _ hD0
  have new : (t2.heap.push { cls := .type "set", dict := none, data := .set #[] 0 (.fresh 0 0 (!X.w.params.followText "set-order")) }).SetOf (mixKind X.prog X.w) t2.heap.objs.size (fun _ => false) 0 :=
    ⟨_, #[], 0, _, Heap.get?_push_size _ rfl, ⟨rfl, rfl, rfl⟩, rfl, (fun e he => by simp at he), (fun k => by simp), (by decide), (by rfl), rfl⟩
  have I3 : Inv X pins σ (upd G2 t2.heap.objs.size (emptyK X.prog X.w t2.heap.objs.size)) { t2 with heap := t2.heap.push { cls := .type "set", dict := none, data := .set #[] 0 (.fresh 0 0 (!X.w.params.followText "set-order")) } } :=
    I2.laid (t' := t2.toks) (fun b o e => Heap.get?_push_of_some _ e) (Nat.le_refl _) (setK_new new)
  generalize hD : t2.heap.objs.size = D at I3 w0 turn hD0 ⊢
  have k3 : ∀ b o, t2.heap.get? b = some o → (t2.heap.push { cls := .type "set", dict := none, data := .set #[] 0 (.fresh 0 0 (!X.w.params.followText "set-order")) }).get? b = some o := fun b o e => Heap.get?_push_of_some _ e
  have z3 : t2.heap.objs.size < (t2.heap.push { cls := .type "set", dict := none, data := .set #[] 0 (.fresh 0 0 (!X.w.params.followText "set-order")) }).objs.size := by
    rw [Heap.size_push]
    exact Nat.lt_succ_self _
  generalize t2.heap.push { cls := .type "set", dict := none, data := .set #[] 0 (.fresh 0 0 (!X.w.params.followText "set-order")) } = y3 at I3 k3 z3 ⊢
  generalize hG3 : upd G2 D (emptyK X.prog X.w D) = G3 at I3 w0
  generalize ht3 : ({ t2 with heap := y3 } : Shared) = t3 at I3
  have e3 : t3.heap = y3 := by rw [← ht3]
  have f3 : ∀ b ∈ fp, FpOk X pins G3 b ∧ b < t3.heap.objs.size := fun b hb => by
    obtain ⟨o, e, _⟩ := T.obj _ _ st2 b hb
    have lt := Heap.lt_size e
    refine ⟨⟨?_, (f2 b hb).2⟩, by rw [e3]; exact Nat.lt_trans lt z3⟩
    rw [← hG3, upd_ne (by rw [← hD]; exact Nat.ne_of_lt lt)]
    exact (f2 b hb).1
  have I4 := block_start I3 ok hN f3
  have pg := hg t3 G3 t3.heap.objs.size (cellsFrom (t3.heap.objs.size + 1) scope.names (cloFrom X.env.cells scope.names [])) fp
  have pt := ht t3 G3 t3.heap.objs.size (cellsFrom (t3.heap.objs.size + 1) scope.names (cloFrom X.env.cells scope.names [])) fp
  have pe := he t3 G3 t3.heap.objs.size (cellsFrom (t3.heap.objs.size + 1) scope.names (cloFrom X.env.cells scope.names [])) fp
  have st4 : tn 0 (pushCells (t3.heap.push { cls := .type "dict", data := .dict #[] }) scope.names) := T.keep _ _ _ st2 fun b _ o e => pushCells_keeps _ _ _ _ (Heap.get?_push_of_some _ (by rw [e3]; exact k3 b o e))
  have goal : codeAny (model X.prog X.w) X.A (.compStart (.SetComp elt [⟨tg, iter, ifs, 0⟩] scope pos) 0 (.ref it) (.ref D) (compEnvC scope (cellsFrom (t3.heap.objs.size + 1) scope.names (cloFrom X.env.cells scope.names [])) t3.heap.objs.size X.env))
      (compPost (model X.prog X.w) X.A X.xe none (EP X pins σ Q) (.ref D) t3.heap.objs.size) { t3 with heap := pushCells (t3.heap.push { cls := .type "dict", data := .dict #[] }) scope.names } := by
    generalize hce : compEnvC scope (cellsFrom (t3.heap.objs.size + 1) scope.names (cloFrom X.env.cells scope.names [])) t3.heap.objs.size X.env = ce at I4 pg pt pe ⊢
    have cL : ce.locals = t3.heap.objs.size := by
      subst hce
      rfl
    generalize hZ : X.blk t3 G3 scope ce fp = Z at I4 pg pt pe
    have zP : Z.prog = X.prog := by rw [← hZ]
    have stat : ∀ {σ' : L2.St} {G' : Hp} {t' : Shared}, Inv Z [] σ' G' t' → (∀ b ∈ fp, G' b = none) → ∀ b ∈ fp, FpOk Z [] G' b := fun I' hn b hb => by
      subst hZ
      exact ⟨hn b hb, (I'.ok.exf b hb).1, I'.ok.exfs b hb, .inl hb, fun x c e => (I'.ok.exf b hb).2 x c e, fun p hp => absurd (show p ∈ ([] : List (Addr × Obj)) ++ [] from hp) (by simp)⟩
    subst hZ
    have nfp : ∀ b ∈ fp, G3 b = none := fun b hb => (f3 b hb).1.1
    refine PpSet.codeAny_compStart_set ?_ (T.self X.A 0 _ _ _ st4 ?_) <;>
    · refine PpSet.compLoopS_any (fun n t' => ∃ i G', Inv (X.blk t3 G3 scope ce fp) [] (wipe σ (own.map (·.2))) G' t' ∧ tn i t'.heap ∧ (∀ b ∈ fp, G' b = none) ∧ W i n G') ?_ m0 ⟨0, G3, I4, st4, nfp, w0⟩
      rintro n t5 ⟨i, G5, I5, st5, n5, w5⟩
      rcases turn i n G5 w5 with ⟨stop, qq⟩ | ⟨go, Nx, hNx, step⟩
      · refine thnF (T.done (X.blk t3 G3 scope ce fp) rfl rfl rfl hc i [] t5 _ G5 (fun _ _ => False) I5 (stat I5 n5) st5 stop) fun r t6 ⟨hr, I6⟩ => ?_
        subst hr
        have I7 : Inv X pins σ G5 t6 := I3.call' (ch := fp) I6.os I6.base I6.hok I6.bare fun b hb => ⟨(f3 b hb).1.2.2.2.1, (f3 b hb).1.2.1, (f3 b hb).1.2.2.2.2.1, (f3 b hb).1.2.2.2.2.2⟩
        obtain ⟨m, hn, _⟩ := I6.loc
        have hn : t6.heap.Ns ce.locals m := hn
        have nC : G5 ce.locals = none := I6.free
        rw [cL] at hn nC
        obtain ⟨p0, p1, p2, p3, p4, p5⟩ := I3.fpOk (Nat.le_refl _) nC
        exact ⟨m, hn, fun h'' sb => ⟨.ref D, G5, I7.turned (t' := t6.toks) (fun b o hb e => (sb.2 b hb).trans e) p0 p1 p3 p4 p5, rfl, qq⟩⟩
      · refine thnF (T.item (X.blk t3 G3 scope ce fp) rfl rfl rfl hc i [] t5 _ G5 (fun _ _ => False) I5 (stat I5 n5) st5 go) fun r t6 ⟨u, hr, h6⟩ => ?_
        subst hr
        refine thnF h6 fun _ t7 ⟨x, G7, I7, r7, y7, st7, n7⟩ => ?_
        refine thnF (pg.run _ t7 _ G7 x u _ (I7.pinned (stat I7 n7) (T.obj _ _ st7)) r7 (step x G7 y7)) fun _ t8 ⟨σ8, G8, I8, hw8, q8⟩ => ?_
        refine thnF (pt.run _ t8 σ8 G8 _ I8 q8) fun b t9 ⟨G9, I9, q9⟩ => ?_
        have fin : ∀ {t' : Shared} {G' : Hp}, Inv (X.blk t3 G3 scope ce fp) ([] ++ pinsAt fp t7.heap) σ8 G' t' → Nx G' → ∃ m, m < n ∧ ∃ i G', Inv (X.blk t3 G3 scope ce fp) [] (wipe σ (own.map (·.2))) G' t' ∧ tn i t'.heap ∧ (∀ b ∈ fp, G' b = none) ∧ W i m G' := fun {t' G'} I' nx => by
          obtain ⟨m', hm, w'⟩ := hNx G' nx
          obtain ⟨a1, a2, a3⟩ := turn_back T st7 hw8 I'
          exact ⟨m', hm, i + 1, G', a1, a2, a3, w'⟩
        cases b with
        | false => exact fin I9 q9
        | true =>
          refine thnF (pe.run _ t9 σ8 G9 _ I9 q9) fun z t10 ⟨yv, G10, I10, r10, k, S, c, ey, hD10, hz10, nx⟩ => ?_
          subst ey
          refine thnF (mt_saddK (X := X.blk t3 G3 scope ce fp) _ t10 σ8 G10 (.ref D) [kV k] (.ref D) [z] _ I10 rfl (.cons r10 .nil) ⟨D, k, S, c, rfl, rfl, hD10, hz10, nx⟩) fun _ t11 ⟨_, G11, I11, _, q11⟩ => fin I11 q11
  subst ht3
  exact goal
end
/-! ### their number -/
def rLenK (P : Program) (w : World) : List V → Hp → VK → Prop := fun xs H Q => ∃ a S n, xs = [.ref a] ∧ H a = some (SetK P w a S n) ∧ Q (.int (n : Nat)) H
theorem call_lenK {X : Cx} : CallR X (.builtin "len") (rLenK X.prog X.w) := by
  intro pins s σ H xs us Q I r h
  obtain ⟨a, S, n, rfl, ha, q⟩ := h
  obtain rfl := Vals.ref1 r
  obtain ⟨o, es, ep, t, ho, hex, hd, _, _, hb, hf, hn⟩ := setK_get I ha
  refine call_len_set ho hex hd hf ?_ ⟨.int (n : Nat), H, I.tok _, ⟨_, by rw [hn]⟩, q⟩
  have hb : es.size < 2 ^ 62 := Nat.lt_of_lt_of_le hb (by decide)
  omega
def keyV : Val → Option Key
  | .int i => some (.inl i)
  | .str s => some (.inr s)
  | _ => none
theorem keyV_of {K : Frag} {ρ : Rho} {H : Hp} {v : Val} {x : V} {k : Key} (h : RV K ρ H v x) (e : keyV v = some k) : x = kV k := by
  cases v <;> first | (cases e; exact h) | cases e
def memK (k : Key) (acc : List Key) : Bool := acc.any fun j => decide (k = j)
def addK (acc : List Key) (k : Key) : List Key := if memK k acc = true then acc else acc ++ [k]
open Classical in
noncomputable def scGo (keep : Sto → Prop) (g : MG) (c : MT) (me : ME) (σ0 : Env) : List Val → List Key → Sto → Res Nat
  | [], acc, st => if keep st then .ok acc.length st else .bad
  | v :: l, acc, st => if keep st then (g v σ0 st).calm fun σ1 st1 => (c σ1 st1).calm fun b st2 =>
      if b = true then (me σ1 st2).calm fun w st3 => (match keyV w with
        | some k => if acc.length + 1 < scanBound then scGo keep g c me σ0 l (addK acc k) st3 else .bad
        | none => .bad) else scGo keep g c me σ0 l acc st2 else .bad
noncomputable def mLenSc (mi : MI) (g : MG) (c : MT) (me : ME) (vs : List Nat) : ME := fun σ st => (mi σ st).bind fun p st1 => (scGo p.2 g c me (wipeE σ vs) p.1 [] st1).bind fun n st2 => .ok (.int (n : Nat)) st2
theorem wipe_wipe {τ : L2.St} {vs : List Nat} : wipe (wipe τ vs) vs = wipe τ vs := by
  have one : ∀ (u : Nat) (l : List Nat), u ∈ l → (wipe τ l).set u none = wipe τ l := by
    intro u l
    induction l with
    | nil => intro h; cases h
    | cons w l ih =>
      intro h
      show ((wipe τ l).set w none).set u none = (wipe τ l).set w none
      by_cases hw : u = w
      · subst hw; rw [List.set_set]
      · rw [List.set_comm _ _ (Ne.symm hw), ih ((List.mem_cons.mp h).resolve_left hw)]
  have key : ∀ us : List Nat, (∀ i ∈ us, i ∈ vs) → wipe (wipe τ vs) us = wipe τ vs := by
    intro us
    induction us with
    | nil => intro _; rfl
    | cons u us ih =>
      intro h
      show (wipe (wipe τ vs) us).set u none = wipe τ vs
      rw [ih fun i hi => h i (List.mem_cons_of_mem _ hi)]
      exact one u vs (h u List.mem_cons_self)
  exact key vs fun _ h => h
section
variable {K : Frag} {W : WX} {X : Cx} {P : Program} {w : World} {pos p spos : Pos} {elt tg iter : Expr} {ifs : List Expr} {scope : Scope} {wi : TI} {mi : MI} {g : TG} {gm : MG} {tt : TT} {mt : MT} {te : TE} {me : ME} {vs : List Nat}
/-- what is known of the set being made -/
def ScAt (P : Program) (w : World) (H : Hp) (D : Addr) (acc : List Key) : Prop := ∃ S, H D = some (SetK P w D S acc.length) ∧ ∀ k, S k = memK k acc
theorem ScAt.add {H : Hp} {D : Addr} {acc : List Key} {S : Key → Bool} (hS : ∀ k, S k = memK k acc) (k : Key) : ScAt P w (upd H D (withK P w D S acc.length k)) D (addK acc k) := by
  unfold addK
  have e := hS k
  cases hk : memK k acc with
  | true =>
    rw [hk] at e
    refine ⟨fun j => S j || decide (j = k), by rw [upd_same, if_pos rfl]; unfold withK; rw [e, if_pos rfl], fun j => ?_⟩
    show (S j || decide (j = k)) = _
    rw [hS]
    by_cases hj : j = k
    · subst hj; rw [hk, if_pos rfl, hk]; rfl
    · rw [if_pos rfl, decide_eq_false hj, Bool.or_false]
  | false =>
    rw [hk] at e
    refine ⟨fun j => S j || decide (j = k), by rw [upd_same, if_neg (by decide), List.length_append]; unfold withK; rw [e, if_neg (by decide)]; rfl, fun j => ?_⟩
    show (S j || decide (j = k)) = _
    rw [hS, if_neg (by decide)]
    unfold memK
    rw [List.any_append]
    simp
theorem snd_lenSc (hi : SndI K W wi mi) (hg : SndGw K vs g gm) (ht : SndT K (fun _ _ _ _ => False) tt mt) (he : SndE K (fun _ _ _ _ => False) te me) :
    SndE K W (tCB (rLenK P w) (tCons (tScK P w wi g tt te vs) tNil)) (mLenSc mi gm mt me vs) := by
  intro ρ st H σ τ Q rs re q
  refine hi ρ st H σ τ _ rs re (After.bind q fun p st1 ρ1 H1 J _ e1 rs1 src hh D hD => ?_)
  obtain ⟨items, keep⟩ := p
  have nD := rs1.fresh hD
  have ef : Fz (hideR ρ1 D) st1 (upd H1 D (emptyK P w D)) = Fz ρ1 st1 H1 := fz_hide nD hD fun b hb => upd_ne hb
  have rsD : RS K (hideR ρ1 D) st1 (upd H1 D (emptyK P w D)) := rs1.hide hD
  have reD : RE K (hideR ρ1 D) (Fz ρ1 st1 H1) (wipeE σ vs) (wipe τ vs) := RE.mono (ρ := ρ1) (ρ' := hideR ρ1 D) List.prefix_rfl (Same.refl _) ((re.mono e1.pre e1.fz).wipe vs)
  have hnD : D ∉ ρ1.2 := fun z => nD (.inl z)
  have hh : After K ρ1 st1 H1 (RV K) ((scGo keep gm mt me (wipeE σ vs) items [] st1).bind fun n st2 => .ok (.int (n : Nat)) st2) Q (fun c d H' => W c d τ H') := hh
  -- what holds ahead of each turn
  let Ok : Nat → Hp → Prop := fun i H => ∃ ρ' st' acc, ρ1.1 <+: ρ'.1 ∧ Same (Fz ρ1 st1 H1) (Fz ρ' st' H) ∧ ρ'.2 = D :: ρ1.2 ∧ (∀ b ∈ ρ1.2, H b = H1 b) ∧ RS K ρ' st' H ∧ ScAt P w H D acc ∧
    (∃ r, r = scGo keep gm mt me (wipeE σ vs) (items.drop i) acc st' ∧ After K ρ1 st1 H1 (RV K) (r.bind fun n st2 => .ok (.int (n : Nat)) st2) Q (fun c d H' => W c d τ H'))
  refine ⟨fun i m H => Ok i H ∧ m = items.length - i ∧ i ≤ items.length, ⟨items.length, ⟨hideR ρ1 D, st1, [], List.prefix_rfl, by rw [ef]; exact Same.refl _, rfl, fun b hb => upd_ne fun z => hnD (by rw [← z]; exact hb), rsD, ⟨_, upd_same, fun k => rfl⟩, _, rfl, hh⟩, rfl, Nat.zero_le _⟩, ?_⟩
  rintro i m H2 ⟨⟨ρ2, st2, acc, pre2, base2, hs2, hid2, rs2, hac, r, rfl, h2⟩, rfl, hle⟩
  have hD2 : D ∈ ρ2.2 := by rw [hs2]; exact List.mem_cons_self
  cases hn : items[i]? with
  | none =>
    have hd : items.drop i = [] := List.drop_eq_nil_of_le (List.getElem?_eq_none_iff.mp hn)
    rw [hd] at h2
    unfold scGo at h2
    split at h2
    · rename_i hk
      refine .inl ⟨(src ρ2 st2 H2 pre2 base2 rs2 hk i).2 (Nat.le_antisymm hle (List.getElem?_eq_none_iff.mp hn)), ?_⟩
      have e22 : ρ2 = hideR (ρ2.1, ρ1.2) D := Prod.ext rfl hs2
      rw [e22] at rs2 base2
      obtain ⟨rs3, sm3, _⟩ := rs2.unhide hnD
      obtain ⟨S, hS, _⟩ := hac
      refine ⟨D, S, acc.length, rfl, hS, h2 (ρ2.1, ρ1.2) H2 _ ⟨pre2, base2.trans sm3, rfl, hid2⟩ rs3 rfl⟩
    · exact h2.elim
  | some v =>
    obtain ⟨hlt, hv⟩ := List.getElem?_eq_some_iff.mp hn
    have hd : items.drop i = v :: items.drop (i + 1) := by rw [List.drop_eq_getElem_cons hlt, hv]
    rw [hd] at h2
    unfold scGo at h2
    split at h2
    · rename_i hk
      obtain ⟨go, yl⟩ := (src ρ2 st2 H2 pre2 base2 rs2 hk i).1 v hn
      refine .inr ⟨go, Ok (i + 1), fun H' h' => ⟨items.length - (i + 1), by omega, h', rfl, hlt⟩, fun x H' hy => ?_⟩
      obtain ⟨e3, rs3, rv⟩ := yl x H' hy
      have step : ∀ {ρ' : Rho} {st' : Sto} {H'' : Hp}, Ext ρ2 st2 H2 ρ' st' H'' → ρ1.1 <+: ρ'.1 ∧ Same (Fz ρ1 st1 H1) (Fz ρ' st' H'') ∧ ρ'.2 = D :: ρ1.2 ∧ (∀ b ∈ ρ1.2, H'' b = H1 b) ∧ H'' D = H2 D := fun e =>
        ⟨pre2.trans e.pre, base2.trans e.fz, e.hs.trans hs2, fun b hb => (e.hid b (by rw [hs2]; exact List.mem_cons_of_mem _ hb)).trans (hid2 b hb), e.hid D hD2⟩
      obtain ⟨σ4, st4, er⟩ : ∃ σ1 s1, gm v (wipeE σ vs) st2 = .ok σ1 s1 := by
        cases hq : gm v (wipeE σ vs) st2 with
        | ok a s => exact ⟨a, s, rfl⟩
        | exc a s => rw [hq] at h2; exact h2.elim
        | bad => rw [hq] at h2; exact h2.elim
      rw [er] at h2
      refine hg ρ2 st2 H' (wipeE σ vs) (wipe τ vs) v x _ (fun _ _ _ => False) rs3 (RE.mono (ρ := hideR ρ1 D) pre2 (base2.trans e3.fz) reD) rv ?_
      rw [er]
      intro ρ4 H4 τ4 e4 rs4 re4 w4
      refine ⟨w4.trans wipe_wipe, ?_⟩
      replace h2 : After K ρ1 st1 H1 (RV K) (((mt σ4 st4).calm fun b st2 => if b = true then (me σ4 st2).calm fun w st3 => (match keyV w with
        | some k => if acc.length + 1 < scanBound then scGo keep gm mt me (wipeE σ vs) (items.drop (i + 1)) (addK acc k) st3 else .bad
        | none => .bad) else scGo keep gm mt me (wipeE σ vs) (items.drop (i + 1)) acc st2).bind fun n st2 => .ok (.int (n : Nat)) st2) Q (fun c d H' => W c d τ H') := h2
      obtain ⟨b, st5, ht4⟩ : ∃ b s1, mt σ4 st4 = .ok b s1 := by
        cases hq : mt σ4 st4 with
        | ok a s => exact ⟨a, s, rfl⟩
        | exc a s => rw [hq] at h2; exact h2.elim
        | bad => rw [hq] at h2; exact h2.elim
      rw [ht4] at h2
      refine ht ρ4 st4 H4 σ4 τ4 _ rs4 re4 ?_
      rw [ht4]
      intro ρ5 H5 b' e5 rs5 eb
      subst eb
      have e35 : Ext ρ2 st2 H2 ρ5 st5 H5 := e3.trans (e4.trans e5)
      obtain ⟨a1, a2, a3, a4, a5⟩ := step e35
      cases b with
      | false =>
        obtain ⟨S, hS, hS2⟩ := hac
        exact ⟨ρ5, st5, acc, a1, a2, a3, a4, rs5, ⟨S, by rw [a5]; exact hS, hS2⟩, _, rfl, h2⟩
      | true =>
        replace h2 : After K ρ1 st1 H1 (RV K) (((me σ4 st5).calm fun w st3 => (match keyV w with
          | some k => if acc.length + 1 < scanBound then scGo keep gm mt me (wipeE σ vs) (items.drop (i + 1)) (addK acc k) st3 else .bad
          | none => .bad)).bind fun n st2 => .ok (.int (n : Nat)) st2) Q (fun c d H' => W c d τ H') := h2
        obtain ⟨w', st6, he5⟩ : ∃ b s1, me σ4 st5 = .ok b s1 := by
          cases hq : me σ4 st5 with
          | ok a s => exact ⟨a, s, rfl⟩
          | exc a s => rw [hq] at h2; exact h2.elim
          | bad => rw [hq] at h2; exact h2.elim
        rw [he5] at h2
        show te τ4 H5 _
        refine he ρ5 st5 H5 σ4 τ4 _ rs5 (re4.mono e5.pre e5.fz) ?_
        rw [he5]
        intro ρ6 H6 y e6 rs6 ry
        obtain ⟨a1, a2, a3, a4, a5⟩ := step (e35.trans e6)
        replace h2 : After K ρ1 st1 H1 (RV K) ((match keyV w' with
          | some k => if acc.length + 1 < scanBound then scGo keep gm mt me (wipeE σ vs) (items.drop (i + 1)) (addK acc k) st6 else .bad
          | none => .bad).bind fun n st2 => .ok (.int (n : Nat)) st2) Q (fun c d H' => W c d τ H') := h2
        split at h2
        · rename_i k hkv
          split at h2
          · rename_i hz
            obtain ⟨S, hS, hS2⟩ := hac
            have e66 : ρ6 = hideR (ρ6.1, ρ1.2) D := Prod.ext rfl a3
            rw [e66] at rs6 a2
            obtain ⟨r7, f7⟩ := rs6.rehide (o := withK P w D S acc.length k)
            refine ⟨k, S, acc.length, keyV_of ry hkv, by rw [a5]; exact hS, hz, hideR (ρ6.1, ρ1.2) D, st6, addK acc k, a1, by rw [f7]; exact a2, rfl, fun b hb => ?_, r7, ScAt.add hS2 k, _, rfl, h2⟩
            rw [upd_ne fun z => hnD (by rw [← z]; exact hb)]
            exact a4 b hb
          · exact h2.elim
        · exact h2.elim
    · exact h2.elim
theorem se_lenSc {pc : Pos} (own : List (PySem.Str × Nat)) (hc : X.calm = true) (hN : X.N.Nodup) (hgl : Gl X "len") (hml : X.mg "len" = none) (hi : SI K W X tg iter wi mi) (ok : blkC X.N X.env.scope scope own = true)
    (hg : ∀ (s : Shared) (H : Hp) (C : Addr) (cl : List (Str × Addr)) (fp : List Addr), SGw K (X.blk s H scope (compEnvC scope cl C X.env) fp) (own.map (·.2)) tg g gm)
    (ht : ∀ (s : Shared) (H : Hp) (C : Addr) (cl : List (Str × Addr)) (fp : List Addr), SIf K (X.blk s H scope (compEnvC scope cl C X.env) fp) ifs tt mt)
    (he : ∀ (s : Shared) (H : Hp) (C : Addr) (cl : List (Str × Addr)) (fp : List Addr), SE K (fun _ _ _ _ => False) (X.blk s H scope (compEnvC scope cl C X.env) fp) elt te me) (hs : ∀ x, foldedSetIterable iter X.env x = pure x := by intro _; rfl)
    (na : starEach [.SetComp elt [⟨tg, iter, ifs, 0⟩] scope pos] X.env = (false, eval (.SetComp elt [⟨tg, iter, ifs, 0⟩] scope pos) X.env) :: starEach [] X.env := by rfl) :
    SE K W X (.Call (.Name "len" p) [.SetComp elt [⟨tg, iter, ifs, 0⟩] scope pos] [] pc) (tCB (rLenK X.prog X.w) (tCons (tScK X.prog X.w wi g tt te (own.map (·.2))) tNil)) (mLenSc mi gm mt me (own.map (·.2))) :=
  ⟨pe_callB call_lenK hgl hml rfl (pa_cons (pe_scK hc hN hi.pi (blkOk_by ok) (fun s H C cl fp => (hg s H C cl fp).pg) (fun s H C cl fp => (ht s H C cl fp).pt) (fun s H C cl fp => (he s H C cl fp).pe) hs) pa_nil na) (by decide) (by decide) na rfl,
    snd_lenSc hi.sd (hg {} (fun _ => none) 0 [] []).sd (ht {} (fun _ => none) 0 [] []).sd (he {} (fun _ => none) 0 [] []).sd⟩
end
end L3
end

section
set_option Elab.async false
set_option linter.all false
set_option maxRecDepth 100000
set_option maxHeartbeats 400000
/-! L3g7: dicts with tuples for keys. -/
namespace L3
open PySem PySem.Spec PyProof.Rows L2
section
variable {K : Frag} {X : Cx} {pins : List (Addr × Obj)} {ρ : Rho} {st : Sto} {H : Hp} {τ : L2.St} {s : Shared}
mutual
theorem nk_isX (I : Inv X pins τ H s) : ∀ {v : Val} {x : V} {u : Value} {k : NestedKey}, RV X.K ρ (Fz ρ st H) v x → RelV x u → nkOf v = some k → NestedIs s.heap k u
  | .non, _, _, _, r, q, e => by cases e; cases (show _ = _ from r); cases q; exact .none
  | .bl b, _, _, _, r, q, e => by cases e; cases (show _ = _ from r); cases q; exact .bool rfl
  | .int i, _, _, _, r, q, e => by cases e; cases (show _ = _ from r); obtain ⟨t, rfl⟩ := q; exact .int i t
  | .str x, _, _, _, r, q, e => by cases e; cases (show _ = _ from r); obtain ⟨t, rfl⟩ := q; exact .text x t
  | .tup l, _, _, _, ⟨a, xs, e0, sa, ra⟩, q, e => by
    subst e0
    obtain ⟨ks, e1, rfl⟩ := Option.map_eq_some_iff.mp (show (nksOf l).map NestedKey.tup = _ from e)
    cases q
    obtain ⟨its, rv, ⟨o, ho, hc, n, hd⟩, _⟩ := I.tuple (sqT_mono (fz_same _ _ _) sa)
    exact .tup ho hc hd (by rw [List.toList_toArray]; exact nks_isX I ra rv e1)
  | .ty _, _, _, _, _, _, e => by cases e
  | .ref _, _, _, _, _, _, e => by cases e
  | .lst _, _, _, _, _, _, e => by cases e
  | .cst _, _, _, _, _, _, e => by cases e
  | .loc _, _, _, _, _, _, e => by cases e
theorem nks_isX (I : Inv X pins τ H s) : ∀ {l : List Val} {xs : List V} {us : List Value} {ks : List NestedKey}, RVs X.K ρ (Fz ρ st H) l xs → Vals xs us → nksOf l = some ks → NestedAll s.heap ks us
  | [], _, _, _, r, q, e => by cases (show _ = _ from r); cases q; cases e; exact .nil
  | v :: l, _, _, _, ⟨y, ys, e0, r1, r2⟩, q, e => by
    subst e0
    unfold nksOf at e
    obtain ⟨k, e1, e2⟩ := Option.bind_eq_some_iff.mp e
    obtain ⟨ks, e3, rfl⟩ := Option.map_eq_some_iff.mp e2
    cases q with
    | cons q1 q2 => exact .cons (nk_isX I r1 q1 e1) (nks_isX I r2 q2 e3)
end
theorem nk_is (hK : X.K = K) (I : Inv X pins τ H s) {v : Val} {x : V} {u : Value} {k : NestedKey} (r : RV K ρ (Fz ρ st H) v x) (q : RelV x u) (e : nkOf v = some k) : NestedIs s.heap k u := by
  subst hK
  exact nk_isX I r q e
/-- the entries as the library tells them -/
def zip3 (ks : List (NestedKey × Addr)) (us : List Value) : List (NestedKey × Addr × Value) := (ks.zip us).map fun p => (p.1.1, p.1.2, p.2)
theorem entN_zip {P : Program} {w : World} : ∀ {ks : List (NestedKey × Addr)} {us : List Value}, entN w ks us = (zip3 ks us).map (entryOfKey (nestedKind P w))
  | [], us => by cases us <;> rfl
  | (k, b) :: ks, [] => rfl
  | (k, b) :: ks, u :: us => by
    show ⟨k.hash w, .ref b, u⟩ :: entN w ks us = _
    rw [entN_zip]
    rfl
theorem zip3_fst : ∀ {ks : List (NestedKey × Addr)} {us : List Value}, ks.length = us.length → (zip3 ks us).map (·.1) = ks.map (·.1)
  | [], us, h => by cases us <;> rfl
  | (k, b) :: ks, [], h => by cases h
  | (k, b) :: ks, u :: us, h => by
    show k :: (zip3 ks us).map (·.1) = k :: ks.map (·.1)
    rw [zip3_fst (Nat.succ.inj h)]
theorem zip3_mem {ks : List (NestedKey × Addr)} {us : List Value} {x : NestedKey × Addr × Value} (h : x ∈ zip3 ks us) : (x.1, x.2.1) ∈ ks := by
  obtain ⟨p, hp, rfl⟩ := List.mem_map.mp h
  exact (List.of_mem_zip hp).1
/-- of keys that are tuples: each is what it says -/
theorem keys_is (hK : X.K = K) (I : Inv X pins τ H s) : ∀ {l : List Val} {ks : List (NestedKey × Addr)}, l.map nkOf = ks.map (fun p => some p.1) → RVs K ρ (Fz ρ st H) l (ks.map fun p => V.ref p.2) → ∀ p ∈ ks, NestedIs s.heap p.1 (.ref p.2)
  | [], [], _, _, p, hp => by cases hp
  | [], _ :: _, e, _, _, _ => by cases e
  | _ :: _, [], e, _, _, _ => by cases e
  | v :: l, q :: ks, e, r, p, hp => by
    obtain ⟨y, ys, e1, r1, r2⟩ := r
    injection e1 with e1 e2
    subst e1
    subst e2
    injection e with e1 e2
    rcases List.mem_cons.mp hp with hp | hp
    · subst hp; exact nk_is hK I r1 rfl e1
    · exact keys_is hK I e2 r2 p hp
theorem nd_open (hK : X.K = K) (I : Inv X pins τ H s) {a : Addr} {ks : List (NestedKey × Addr)} {vs : List V} (e : H a = some (ndO X.w a ks vs)) {l : List Val} (e1 : l.map nkOf = ks.map (fun p => some p.1)) (r : RVs K ρ (Fz ρ st H) l (ks.map fun p => V.ref p.2)) :
    ∃ us : List Value, Vals vs us ∧ ks.length = us.length ∧ (∀ k ∈ ks, k.1.depth ≤ 8) ∧ (a == sysModules) = false ∧ s.heap.DictOfH (nestedKind X.prog X.w) a (zip3 ks us) := by
  obtain ⟨us, rv, hl, nd, hd, lo, o, es, ep, ho, hx, hdt, he⟩ := (I.hok a _ e).1
  refine ⟨us, rv, hl, hd, lo, o, es, ep, ho, hx, hdt, by rw [he, entN_zip], fun x hx => ?_, by rw [zip3_fst hl]; exact nd⟩
  exact ⟨keys_is hK I e1 r _ (zip3_mem hx), hd _ (zip3_mem hx)⟩
end
theorem nd_at {P : Program} {w : World} {H : Hp} {h : Heap} {a : Addr} {ks : List (NestedKey × Addr)} {vs : List V} {us : List Value} (rv : Vals vs us) (hl : ks.length = us.length) (hd : ∀ k ∈ ks, k.1.depth ≤ 8) (lo : (a == sysModules) = false) (m : h.DictOfH (nestedKind P w) a (zip3 ks us)) : ObjOk P w H h a (ndO w a ks vs) := by
  obtain ⟨o, es, ep, ho, hx, hdt, he, _, nd⟩ := m
  refine ⟨⟨us, rv, hl, by rw [← zip3_fst hl]; exact nd, hd, lo, o, es, ep, ho, hx, hdt, by rw [he, entN_zip]⟩, ⟨o, ho⟩, fun h1 h2 q k => ?_⟩
  obtain ⟨us, rv, hl, nd, hd, lo, o, es, ep, ho, r⟩ := q
  exact ⟨us, rv, hl, nd, hd, lo, o, es, ep, k o ho, r⟩
/-! {} -/
def tNew (w : World) : TE := fun _ H Q => ∀ p, H p = none → Q (.ref p) (upd H p (ndO w p [] []))
def mNewN (w : World) : ME := fun _ st => .ok (.loc st.length) (st ++ [.dn w []])
theorem se_newN {K : Frag} {W : WX} {X : Cx} {pos : Pos} : SE K W X (.Dict [] [] pos) (tNew X.w) (mNewN X.w) := by
  refine ⟨⟨fun pins s σ H Q I h => ?_⟩, fun ρ st H σ τ Q rs re q p hp => ?_⟩
  · refine wpAny_Dict_empty ⟨.ref s.heap.objs.size, _, I.laid (a := s.heap.objs.size) (o := ndO X.w s.heap.objs.size [] []) (t' := s.toks) (fun _ _ q => Heap.get?_push_of_some _ q) (Nat.le_refl _) ?_, rfl, h _ (I.hok.fresh (Nat.le_refl _))⟩
    exact nd_at (P := X.prog) (us := []) .nil rfl (fun _ h => by cases h) (beq_eq_false_iff_ne.mpr (Ne.symm (Nat.ne_of_lt I.big))) ⟨_, #[], 0, Heap.get?_push_size _ rfl, ⟨rfl, rfl, rfl⟩, rfl, rfl, (fun x h => nomatch (show x ∈ ([] : List _) from h)), List.nodup_nil⟩
  · obtain ⟨e1, r1, g1⟩ := new_ob (x := ndO X.w p [] []) (l := .dn X.w []) rs hp ⟨[], [], upd_same, rfl, rfl, rfl⟩
    exact q.ok e1 r1 ⟨p, rfl, g1⟩
/-! d[k] = v -/
def anyK (ks : List (NestedKey × Addr)) (k : NestedKey) : Bool := ks.any fun p => decide (p.1 = k)
def putKs (ks : List (NestedKey × Addr)) (k : NestedKey) (b : Addr) : List (NestedKey × Addr) := if anyK ks k = true then ks else ks ++ [(k, b)]
def putXs {α : Type} (ks : List (NestedKey × Addr)) (xs : List α) (k : NestedKey) (x : α) : List α := if anyK ks k = true then (ks.zip xs).map (fun p => if p.1.1 = k then x else p.2) else xs ++ [x]
theorem anyK_at {k : NestedKey} : ∀ {ks : List (NestedKey × Addr)} {us : List Value}, ks.length = us.length → (atKey (zip3 ks us) k).isSome = anyK ks k
  | [], us, _ => by cases us <;> rfl
  | p :: ks, [], h => by cases h
  | (k', b) :: ks, u :: us, h => by
    have ih := anyK_at (k := k) (ks := ks) (us := us) (Nat.succ.inj h)
    unfold atKey at ih ⊢
    unfold anyK
    show (((k', b, u) :: zip3 ks us).find? _ |>.map _).isSome = _
    rw [List.find?_cons, List.any_cons]
    by_cases hk : k' = k
    · simp [hk]
    · simp only [hk, decide_false, Bool.false_or]
      exact ih
theorem map_putAt {k : NestedKey} {u : Value} : ∀ {ks : List (NestedKey × Addr)} {us : List Value}, ks.length = us.length → (zip3 ks us).map (putAt k u) = zip3 ks ((ks.zip us).map fun p => if p.1.1 = k then u else p.2)
  | [], us, _ => by cases us <;> rfl
  | p :: ks, [], h => by cases h
  | (k', b) :: ks, u' :: us, h => by
    show putAt k u (k', b, u') :: (zip3 ks us).map (putAt k u) = (k', b, if k' = k then u else u') :: zip3 ks ((ks.zip us).map fun p => if p.1.1 = k then u else p.2)
    rw [map_putAt (Nat.succ.inj h)]
    unfold putAt
    by_cases hk : k' = k <;> simp [hk]
theorem storedH_zip {k : NestedKey} {b : Addr} {u : Value} {ks : List (NestedKey × Addr)} {us : List Value} (h : ks.length = us.length) : storedH (zip3 ks us) k b u = zip3 (putKs ks k b) (putXs ks us k u) := by
  unfold storedH putKs putXs
  rw [anyK_at h]
  cases anyK ks k with
  | true => exact map_putAt h
  | false =>
    show zip3 ks us ++ [(k, b, u)] = zip3 (ks ++ [(k, b)]) (us ++ [u])
    unfold zip3
    rw [List.zip_append h, List.map_append]
    rfl
theorem put_length {α : Type} {k : NestedKey} {b : Addr} {x : α} {ks : List (NestedKey × Addr)} {xs : List α} (h : ks.length = xs.length) : (putKs ks k b).length = (putXs ks xs k x).length := by
  unfold putKs putXs
  cases anyK ks k with
  | true => simp [h]
  | false => simp [h]
theorem put_vals {k : NestedKey} {v : V} {u : Value} (ru : RelV v u) : ∀ {ks : List (NestedKey × Addr)} {vs : List V} {us : List Value}, Vals vs us → Vals ((ks.zip vs).map fun p => if p.1.1 = k then v else p.2) ((ks.zip us).map fun p => if p.1.1 = k then u else p.2)
  | [], _, _, _ => by simp only [List.zip_nil_left, List.map_nil]; exact .nil
  | _ :: _, [], [], _ => by simp only [List.zip_nil_right, List.map_nil]; exact .nil
  | p :: ks, v' :: vs, u' :: us, r => by
    cases r with
    | cons r1 r2 =>
      simp only [List.zip_cons_cons, List.map_cons]
      refine .cons ?_ (put_vals ru r2)
      by_cases hk : p.1 = k
      · rw [if_pos hk, if_pos hk]; exact ru
      · rw [if_neg hk, if_neg hk]; exact r1
def rSetN (K : Frag) (w : World) : TSet := fun o i v H Q => ∃ (ρ : Rho) (st : Sto) (l : List Val) (kv : Val) (a b : Addr) (ks : List (NestedKey × Addr)) (vs : List V) (k : NestedKey), o = .ref a ∧ i = .ref b ∧ H a = some (ndO w a ks vs) ∧ l.map nkOf = ks.map (fun p => some p.1) ∧
  RVs K ρ (Fz ρ st H) l (ks.map fun p => V.ref p.2) ∧ RV K ρ (Fz ρ st H) kv (.ref b) ∧ nkOf kv = some k ∧ k.depth ≤ 8 ∧ ks.length ≤ sizeLine ∧ Q (upd H a (ndO w a (putKs ks k b) (putXs ks vs k v)))
theorem set_N {X : Cx} {j : Nat} (hr : Room j X.A) : PSet X (rSetN X.K X.w) := by
  intro pins s σ H o i v ov iv u Q I ro ri rv h
  obtain ⟨ρ, st, l, kv, a, b, ks, vs, k, rfl, rfl, ha, e1, rl, rk, ek, hdp, hsz, q⟩ := h
  cases (show ov = Value.ref a from ro)
  cases (show iv = Value.ref b from ri)
  obtain ⟨us, rvs, hl, hd, lo, m⟩ := nd_open rfl I ha e1 rl
  have hkey : (nestedKind X.prog X.w).is s.heap k b := ⟨nk_is rfl I rk rfl ek, hdp⟩
  have hroom : (nestedKind X.prog X.w).room X.A.in1 := by
    have := hr.un
    show X.A.units + 1 + 8 < cLine
    omega
  have hz : (zip3 ks us).length ≤ sizeLine := by
    unfold zip3
    rw [List.length_map, List.length_zip]
    omega
  refine wpAny_setItem_heap (hsz := hz) hroom hkey m fun h' m' hs => ?_
  rw [storedH_zip hl] at m'
  have hd' : ∀ p ∈ putKs ks k b, p.1.depth ≤ 8 := by
    intro p hp
    unfold putKs at hp
    split at hp
    · exact hd p hp
    · rcases List.mem_append.mp hp with hp | hp
      · exact hd p hp
      · rw [List.mem_singleton.mp hp]; exact hdp
  have hv : Vals (putXs ks vs k v) (putXs ks us k u) := by
    unfold putXs
    cases anyK ks k with
    | true => exact put_vals rv rvs
    | false => exact rvs.append (.cons rv .nil)
  obtain ⟨ob, _, _, hob, _⟩ := id m'
  exact ⟨_, d_write (t' := s.toks + (nestedKind X.prog X.w).draws k) I (by rw [ha]; exact True.intro) hs ⟨ob, hob⟩ (nd_at (P := X.prog) hv (put_length hl) hd' lo m'), q⟩
def putN (l : List (Val × Val)) (kv v : Val) : List (Val × Val) := if (l.any fun p => decide (nkOf p.1 = nkOf kv)) = true then l.map (fun p => if nkOf p.1 = nkOf kv then (p.1, v) else p) else l ++ [(kv, v)]
def okKey (v : Val) : Bool := match v with
  | .tup _ => (match nkOf v with
    | some k => decide (k.depth ≤ 8)
    | none => false)
  | _ => false
open Classical in
noncomputable def setNM (w : World) (o i v : Val) (st : Sto) : Res Unit := match o with
  | .loc n => (match st[n]? with
    | some (.dn w' l) => if w' = w ∧ okKey i = true ∧ l.length ≤ sizeLine then .ok () (st.set n (.dn w (putN l i v))) else .bad
    | _ => .bad)
  | _ => .bad
noncomputable def gIxN (w : World) (mo mi : ME) : MG := fun v σ st => (mo σ st).bind fun o st1 => (mi σ st1).bind fun i st2 => (setNM w o i v st2).bind fun _ st3 => .ok σ st3
theorem any_same : ∀ {l : List (Val × Val)} {ks : List (NestedKey × Addr)} {kv : Val} {k : NestedKey}, l.map (fun p => nkOf p.1) = ks.map (fun p => some p.1) → nkOf kv = some k → (l.any fun p => decide (nkOf p.1 = nkOf kv)) = anyK ks k
  | [], [], _, _, _, _ => rfl
  | [], _ :: _, _, _, e, _ => by cases e
  | _ :: _, [], _, _, e, _ => by cases e
  | p :: l, q :: ks, kv, k, e, ek => by
    injection e with e1 e2
    replace e1 : nkOf p.1 = some q.1 := e1
    have ih := any_same (l := l) (ks := ks) e2 ek
    unfold anyK at ih ⊢
    rw [List.any_cons, List.any_cons, ih, e1, ek]
    simp
theorem put_rel {K : Frag} {ρ : Rho} {Hf : Hp} {kv v : Val} {k : NestedKey} {b : Addr} {x : V} (ek : nkOf kv = some k) (rk : RV K ρ Hf kv (.ref b)) (rv : RV K ρ Hf v x) : ∀ {l : List (Val × Val)} {ks : List (NestedKey × Addr)} {vs : List V},
    l.map (fun p => nkOf p.1) = ks.map (fun p => some p.1) → RVs K ρ Hf (l.map (·.1)) (ks.map fun p => V.ref p.2) → RVs K ρ Hf (l.map (·.2)) vs →
    (l.map (fun p => if nkOf p.1 = nkOf kv then (p.1, v) else p)).map (fun p => nkOf p.1) = ks.map (fun p => some p.1) ∧ RVs K ρ Hf ((l.map (fun p => if nkOf p.1 = nkOf kv then (p.1, v) else p)).map (·.1)) (ks.map fun p => V.ref p.2) ∧
      RVs K ρ Hf ((l.map (fun p => if nkOf p.1 = nkOf kv then (p.1, v) else p)).map (·.2)) ((ks.zip vs).map fun p => if p.1.1 = k then x else p.2)
  | [], [], _, _, _, r => by cases (show _ = _ from r); exact ⟨rfl, rfl, rfl⟩
  | [], _ :: _, _, e, _, _ => by cases e
  | _ :: _, [], _, e, _, _ => by cases e
  | p :: l, q :: ks, _, e, ⟨y, ys, e0, r1, r2⟩, ⟨z, zs, e3, r3, r4⟩ => by
    subst e3
    injection e0 with e4 e5
    subst e4
    subst e5
    injection e with e1 e2
    replace e1 : nkOf p.1 = some q.1 := e1
    obtain ⟨i1, i2, i3⟩ := put_rel ek rk rv (l := l) (ks := ks) e2 r2 r4
    by_cases hk : q.1 = k
    · have c : nkOf p.1 = nkOf kv := by rw [e1, ek, hk]
      refine ⟨?_, ?_, ?_⟩
      · show nkOf (if nkOf p.1 = nkOf kv then (p.1, v) else p).1 :: _ = some q.1 :: _
        rw [if_pos c, i1]
        exact congrArg (· :: _) e1
      · simp only [List.map_cons, if_pos c]
        exact ⟨_, _, rfl, r1, i2⟩
      · simp only [List.map_cons, List.zip_cons_cons, if_pos c, if_pos hk]
        exact ⟨_, _, rfl, rv, i3⟩
    · have c : ¬ nkOf p.1 = nkOf kv := by
        rw [e1, ek]
        exact fun z => hk (Option.some.inj z)
      refine ⟨?_, ?_, ?_⟩
      · show nkOf (if nkOf p.1 = nkOf kv then (p.1, v) else p).1 :: _ = some q.1 :: _
        rw [if_neg c, i1]
        exact congrArg (· :: _) e1
      · simp only [List.map_cons, if_neg c]
        exact ⟨_, _, rfl, r1, i2⟩
      · simp only [List.map_cons, List.zip_cons_cons, if_neg c, if_neg hk]
        exact ⟨_, _, rfl, r3, i3⟩
theorem ro_put {K : Frag} {ρ : Rho} {Hf H : Hp} {w : World} {a b : Addr} {kv v : Val} {k : NestedKey} {x : V} {l : List (Val × Val)} {ks : List (NestedKey × Addr)} {vs : List V} (ek : nkOf kv = some k) (rk : RV K ρ Hf kv (.ref b)) (rv : RV K ρ Hf v x)
    (e : l.map (fun p => nkOf p.1) = ks.map (fun p => some p.1)) (r1 : RVs K ρ Hf (l.map (·.1)) (ks.map fun p => V.ref p.2)) (r2 : RVs K ρ Hf (l.map (·.2)) vs) : RO K ρ Hf (upd H a (ndO w a (putKs ks k b) (putXs ks vs k x))) a (.dn w (putN l kv v)) := by
  refine ⟨putKs ks k b, putXs ks vs k x, upd_same, ?_⟩
  unfold putN putKs putXs
  rw [any_same e ek]
  cases anyK ks k with
  | true => exact put_rel ek rk rv e r1 r2
  | false =>
    simp only [Bool.false_eq_true, if_false, List.map_append, List.map_cons, List.map_nil]
    exact ⟨by rw [e, ek], r1.append (.one rk), r2.append (.one rv)⟩
section
variable {K : Frag} {W : WX} {X : Cx} {e a b : Expr} {te to ti : TE} {me mo mi : ME} {pos pos' : Pos} {j : Nat}
theorem ss_setN (hr : Room j X.A) (h : SE K W X e te me) (ho : SE K W X a to mo) (hi : SE K W X b ti mi) (hK : X.K = K := by rfl) (hs : swapsWithSole [.Subscript a b pos'] e pos.line X.env = pure false := by rfl) (hw : swappedStores [.Subscript a b pos'] e X.env = pure none := by rfl)
    (h1 : (assignEach [.Subscript a b pos'] X.env).map (·.2) = [assign (.Subscript a b pos') X.env] := by rfl)
    (ha : ∀ v, assign (.Subscript a b pos') X.env v = (do
      let ov ← holding [v] (eval a X.env)
      let iv ← holding [v, ov] (eval b X.env)
      standAt pos'
      holding [v, ov, iv] (setItem ov iv v)
      release [v, ov, iv] []) := by intro _; rfl) : SS K W X (.Assign [.Subscript a b pos'] e pos) (tAsg te (gSub to ti (rSetN K X.w))) (mAsg me (gIxN X.w mo mi)) := by
  subst hK
  refine ⟨ps_asg h.pe (pg_sub ho.pe hi.pe (set_N hr) ha) hs hw h1, fun ρ st H σ τ D rs re q => ?_⟩
  refine h.sd ρ st H σ τ _ rs re (AfterS.go re q fun v st1 ρ1 H1 x e1 rs1 rx re1 hh => ?_)
  have hh2 := AfterS.go (R := RE X.K) (Q1 := D.nx) re1 hh fun σ2 st2 ρ2 H2 τ2 e2 rs2 re2 _ h2 => h2.nx .refl rs2 re2
  refine ho.sd ρ1 st1 H1 σ τ _ rs1 re1 (After.bind hh2 fun o st2 ρ2 H2 y _ e2 rs2 ry h2 => ?_)
  have re2 := re1.mono e2.pre e2.fz
  refine hi.sd ρ2 st2 H2 σ τ _ rs2 re2 (After.bind h2 fun i st3 ρ3 H3 z _ e3 rs3 rz h3 => ?_)
  have re3 := re2.mono e3.pre e3.fz
  have rx3 := (rx.mono e2.pre e2.fz).mono e3.pre e3.fz
  have ry3 := ry.mono e3.pre e3.fz
  cases o with
  | loc n =>
    unfold setNM at h3
    cases hn : st3[n]? with
    | none => simp only [hn] at h3; exact h3.elim
    | some ob =>
      simp only [hn] at h3
      cases ob with
      | dn w' l =>
        dsimp only at h3
        split at h3
        · rename_i hc
          obtain ⟨rfl, hok, hsz⟩ := hc
          obtain ⟨p, rfl, hp⟩ := ry3
          obtain ⟨ks, vs, hy, q1, q2, q3⟩ := rs3.ob n _ p hn hp
          cases i with
          | tup il =>
            obtain ⟨pb, xs, rfl, sb, rb⟩ := id rz
            unfold okKey at hok
            dsimp only at hok
            cases hk : nkOf (.tup il) with
            | none => rw [hk] at hok; cases hok
            | some k =>
              rw [hk] at hok
              obtain ⟨e4, r4⟩ := set_ob rs3 hn (fun z => by cases z) hp (ro_put (H := H3) (w := X.w) (a := p) hk rz rx3 q1 q2 q3)
              refine ⟨ρ3, st3, l.map (·.1), .tup il, p, pb, ks, vs, k, rfl, rfl, hy, by rw [List.map_map]; exact q1, q2, rz, hk, of_decide_eq_true hok, ?_, h3.ok e4 r4 (re3.mono e4.pre e4.fz)⟩
              have := congrArg List.length q1
              rw [List.length_map, List.length_map] at this
              rw [← this]; exact hsz
          | _ => cases hok
        · exact h3.elim
      | _ => exact h3.elim
  | _ => exact h3.elim
end
/-! tuple(d) -/
theorem entN_keys {w : World} : ∀ {ks : List (NestedKey × Addr)} {us : List Value}, ks.length = us.length → (entN w ks us).map (·.key) = ks.map fun k => Value.ref k.2
  | [], us, _ => by cases us <;> rfl
  | _ :: _, [], h => by cases h
  | (k, b) :: ks, u :: us, h => by
    show Value.ref b :: (entN w ks us).map (·.key) = _
    rw [entN_keys (Nat.succ.inj h)]
    rfl
theorem vals_refs : ∀ {ks : List (NestedKey × Addr)}, Vals (ks.map fun k => V.ref k.2) (ks.map fun k => Value.ref k.2)
  | [] => .nil
  | _ :: _ => .cons rfl vals_refs
def rTupN (w : World) : List V → Hp → VK → Prop := fun xs H Q => ∃ (a : Addr) (ks : List (NestedKey × Addr)) (vs : List V), xs = [.ref a] ∧ H a = some (ndO w a ks vs) ∧ ks.length ≤ sizeLine ∧ ∀ p, H p = none → Q (.ref p) (upd H p (.tup (ks.map fun k => V.ref k.2)))
theorem call_tupN {X : Cx} (hc : X.calm = true) : CallR X (.type "tuple") (rTupN X.w) := by
  intro pins s σ H xs us Q I r h
  obtain ⟨a, ks, vs, rfl, ha, hz, q⟩ := h
  obtain rfl := Vals.ref1 r
  obtain ⟨ws, rv, hl, nd, hd, lo, o, es, ep, ho, hx, hdt, he⟩ := (I.hok a _ ha).1
  have hsz : es.size = ks.length := by
    rw [← Array.length_toList, he, ← List.length_map (·.key), entN_keys hl, List.length_map]
  refine call_tuple_rawD (es := es) (ep := ep) lo (I.ok.hd hc) ⟨o, ho, hx, hdt⟩ (by rw [hsz]; exact hz) fun h' tk kp => ?_
  have I1 : Inv X pins σ H { s with heap := h', toks := tk } := I.kept kp
  have ek : es.map (·.key) = (ks.map fun k => Value.ref k.2).toArray := by
    rw [← Array.toArray_toList (xs := es.map (·.key)), Array.toList_map, he, entN_keys hl]
  have I2 : Inv X pins σ (upd H h'.objs.size (.tup (ks.map fun k => V.ref k.2))) { s with heap := h'.push { cls := .type "tuple", data := .seq (es.map (·.key)) }, toks := tk } := by
    rw [ek]
    exact I1.laid (t' := tk) (fun b o e => Heap.get?_push_of_some _ e) (Nat.le_refl _) (show ObjOk X.prog X.w _ _ _ (.tup _) from ⟨by rw [List.length_map]; exact hz, _, vals_refs, IsTup.new _ _⟩)
  exact ⟨.ref h'.objs.size, _, I2, rfl, q _ (I1.hok.fresh (Nat.le_refl _))⟩
def rTupA (K : Frag) (w : World) : List V → Hp → VK → Prop := fun xs H Q => (∃ p ys, xs = [.ref p] ∧ ((SqL K H p ys ∧ ∀ l, H l = none → Q (.ref l) (upd H l (.tup ys))) ∨ (SqT K H p ys ∧ Q (.ref p) H))) ∨ rTupN w xs H Q
open Classical in
noncomputable def tupAM (w : World) : List Val → Sto → Res Val
  | [.loc n], st => (match st[n]? with
    | some (.dn w' l) => if w' = w ∧ l.length ≤ sizeLine then .ok (.tup (l.map (·.1))) st else .bad
    | _ => tupM [.loc n] st)
  | vs, st => tupM vs st
theorem snd_tupA {K : Frag} {w : World} : SndRs K (rTupA K w) (tupAM w) := by
  intro ρ st H vs xs Q E rs rx h
  unfold tupAM at h
  split at h
  · split at h
    · rename_i n _ w' l hn
      split at h
      · rename_i hc
        obtain ⟨rfl, hz⟩ := hc
        obtain ⟨x, rfl, r1⟩ := RVs.inv1 rx
        obtain ⟨a, rfl, ha⟩ := r1
        obtain ⟨ks, us, e, q1, q2, q3⟩ := rs.ob n _ a hn ha
        refine .inr ⟨a, ks, us, rfl, e, ?_, fun p hp => ?_⟩
        · have := congrArg List.length q1
          rw [List.length_map, List.length_map] at this
          rw [← this]; exact hz
        · obtain ⟨e4, r4, f4⟩ := new_fz (o := .tup (ks.map fun k => V.ref k.2)) rs hp
          exact h.ok e4 r4 ⟨p, _, rfl, .inl (.inl f4), q2.mono e4.pre e4.fz⟩
      · exact h.elim
    · exact .inl (snd_tup ρ st H _ xs Q E rs rx h)
  · exact .inl (snd_tup ρ st H _ xs Q E rs rx h)
theorem call_tupA {X : Cx} (hc : X.calm = true) : CallR X (.type "tuple") (rTupA X.K X.w) := call_tuple_of.or (call_tupN hc)
end L3
end

section
set_option Elab.async false
set_option linter.all false
set_option maxRecDepth 100000
set_option maxHeartbeats 400000
/-! L3g8: more of lists. -/
namespace L3
open PySem PySem.Spec PyProof.Rows L2
/-- xs.index(y), flat items -/
def indexM (v : Val) (vs : List Val) (st : Sto) : Res Val := match vs with
  | [w] => (match flV w, (lsOf st v).bind flVs with
    | some y, some xs => (match xs.findIdx? (fun z => eqV z y) with
      | some j => .ok (.int (j : Nat)) st
      | none => .bad)
    | _, _ => .bad)
  | _ => .bad
theorem snd_index {K : Frag} : SndM K "list" (rIndex K) indexM := by
  intro ρ st H v x vs xs Q E rs rx rxs h
  unfold indexM at h
  split at h
  · split at h
    · rename_i y zs hy hz
      split at h
      · rename_i j hj
        obtain ⟨l, h1, h2⟩ := Option.bind_eq_some_iff.mp hz
        obtain ⟨u, rfl, ru⟩ := RVs.inv1 rxs
        obtain ⟨a, ys, rfl, sq, rl⟩ := ls_of rs rx h1
        obtain ⟨rfl, f1⟩ := flV_of ru hy
        obtain ⟨rfl, f2⟩ := flVs_of rl h2
        obtain ⟨hl, p1, p2⟩ := List.findIdx?_eq_some_iff_getElem.mp hj
        refine ⟨a, _, _, j, _, rfl, rfl, sq, f1, f2, List.getElem?_eq_getElem hl, p1, fun m z' hm hz' => ?_, h.ok .refl rs rfl⟩
        obtain ⟨hl', rfl⟩ := List.getElem?_eq_some_iff.mp hz'
        exact Bool.not_eq_true _ ▸ p2 m hm
      · exact h.elim
    · exact h.elim
  · exact h.elim
end L3
end

section
set_option Elab.async false
set_option linter.all false
set_option maxRecDepth 100000
set_option maxHeartbeats 400000
/-! L3h: comparisons as tests; the built-in functions' and methods' rules by their names. -/
namespace L3
open PySem PySem.Spec PyProof.Rows L2
section
variable {K : Frag} {W : WX} {X : Cx} {pos : Pos} {a b c : Expr} {ta tb tc : TE} {ma mb mc : ME}
theorem st_lt (ha : SE K W X a ta ma) (hb : SE K W X b tb mb) : ST K W X (.Compare a [.Lt] [b] pos) (L2.tB (tOp (rI0 fun i j => .bl (decide (i < j))) ta tb)) (mTest (mOp2 (cmpV fun i j => decide (i < j)) ma mb)) := st_cmp op_lt snd_cmpV ha hb
theorem st_le (ha : SE K W X a ta ma) (hb : SE K W X b tb mb) : ST K W X (.Compare a [.LtE] [b] pos) (L2.tB (tOp (rI0 fun i j => .bl (decide (i ≤ j))) ta tb)) (mTest (mOp2 (cmpV fun i j => decide (i ≤ j)) ma mb)) := st_cmp op_le snd_cmpV ha hb
theorem st_gt (ha : SE K W X a ta ma) (hb : SE K W X b tb mb) : ST K W X (.Compare a [.Gt] [b] pos) (L2.tB (tOp (rI0 fun i j => .bl (decide (j < i))) ta tb)) (mTest (mOp2 (cmpV fun i j => decide (j < i)) ma mb)) := st_cmp op_gt snd_cmpV ha hb
theorem st_ge (ha : SE K W X a ta ma) (hb : SE K W X b tb mb) : ST K W X (.Compare a [.GtE] [b] pos) (L2.tB (tOp (rI0 fun i j => .bl (decide (j ≤ i))) ta tb)) (mTest (mOp2 (cmpV fun i j => decide (j ≤ i)) ma mb)) := st_cmp op_ge snd_cmpV ha hb
theorem st_eq (ha : SE K W X a ta ma) (hb : SE K W X b tb mb) {k : Nat} (hr : Room k X.A) (hK : X.K = K := by rfl) : ST K W X (.Compare a [.Eq] [b] pos) (L2.tB (tOp (fun x y H Q => rEq x y H Q ∨ rEqD K x y H Q) ta tb)) (mTest (mOp2 eqM ma mb)) := by
  subst hK
  refine st_cmp (op_eq.or (op_eqD hr.units)) (fun ρ st H v w x y Q E rs rx ry h => ?_) ha hb
  unfold eqM at h
  split at h
  · rename_i b q
    rcases eqW_of rs rx ry q with ⟨h1, h2⟩ | ⟨d, f, h1, h2, h3, h4, h5⟩
    · exact .inl ⟨h1, by rw [h2]; exact h.ok .refl rs rfl⟩
    · exact .inr ⟨d, f, h1, h2, h3, h4, by rw [h5]; exact h.ok .refl rs rfl⟩
  · exact h.elim
theorem st_ne (ha : SE K W X a ta ma) (hb : SE K W X b tb mb) {k : Nat} (hr : Room k X.A) (hK : X.K = K := by rfl) : ST K W X (.Compare a [.NotEq] [b] pos) (L2.tB (tOp (fun x y H Q => rNe x y H Q ∨ rNeD K x y H Q) ta tb)) (mTest (mOp2 neM ma mb)) := by
  subst hK
  refine st_cmp (op_ne.or (op_neD hr.units)) (fun ρ st H v w x y Q E rs rx ry h => ?_) ha hb
  unfold neM at h
  split at h
  · rename_i b q
    rcases eqW_of rs rx ry q with ⟨h1, h2⟩ | ⟨d, f, h1, h2, h3, h4, h5⟩
    · exact .inl ⟨h1, by rw [h2]; exact h.ok .refl rs rfl⟩
    · exact .inr ⟨d, f, h1, h2, h3, h4, by rw [h5]; exact h.ok .refl rs rfl⟩
  · exact h.elim

theorem st_in (ha : SE K W X a ta ma) (hb : SE K W X b tb mb) {k : Nat} (hr : Room k X.A) (hK : X.K = K := by rfl) (hm : behindInMarks .In b = false := by with_unfolding_all rfl) : ST K W X (.Compare a [.In] [b] pos) (L2.tB (tOp (rInA K) ta tb)) (mTest (mOp2 inM ma mb)) := by
  subst hK
  refine st_cmp (op_in_sign.or (op_in_seq.or (op_inD (by have := hr.un; omega)))) (fun ρ st H v w x y Q E rs rx ry h => ?_) ha hb hm
  unfold inM at h
  split at h
  · rename_i b q
    rcases inW_of rs rx ry q with ⟨c, z, h1, h2, h3⟩ | ⟨p, xs, h1, h2, h3, h4, h5⟩ | ⟨d, f, h1, h2, h3, h4, h5⟩
    · exact .inl ⟨c, z, h1, h2, by rw [h3]; exact h.ok .refl rs rfl⟩
    · exact .inr (.inl ⟨p, xs, h1, h2, h3, h4, by rw [h5]; exact h.ok .refl rs rfl⟩)
    · exact .inr (.inr ⟨d, f, h1, h2, h3, h4, by rw [h5]; exact h.ok .refl rs rfl⟩)
  · exact h.elim
theorem st_notIn (ha : SE K W X a ta ma) (hb : SE K W X b tb mb) {k : Nat} (hr : Room k X.A) (hK : X.K = K := by rfl) (hm : behindInMarks .NotIn b = false := by with_unfolding_all rfl) : ST K W X (.Compare a [.NotIn] [b] pos) (L2.tB (tOp (rNotInA K) ta tb)) (mTest (mOp2 notInM ma mb)) := by
  subst hK
  refine st_cmp (op_notIn_sign.or (op_notIn_seq.or (op_notInD (by have := hr.un; omega)))) (fun ρ st H v w x y Q E rs rx ry h => ?_) ha hb hm
  unfold notInM at h
  split at h
  · rename_i b q
    rcases inW_of rs rx ry q with ⟨c, z, h1, h2, h3⟩ | ⟨p, xs, h1, h2, h3, h4, h5⟩ | ⟨d, f, h1, h2, h3, h4, h5⟩
    · exact .inl ⟨c, z, h1, h2, by rw [h3]; exact h.ok .refl rs rfl⟩
    · exact .inr (.inl ⟨p, xs, h1, h2, h3, h4, by rw [← h5] at h; exact h.ok .refl rs rfl⟩)
    · exact .inr (.inr ⟨d, f, h1, h2, h3, h4, by rw [h5]; exact h.ok .refl rs rfl⟩)
  · exact h.elim
theorem st_is (ha : SE K W X a ta ma) (hb : SE K W X b tb mb) : ST K W X (.Compare a [.Is] [b] pos) (L2.tB (tOp (fun x y H Q => (y = .non ∧ Q (.bl (decide (x = .non))) H) ∨ (∃ a b, x = .bl a ∧ y = .bl b ∧ Q (.bl (decide (a = b))) H)) ta tb)) (mTest (mOp2 isM ma mb)) := by
  refine st_cmp (op_isN.or op_is_bl) (fun ρ st H v w x y Q E rs rx ry h => ?_) ha hb
  unfold isM at h
  split at h
  · exact .inl ⟨ry, by rw [isNone_of rx]; exact h.ok .refl rs rfl⟩
  · exact .inr ⟨_, _, rx, ry, h.ok .refl rs rfl⟩
  · exact h.elim
theorem st_isNot (ha : SE K W X a ta ma) (hb : SE K W X b tb mb) : ST K W X (.Compare a [.IsNot] [b] pos) (L2.tB (tOp (fun x y H Q => (y = .non ∧ Q (.bl (!decide (x = .non))) H) ∨ (∃ a b, x = .bl a ∧ y = .bl b ∧ Q (.bl (!decide (a = b))) H)) ta tb)) (mTest (mOp2 isNotM ma mb)) := by
  refine st_cmp (op_notN.or op_isnot_bl) (fun ρ st H v w x y Q E rs rx ry h => ?_) ha hb
  unfold isNotM at h
  split at h
  · exact .inl ⟨ry, by rw [isNone_of rx]; exact h.ok .refl rs rfl⟩
  · exact .inr ⟨_, _, rx, ry, h.ok .refl rs rfl⟩
  · exact h.elim

end
theorem call_lenA {X : Cx} : CallR X (.builtin "len") (fun xs H Q => (∃ z, xs = [.str z] ∧ z.length ≤ sizeLine ∧ Q (.int z.length) H) ∨ (∃ p ys, xs = [.ref p] ∧ (SqL X.K H p ys ∨ SqT X.K H p ys) ∧ Q (.int ys.length) H)) := call_len_str.or call_len_seq
section
variable {K : Frag} {W : WX} {X : Cx} {e : Expr} {es : List Expr} {t : TA} {m : MA} {p pos : Pos} {j : Nat}
theorem se_len (hm : X.mg "len" = none) (ha : SA K W X (e :: es) t m) (hK : X.K = K := by rfl) (hg : Gl X "len" := by rfl) (he : starEach (e :: es) X.env = (false, eval e X.env) :: starEach es X.env := by rfl) (hpl : (backTo pos (starEach es X.env)).any (·.1) = false := by rfl) :
    SE K W X (.Call (.Name "len" p) (e :: es) [] pos) (tCB (fun xs H Q => (∃ z, xs = [.str z] ∧ z.length ≤ sizeLine ∧ Q (.int z.length) H) ∨ (∃ p ys, xs = [.ref p] ∧ (SqL K H p ys ∨ SqT K H p ys) ∧ Q (.int ys.length) H)) t) (mOps lenM m) := by
  subst hK
  exact se_callB call_lenA snd_len hg hm rfl ha (he := he) (hpl := hpl)
theorem se_isi (hm : X.mg "isinstance" = none) (ha : SA K W X (e :: es) t m) (hK : X.K = K := by rfl) (hg : Gl X "isinstance" := by rfl) (he : starEach (e :: es) X.env = (false, eval e X.env) :: starEach es X.env := by rfl) (hpl : (backTo pos (starEach es X.env)).any (·.1) = false := by rfl) :
    SE K W X (.Call (.Name "isinstance" p) (e :: es) [] pos) (tCB (rIsi K) t) (mOps isiM m) := by
  subst hK
  exact se_callB call_isi snd_isi hg hm rfl ha (he := he) (hpl := hpl)
theorem se_all (hc : X.calm = true) (hm : X.mg "all" = none) (ha : SA K W X (e :: es) t m) (hK : X.K = K := by rfl) (hg : Gl X "all" := by rfl) (he : starEach (e :: es) X.env = (false, eval e X.env) :: starEach es X.env := by rfl) (hpl : (backTo pos (starEach es X.env)).any (·.1) = false := by rfl) :
    SE K W X (.Call (.Name "all" p) (e :: es) [] pos) (tCB (rAll K) t) (mOps allM m) := by
  subst hK
  exact se_callB (cr_all hc) snd_all hg hm rfl ha (he := he) (hpl := hpl)
theorem se_any (hc : X.calm = true) (hm : X.mg "any" = none) (ha : SA K W X (e :: es) t m) (hK : X.K = K := by rfl) (hg : Gl X "any" := by rfl) (he : starEach (e :: es) X.env = (false, eval e X.env) :: starEach es X.env := by rfl) (hpl : (backTo pos (starEach es X.env)).any (·.1) = false := by rfl) :
    SE K W X (.Call (.Name "any" p) (e :: es) [] pos) (tCB (rAny K) t) (mOps anyM m) := by
  subst hK
  exact se_callB (cr_any hc) snd_any hg hm rfl ha (he := he) (hpl := hpl)
theorem se_abs (hm : X.mg "abs" = none) (ha : SA K W X (e :: es) t m) (hg : Gl X "abs" := by rfl) (he : starEach (e :: es) X.env = (false, eval e X.env) :: starEach es X.env := by rfl) (hpl : (backTo pos (starEach es X.env)).any (·.1) = false := by rfl) :
    SE K W X (.Call (.Name "abs" p) (e :: es) [] pos) (tCB (fun xs H Q => ∃ i, xs = [.int i] ∧ Q (.int (if i < 0 then -i else i)) H) t) (mOps absM m) := se_callB call_abs snd_abs hg hm rfl ha (he := he) (hpl := hpl)
theorem se_min2 (hc : X.calm = true) (hm : X.mg "min" = none) (ha : SA K W X (e :: es) t m) (hg : Gl X "min" := by rfl) (he : starEach (e :: es) X.env = (false, eval e X.env) :: starEach es X.env := by rfl) (hpl : (backTo pos (starEach es X.env)).any (·.1) = false := by rfl) :
    SE K W X (.Call (.Name "min" p) (e :: es) [] pos) (tCB (fun xs H Q => ∃ i j, xs = [.int i, .int j] ∧ Q (.int (if j < i then j else i)) H) t) (mOps min2M m) := se_callB (call_min2 hc) snd_min2 hg hm rfl ha (he := he) (hpl := hpl)
theorem se_max2 (hc : X.calm = true) (hm : X.mg "max" = none) (ha : SA K W X (e :: es) t m) (hg : Gl X "max" := by rfl) (he : starEach (e :: es) X.env = (false, eval e X.env) :: starEach es X.env := by rfl) (hpl : (backTo pos (starEach es X.env)).any (·.1) = false := by rfl) :
    SE K W X (.Call (.Name "max" p) (e :: es) [] pos) (tCB (fun xs H Q => ∃ i j, xs = [.int i, .int j] ∧ Q (.int (if j > i then j else i)) H) t) (mOps max2M m) := se_callB (call_max2 hc) snd_max2 hg hm rfl ha (he := he) (hpl := hpl)
theorem se_intB (hm : X.mg "int" = none) (ha : SA K W X (e :: es) t m) (hg : Gl X "int" := by rfl) (he : starEach (e :: es) X.env = (false, eval e X.env) :: starEach es X.env := by rfl) (hpl : (backTo pos (starEach es X.env)).any (·.1) = false := by rfl) :
    SE K W X (.Call (.Name "int" p) (e :: es) [] pos) (tCB (fun xs H Q => ∃ k, xs = [.bl k] ∧ Q (.int (if k then 1 else 0)) H) t) (mOps intM m) := se_callT call_intB snd_int hg hm rfl ha (he := he) (hpl := hpl)
theorem se_strI (hm : X.mg "str" = none) (ha : SA K W X (e :: es) t m) (hg : Gl X "str" := by rfl) (he : starEach (e :: es) X.env = (false, eval e X.env) :: starEach es X.env := by rfl) (hpl : (backTo pos (starEach es X.env)).any (·.1) = false := by rfl) :
    SE K W X (.Call (.Name "str" p) (e :: es) [] pos) (tCB (fun xs H Q => ∃ i, xs = [.int i] ∧ i.natAbs.log2 < 1920 ∧ Q (.str (toString i)) H) t) (mOps strM m) := se_callT call_str_int snd_str hg hm rfl ha (he := he) (hpl := hpl)
theorem se_repr (hr : Room j X.A) (hgd : X.A.guards = some []) (hm : X.mg "repr" = none) (ha : SA K W X (e :: es) t m) (hK : X.K = K := by rfl) (hg : Gl X "repr" := by rfl) (he : starEach (e :: es) X.env = (false, eval e X.env) :: starEach es X.env := by rfl) (hpl : (backTo pos (starEach es X.env)).any (·.1) = false := by rfl) :
    SE K W X (.Call (.Name "repr" p) (e :: es) [] pos) (tCB (rRepr K) t) (mOps reprM m) := by
  subst hK
  exact se_callB (call_repr hr hgd) snd_repr hg hm rfl ha (he := he) (hpl := hpl)
theorem se_tupC (hc : X.calm = true) (hm : X.mg "tuple" = none) (ha : SA K W X (e :: es) t m) (hK : X.K = K := by rfl) (hg : Gl X "tuple" := by rfl) (he : starEach (e :: es) X.env = (false, eval e X.env) :: starEach es X.env := by rfl) (hpl : (backTo pos (starEach es X.env)).any (·.1) = false := by rfl) :
    SE K W X (.Call (.Name "tuple" p) (e :: es) [] pos) (tCB (fun xs H Q => ∃ p ys, xs = [.ref p] ∧ ((SqL K H p ys ∧ ∀ l, H l = none → Q (.ref l) (upd H l (.tup ys))) ∨ (SqT K H p ys ∧ Q (.ref p) H))) t) (mOps tupM m) := by
  subst hK
  exact se_callT call_tuple_of snd_tup hg hm rfl ha (he := he) (hpl := hpl)
theorem se_tupD (hc : X.calm = true) (hm : X.mg "tuple" = none) (ha : SA K W X (e :: es) t m) (hK : X.K = K := by rfl) (hg : Gl X "tuple" := by rfl) (he : starEach (e :: es) X.env = (false, eval e X.env) :: starEach es X.env := by rfl) (hpl : (backTo pos (starEach es X.env)).any (·.1) = false := by rfl) :
    SE K W X (.Call (.Name "tuple" p) (e :: es) [] pos) (tCB (rTupA K X.w) t) (mOps (tupAM X.w) m) := by
  subst hK
  exact se_callT (call_tupA hc) snd_tupA hg hm rfl ha (he := he) (hpl := hpl)
theorem se_lstC (hm : X.mg "list" = none) (ha : SA K W X (e :: es) t m) (hK : X.K = K := by rfl) (hg : Gl X "list" := by rfl) (he : starEach (e :: es) X.env = (false, eval e X.env) :: starEach es X.env := by rfl) (hpl : (backTo pos (starEach es X.env)).any (·.1) = false := by rfl) :
    SE K W X (.Call (.Name "list" p) (e :: es) [] pos) (tCB (rListOf K) t) (mOps lstM m) := by
  subst hK
  exact se_callT call_list_of snd_lst hg hm rfl ha (he := he) (hpl := hpl)
theorem se_lstL (hm : X.mg "list" = none) (ha : SA K W X (e :: es) t m) (hK : X.K = K := by rfl) (hg : Gl X "list" := by rfl) (he : starEach (e :: es) X.env = (false, eval e X.env) :: starEach es X.env := by rfl) (hpl : (backTo pos (starEach es X.env)).any (·.1) = false := by rfl) :
    SE K W X (.Call (.Name "list" p) (e :: es) [] pos) (tCB (rListOf K) t) (mOps lstLM m) := by
  subst hK
  exact se_callT call_list_of snd_lstL hg hm rfl ha (he := he) (hpl := hpl)
end
def ipAddM : Val → Val → Sto → Res Val
  | .int i, .int j, st => .ok (.int (i + j)) st
  | _, _, _ => .bad
theorem snd_ipAddM {K : Frag} : SndR2 K (ipI fun i j => i + j) ipAddM := by
  intro ρ st H v w x y Q E rs rx ry h
  cases v with
  | int i => cases w with
    | int j => exact ⟨i, j, rx, ry, h.ok .refl rs rfl⟩
    | _ => exact h.elim
  | _ => exact h.elim
theorem takesF {X : Cx} : Takes X (fun _ _ _ _ => False) := fun _ _ ⟨_, _, _, _, _, _, _, _, _, _, _, _, _, _, _, _, w⟩ => w.elim
end L3
end

section
set_option Elab.async false
set_option linter.all false
set_option maxRecDepth 100000
set_option maxHeartbeats 400000
/-! L3i: dicts whose keys are ints and texts. -/
namespace L3
open PySem PySem.Spec PyProof.Rows L2
/-- d's value at k; d with k put -/
def valD (l : List (Key × Val)) (k : Key) : Option Val := (l.find? fun kv => decide (kv.1 = k)).map (·.2)
def putD (l : List (Key × Val)) (k : Key) (v : Val) : List (Key × Val) := if (l.any fun kv => decide (kv.1 = k)) = true then l.map (fun kv => if kv.1 = k then (kv.1, v) else kv) else l ++ [(k, v)]
section
variable {K : Frag} {ρ : Rho} {H : Hp}
theorem valD_rel : ∀ {l : List (Key × Val)} {kvs : List (Key × V)} {k : Key} {v : Val}, kvs.map (·.1) = l.map (·.1) → RVs K ρ H (l.map (·.2)) (kvs.map (·.2)) → valD l k = some v → ∃ x, valV kvs k = some x ∧ RV K ρ H v x
  | [], _, _, _, _, _, e => by cases e
  | p :: l, [], _, _, e, _, _ => by cases e
  | p :: l, q :: kvs, k, v, e1, ⟨y, ys, e2, r1, r2⟩, e => by
    injection e2 with e3 e4
    subst e3; subst e4
    injection e1 with e5 e6
    by_cases hk : p.1 = k
    · have : valD (p :: l) k = some p.2 := by simp [valD, List.find?_cons, hk]
      rw [this] at e
      cases e
      exact ⟨q.2, valV_pos (e5.trans hk), r1⟩
    · have : valD (p :: l) k = valD l k := by simp [valD, List.find?_cons, hk]
      rw [this] at e
      obtain ⟨x, e7, e8⟩ := valD_rel e6 r2 e
      exact ⟨x, by rw [valV_neg (fun z => hk (e5.symm.trans z)), e7], e8⟩
theorem valD_none : ∀ {l : List (Key × Val)} {kvs : List (Key × V)} {k : Key}, kvs.map (·.1) = l.map (·.1) → valD l k = none → valV kvs k = none
  | [], [], _, _, _ => rfl
  | [], _ :: _, _, e, _ => by cases e
  | p :: l, [], _, e, _ => by cases e
  | p :: l, q :: kvs, k, e1, e => by
    injection e1 with e5 e6
    by_cases hk : p.1 = k
    · have : valD (p :: l) k = some p.2 := by simp [valD, List.find?_cons, hk]
      rw [this] at e
      cases e
    · have : valD (p :: l) k = valD l k := by simp [valD, List.find?_cons, hk]
      rw [this] at e
      rw [valV_neg (fun z => hk (e5.symm.trans z))]
      exact valD_none e6 e
theorem any_keys {l : List (Key × Val)} {kvs : List (Key × V)} (k : Key) (e : kvs.map (·.1) = l.map (·.1)) : (l.any fun kv => decide (kv.1 = k)) = (kvs.any fun kv => decide (kv.1 = k)) := by
  have h1 : (l.any fun kv => decide (kv.1 = k)) = ((l.map (·.1)).any fun z => decide (z = k)) := by rw [List.any_map]; rfl
  have h2 : (kvs.any fun kv => decide (kv.1 = k)) = ((kvs.map (·.1)).any fun z => decide (z = k)) := by rw [List.any_map]; rfl
  rw [h1, h2, e]
theorem repl_rel {k : Key} {v : Val} {x : V} (rv : RV K ρ H v x) : ∀ {l : List (Key × Val)} {kvs : List (Key × V)}, kvs.map (·.1) = l.map (·.1) → RVs K ρ H (l.map (·.2)) (kvs.map (·.2)) →
    (kvs.map fun kv => if kv.1 = k then (kv.1, x) else kv).map (·.1) = (l.map fun kv => if kv.1 = k then (kv.1, v) else kv).map (·.1) ∧ RVs K ρ H ((l.map fun kv => if kv.1 = k then (kv.1, v) else kv).map (·.2)) ((kvs.map fun kv => if kv.1 = k then (kv.1, x) else kv).map (·.2))
  | [], [], _, _ => ⟨rfl, rfl⟩
  | [], _ :: _, e, _ => by cases e
  | p :: l, [], e, _ => by cases e
  | p :: l, q :: kvs, e1, ⟨y, ys, e2, r1, r2⟩ => by
    injection e2 with e3 e4
    subst e3; subst e4
    injection e1 with e5 e6
    obtain ⟨i1, i2⟩ := repl_rel rv (l := l) (kvs := kvs) e6 r2
    by_cases hk : p.1 = k
    · have hq : q.1 = k := e5.trans hk
      simp only [List.map_cons, if_pos hk, if_pos hq]
      exact ⟨by rw [i1, hk, hq], _, _, rfl, rv, i2⟩
    · have hq : ¬ q.1 = k := fun z => hk (e5.symm.trans z)
      simp only [List.map_cons, if_neg hk, if_neg hq]
      exact ⟨by rw [i1, show q.1 = p.1 from e5], _, _, rfl, r1, i2⟩
theorem putD_rel {l : List (Key × Val)} {kvs : List (Key × V)} {k : Key} {v : Val} {x : V} (e : kvs.map (·.1) = l.map (·.1)) (r : RVs K ρ H (l.map (·.2)) (kvs.map (·.2))) (rv : RV K ρ H v x) :
    (putK kvs k x).map (·.1) = (putD l k v).map (·.1) ∧ RVs K ρ H ((putD l k v).map (·.2)) ((putK kvs k x).map (·.2)) := by
  unfold putD putK
  rw [any_keys k e]
  cases (kvs.any fun kv => decide (kv.1 = k)) with
  | true =>
    simp only [if_true]
    exact repl_rel rv e r
  | false =>
    simp only [Bool.false_eq_true, if_false, List.map_append, List.map_cons, List.map_nil]
    exact ⟨by rw [e], r.append (.one rv)⟩
end
theorem dk_len {l : List (Key × Val)} {kvs : List (Key × V)} (e : kvs.map (·.1) = l.map (·.1)) : kvs.length = l.length := by
  have := congrArg List.length e
  simpa using this
section
variable {K : Frag} {W : WX} {X : Cx} {pos : Pos} {a b c e : Expr} {ta tb tc te : TE} {ma mb mc me : ME} {es : List Expr} {t : TA} {m : MA} {j : Nat}
theorem room_u1 (hr : Room j X.A) : X.A.units + 1 < cLine := by have := hr.un; omega
theorem room_u0 (hr : Room j X.A) : X.A.units < cLine := by have := hr.un; omega
/-- a dict of ours -/
def dkOf (st : Sto) (v : Val) : Option (List (Key × Val)) := match v with
  | .loc n => match st[n]? with
    | some (.dk l) => some l
    | _ => none
  | _ => none
theorem dkOf_loc {st : Sto} {v : Val} {l : List (Key × Val)} (e : dkOf st v = some l) : ∃ n, v = .loc n ∧ st[n]? = some (.dk l) := by
  unfold dkOf at e
  split at e
  · rename_i n
    split at e
    · rename_i l' h
      cases e
      exact ⟨n, rfl, h⟩
    · cases e
  · cases e
theorem dk_rel {ρ : Rho} {st : Sto} {H : Hp} {v : Val} {x : V} {l : List (Key × Val)} (rs : RS K ρ st H) (rx : RV K ρ (Fz ρ st H) v x) (e : dkOf st v = some l) : ∃ p kvs, x = .ref p ∧ H p = some (.dK kvs) ∧ kvs.map (·.1) = l.map (·.1) ∧ RVs K ρ (Fz ρ st H) (l.map (·.2)) (kvs.map (·.2)) := by
  obtain ⟨n, rfl, hn⟩ := dkOf_loc e
  obtain ⟨p, rfl, hp⟩ := rx
  obtain ⟨kvs, q1, q2, q3⟩ := rs.ob n _ p hn hp
  exact ⟨p, kvs, rfl, q1, q2, q3⟩
/-! {} -/
def mNewK : ME := fun _ st => .ok (.loc st.length) (st ++ [.dk []])
theorem se_newK : SE K W X (.Dict [] [] pos) tDNewK mNewK := by
  refine ⟨pe_dnewK, fun ρ st H σ τ Q rs re q p hp => ?_⟩
  obtain ⟨e1, r1, g1⟩ := new_ob (x := .dK []) (l := .dk []) rs hp ⟨[], upd_same, rfl, rfl⟩
  exact q.ok e1 r1 ⟨p, rfl, g1⟩
/-! d[k] -/
def dgetM (v w : Val) (st : Sto) : Res Val := match dkOf st v, keyV w with
  | some l, some k => (match valD l k with
    | some u => .ok u st
    | none => .bad)
  | _, _ => .bad
theorem se_dget (hr : Room j X.A) (ha : SE K W X a ta ma) (hb : SE K W X b tb mb) (hs : NoSl b := by intro _ _; rfl) : SE K W X (.Subscript a b pos) (tDGet ta tb) (mOp2 dgetM ma mb) := by
  refine ⟨pe_dget (room_u1 hr) ha.pe hb.pe hs, fun ρ st H σ τ Q rs re q => ?_⟩
  refine ha.sd ρ st H σ τ _ rs re (After.bind q fun v st1 ρ1 H1 x _ e1 rs1 rx h1 => ?_)
  refine hb.sd ρ1 st1 H1 σ τ _ rs1 (re.mono e1.pre e1.fz) (After.bind h1 fun w st2 ρ2 H2 y _ e2 rs2 ry h2 => ?_)
  have rx2 := rx.mono e2.pre e2.fz
  unfold dgetM at h2
  split at h2
  · rename_i l k hl hk
    split at h2
    · rename_i u hu
      obtain ⟨p, kvs, rfl, q1, q2, q3⟩ := dk_rel rs2 rx2 hl
      obtain ⟨z, hz, rz⟩ := valD_rel q2 q3 hu
      cases keyV_of ry hk
      exact ⟨p, z, rfl, by rw [← hz]; exact DGet.k q1, h2.ok .refl rs2 rz⟩
    · exact h2.elim
  · exact h2.elim
/-! k in d -/
def dinM (neg : Bool) (v w : Val) (st : Sto) : Res Val := match dkOf st w, keyV v with
  | some l, some k => .ok (.bl (if neg = true then !(valD l k).isSome else (valD l k).isSome)) st
  | _, _ => .bad
theorem isSome_rel {ρ : Rho} {H : Hp} {l : List (Key × Val)} {kvs : List (Key × V)} (k : Key) (e : kvs.map (·.1) = l.map (·.1)) (r : RVs K ρ H (l.map (·.2)) (kvs.map (·.2))) : (valV kvs k).isSome = (valD l k).isSome := by
  cases h : valD l k with
  | none => rw [valD_none e h]; rfl
  | some v =>
    obtain ⟨x, hx, _⟩ := valD_rel e r h
    rw [hx]; rfl
theorem sc_din (hr : Room j X.A) (ha : SE K W X a ta ma) (hb : SE K W X b tb mb) : PC X .In a b (tDIn ta tb) ∧ SndE K W (tDIn ta tb) (mOp2 (dinM false) ma mb) := by
  refine ⟨pc_din (room_u1 hr) ha.pe hb.pe, fun ρ st H σ τ Q rs re q => ?_⟩
  refine ha.sd ρ st H σ τ _ rs re (After.bind q fun v st1 ρ1 H1 x _ e1 rs1 rx h1 => ?_)
  refine hb.sd ρ1 st1 H1 σ τ _ rs1 (re.mono e1.pre e1.fz) (After.bind h1 fun w st2 ρ2 H2 y _ e2 rs2 ry h2 => ?_)
  have rx2 := rx.mono e2.pre e2.fz
  unfold dinM at h2
  split at h2
  · rename_i l k hl hk
    obtain ⟨p, kvs, rfl, q1, q2, q3⟩ := dk_rel rs2 ry hl
    cases keyV_of rx2 hk
    refine ⟨p, _, rfl, DGet.k q1, ?_⟩
    refine h2.ok .refl rs2 ?_
    rw [isSome_rel k q2 q3]
    rfl
  · exact h2.elim
/-! len(d), dict(d), dict(pairs) -/
def lenDM : List Val → Sto → Res Val
  | [v], st => (match dkOf st v with
    | some l => .ok (.int l.length) st
    | none => .bad)
  | _, _ => .bad
theorem snd_lenD : SndRs K (fun xs H Q => ∃ a kvs, xs = [V.ref a] ∧ H a = some (.dK kvs) ∧ Q (.int kvs.length) H) lenDM := by
  intro ρ st H vs xs Q E rs rx h
  unfold lenDM at h
  split at h
  · split at h
    · rename_i l hl
      obtain ⟨x, rfl, r1⟩ := RVs.inv1 rx
      obtain ⟨p, kvs, rfl, q1, q2, q3⟩ := dk_rel rs r1 hl
      exact ⟨p, kvs, rfl, q1, h.ok .refl rs (by rw [dk_len q2]; rfl)⟩
    · exact h.elim
  · exact h.elim
def dictDM : List Val → Sto → Res Val
  | [v], st => (match dkOf st v with
    | some l => .ok (.loc st.length) (st ++ [.dk l])
    | none => .bad)
  | _, _ => .bad
theorem snd_dictD : SndRs K (fun xs H Q => ∃ (a : Addr) (kvs : List (Key × V)), xs = [.ref a] ∧ Rd H a (.dK kvs) ∧ ∀ p, H p = none → Q (.ref p) (upd H p (.dK kvs))) dictDM := by
  intro ρ st H vs xs Q E rs rx h
  unfold dictDM at h
  split at h
  · split at h
    · rename_i l hl
      obtain ⟨x, rfl, r1⟩ := RVs.inv1 rx
      obtain ⟨p, kvs, rfl, q1, q2, q3⟩ := dk_rel rs r1 hl
      refine ⟨p, kvs, rfl, .inl q1, fun z hz => ?_⟩
      obtain ⟨e1, r1, g1⟩ := new_ob (x := .dK kvs) (l := .dk l) rs hz ⟨kvs, upd_same, q2, q3⟩
      exact h.ok e1 r1 ⟨z, rfl, g1⟩
    · exact h.elim
  · exact h.elim
/-- the pairs of a list of pairs -/
def prsOf : List Val → Option (List (Key × Val))
  | [] => some []
  | .tup [k, v] :: l => (keyV k).bind fun k => (prsOf l).map fun r => (k, v) :: r
  | _ :: _ => none
def mergeD (l more : List (Key × Val)) : List (Key × Val) := more.foldl (fun acc kv => putD acc kv.1 kv.2) l
theorem mergeD_rel {ρ : Rho} {H : Hp} : ∀ {more : List (Key × Val)} {mv : List (Key × V)} {l : List (Key × Val)} {kvs : List (Key × V)}, mv.map (·.1) = more.map (·.1) → RVs K ρ H (more.map (·.2)) (mv.map (·.2)) → kvs.map (·.1) = l.map (·.1) → RVs K ρ H (l.map (·.2)) (kvs.map (·.2)) →
    (mergeK kvs mv).map (·.1) = (mergeD l more).map (·.1) ∧ RVs K ρ H ((mergeD l more).map (·.2)) ((mergeK kvs mv).map (·.2))
  | [], [], _, _, _, _, e, r => ⟨e, r⟩
  | [], _ :: _, _, _, e, _, _, _ => by cases e
  | p :: more, [], _, _, e, _, _, _ => by cases e
  | p :: more, q :: mv, l, kvs, e1, ⟨y, ys, e2, r1, r2⟩, e, r => by
    injection e2 with e3 e4
    subst e3; subst e4
    injection e1 with e5 e6
    have h := putD_rel (k := q.1) e r r1
    have e7 : q.1 = p.1 := e5
    have h3 := mergeD_rel (more := more) (mv := mv) e6 r2 h.1 h.2
    have a1 : mergeD l (p :: more) = mergeD (putD l q.1 p.2) more := by rw [e7]; rfl
    rw [a1]
    exact h3
theorem prs_rel {ρ : Rho} {st : Sto} {H : Hp} : ∀ {l : List Val} {xs : List V} {r : List (Key × Val)}, RVs K ρ (Fz ρ st H) l xs → prsOf l = some r → ∃ (ps : List Addr) (kvs : List (Key × V)), xs = ps.map V.ref ∧ Paired (fun p kv => SqT K H p [kV kv.1, kv.2]) ps kvs ∧ kvs.map (·.1) = r.map (·.1) ∧ RVs K ρ (Fz ρ st H) (r.map (·.2)) (kvs.map (·.2))
  | [], _, _, h, e => by cases e; cases (show _ = _ from h); exact ⟨[], [], rfl, .nil, rfl, rfl⟩
  | v :: l, _, r, ⟨y, ys, rfl, r1, r2⟩, e => by
    match v, r1, e with
    | .tup [k, u], r1, e =>
      unfold prsOf at e
      obtain ⟨k', hk, e⟩ := Option.bind_eq_some_iff.mp e
      obtain ⟨r', hr, rfl⟩ := Option.map_eq_some_iff.mp e
      obtain ⟨ps, kvs, e1, e2, e3, e4⟩ := prs_rel r2 hr
      obtain ⟨p, zs, rfl, sp, rz⟩ := r1
      obtain ⟨y1, w1, rfl, ry1, rz⟩ := rz
      obtain ⟨y2, w2, rfl, ry2, rz⟩ := rz
      cases (show _ = _ from rz)
      cases keyV_of ry1 hk
      subst e1
      exact ⟨p :: ps, (k', y2) :: kvs, rfl, .cons (sqT_mono (fz_same _ _ _) sp) e2, by rw [List.map_cons, List.map_cons, e3], y2, _, rfl, ry2, e4⟩
    | .tup [], _, e => cases e
    | .tup [_], _, e => cases e
    | .tup (_ :: _ :: _ :: _), _, e => cases e
    | .non, _, e => cases e
    | .bl _, _, e => cases e
    | .int _, _, e => cases e
    | .str _, _, e => cases e
    | .ty _, _, e => cases e
    | .ref _, _, e => cases e
    | .lst _, _, e => cases e
    | .cst _, _, e => cases e
    | .loc _, _, e => cases e
def dictPM : List Val → Sto → Res Val
  | [v], st => (match (lsOf st v).bind prsOf with
    | some r => .ok (.loc st.length) (st ++ [.dk (mergeD [] r)])
    | none => .bad)
  | _, _ => .bad
def rDictP (K : Frag) : List V → Hp → VK → Prop := fun xs H Q => ∃ (a : Addr) (ps : List Addr) (kvs : List (Key × V)), xs = [.ref a] ∧ SqL K H a (ps.map V.ref) ∧ Paired (fun p kv => SqT K H p [kV kv.1, kv.2]) ps kvs ∧ ∀ p, H p = none → Q (.ref p) (upd H p (.dK (mergeK [] kvs)))
theorem snd_dictP : SndRs K (rDictP K) dictPM := by
  intro ρ st H vs xs Q E rs rx h
  unfold dictPM at h
  split at h
  · split at h
    · rename_i r hr
      obtain ⟨l, h1, h2⟩ := Option.bind_eq_some_iff.mp hr
      obtain ⟨x, rfl, r1⟩ := RVs.inv1 rx
      obtain ⟨p, ys, rfl, sq, ry⟩ := ls_of rs r1 h1
      obtain ⟨ps, kvs, rfl, e2, e3, e4⟩ := prs_rel ry h2
      refine ⟨p, ps, kvs, rfl, sq, e2, fun z hz => ?_⟩
      have hm := mergeD_rel (l := []) (kvs := []) e3 e4 rfl (show RVs K ρ (Fz ρ st H) [] [] from rfl)
      obtain ⟨e1, r1, g1⟩ := new_ob (x := .dK (mergeK [] kvs)) (l := .dk (mergeD [] r)) rs hz ⟨_, upd_same, hm.1, hm.2⟩
      exact h.ok e1 r1 ⟨z, rfl, g1⟩
    · exact h.elim
  · exact h.elim
/-! d == e, of flat values -/
def flD : List (Key × Val) → Option (List (Key × V))
  | [] => some []
  | p :: l => (flV p.2).bind fun x => (flD l).map fun r => (p.1, x) :: r
theorem flD_of {ρ : Rho} {H : Hp} : ∀ {l : List (Key × Val)} {kvs ks : List (Key × V)}, kvs.map (·.1) = l.map (·.1) → RVs K ρ H (l.map (·.2)) (kvs.map (·.2)) → flD l = some ks → kvs = ks ∧ ∀ p ∈ kvs, flatV p.2 = true
  | [], [], _, _, _, e => by cases e; exact ⟨rfl, fun _ h => nomatch h⟩
  | [], _ :: _, _, e, _, _ => by cases e
  | p :: l, [], _, e, _, _ => by cases e
  | p :: l, q :: kvs, _, e1, ⟨y, ys, e2, r1, r2⟩, e => by
    injection e2 with e3 e4
    subst e3; subst e4
    injection e1 with e5 e6
    unfold flD at e
    obtain ⟨x, h1, e⟩ := Option.bind_eq_some_iff.mp e
    obtain ⟨r, h2, rfl⟩ := Option.map_eq_some_iff.mp e
    obtain ⟨e7, f1⟩ := flV_of r1 h1
    obtain ⟨rfl, f2⟩ := flD_of e6 r2 h2
    refine ⟨by rw [← e7, ← show q.1 = p.1 from e5], fun z hz => ?_⟩
    rcases List.mem_cons.mp hz with rfl | hz
    · exact f1
    · exact f2 z hz
def eqDV (ks ls : List (Key × V)) : Bool := ks.length == ls.length && ks.all fun p => match valV ls p.1 with
  | some y => eqV p.2 y
  | none => false
theorem hits_any {A : Around} {s : Shared} {ls : List (Key × V)} {vb : List (Key × Value)} (rb : KV ls vb) (fb : ∀ p ∈ ls, flatV p.2 = true) {ks : List (Key × V)} {va : List (Key × Value)} (ra : KV ks va) :
    (∀ p ∈ ks, flatV p.2 = true) → PySem.W.KeqHits A s vb va (ks.all fun p => match valV ls p.1 with
      | some y => eqV p.2 y
      | none => false) := by
  unfold KV at ra
  induction ra with
  | nil => intro _; exact .nil
  | @cons p q ps qs h t ih =>
    intro hp
    obtain ⟨h1, h2⟩ := h
    obtain ⟨k, v⟩ := q
    have h1' : p.1 = k := h1
    have rv := rb.val p.1
    rw [List.all_cons]
    cases hv : valV ls p.1 with
    | none =>
      rw [hv] at rv
      have hn : valueAt vb k = none := by
        rw [← h1']
        have := rv.isSome_eq
        cases hq : valueAt vb p.1 with
        | none => rfl
        | some _ => rw [hq] at this; cases this
      show PySem.W.KeqHits A s vb ((k, v) :: qs) (false && _)
      rw [Bool.false_and]
      exact .miss hn
    | some y =>
      rw [hv] at rv
      obtain ⟨u, hu, ru⟩ := rv.some_of
      rw [h1'] at hu
      have hy : flatV y = true := by
        unfold valV at hv
        obtain ⟨kv, e1, rfl⟩ := Option.map_eq_some_iff.mp hv
        exact fb kv (List.mem_of_find?_eq_some e1)
      exact .hit hu (eqAt_V h2 ru (hp p List.mem_cons_self) hy) (ih fun p' hm => hp p' (List.mem_cons_of_mem _ hm))
def rEqDG : R2 := fun x y H Q => ∃ a b ks ls, x = .ref a ∧ y = .ref b ∧ H a = some (.dK ks) ∧ H b = some (.dK ls) ∧ (∀ p ∈ ks, flatV p.2 = true) ∧ (∀ p ∈ ls, flatV p.2 = true) ∧ Q (.bl (eqDV ks ls)) H
theorem op_eqDG (hu : X.A.units < cLine) : OpR X (compareOp .Eq) rEqDG := by
  intro pins s σ H x y v u Q I rx ry h
  obtain ⟨a, b, ks, ls, rfl, rfl, ea, eb, fa, fb, q⟩ := h
  obtain rfl : v = Value.ref a := rx
  obtain rfl : u = Value.ref b := ry
  obtain ⟨_, ya, va, ra, da⟩ := (show ObjOk X.prog X.w H s.heap a (.dK ks) from I.hok a _ ea)
  obtain ⟨_, yb, vb, rb, db⟩ := (show ObjOk X.prog X.w H s.heap b (.dK ls) from I.hok b _ eb)
  have hl : (va.length == vb.length) = (ks.length == ls.length) := by rw [← ra.length, ← rb.length]
  exact PySem.W.keq_eq (knd := mixKind X.prog X.w) ya yb da db hu (fun _ => hits_any rb fb ra fa) (fin_bl I q (by rw [hl]; rfl))
def eqDM (v w : Val) (st : Sto) : Res Val := match (dkOf st v).bind flD, (dkOf st w).bind flD with
  | some ks, some ls => .ok (.bl (eqDV ks ls)) st
  | _, _ => .bad
theorem snd_eqD : SndR2 K rEqDG eqDM := by
  intro ρ st H v w x y Q E rs rx ry h
  unfold eqDM at h
  split at h
  · rename_i ks ls h1 h2
    obtain ⟨l, a0, h3⟩ := Option.bind_eq_some_iff.mp h1
    obtain ⟨l', b0, h4⟩ := Option.bind_eq_some_iff.mp h2
    obtain ⟨p, kvs, rfl, a1, a2, a3⟩ := dk_rel rs rx a0
    obtain ⟨q, kws, rfl, b1, b2, b3⟩ := dk_rel rs ry b0
    obtain ⟨rfl, f1⟩ := flD_of a2 a3 h3
    obtain ⟨rfl, f2⟩ := flD_of b2 b3 h4
    exact ⟨p, q, _, _, rfl, rfl, a1, b1, f1, f2, h.ok .refl rs rfl⟩
  · exact h.elim
end
end L3
end

section
set_option Elab.async false
set_option linter.all false
set_option maxRecDepth 100000
set_option maxHeartbeats 1000000
/-! L3j: sum(xs, start=0). -/
namespace L3
open PySem
open PySem.Sem (wp)
section
variable {prog : Program} {w : World} {A : Around} {E : Value → Shared → Prop} {s : Shared}
theorem fn_kw {id : String} {b : Builtin} {ar : Args} {Q : Value → Shared → Prop} (h1 : builtinKind id = none) (h2 : plainId id = true) (h3 : entryFor table id = some b) (h4 : argsOk id ar)
    (h5 : wpAny (model prog w) A.in1 (b ar) (fun f s' => match f with
      | .done f => (match (Except.ok f : Result) with | .ok (.ret v) => Q v s' | .ok _ => False | .error e => E e s')
      | .again c => c.quiet = true ∧ codeAny (model prog w) A c (fun r s' => match r with | .ok (.ret v) => Q v s' | .ok _ => False | .error e => E e s') s') E s) :
    wpAny (model prog w) A (call (.builtin id) ar.pos ar.kw) Q E s := by
  obtain ⟨ps, kw⟩ := ar
  refine wpAny_call (codeAny_call_builtin h2 h3 ?_)
  simp only [checkBuiltinCall, h1]
  cases q : Manifest.signature? id with
  | none => exact wpAny_pure h5
  | some sg =>
    have h6 : Bind.checkArgs id sg ⟨ps, kw⟩ = pure () := by
      simp only [argsOk, q] at h4
      exact h4
    show wpAny _ A.in1 (Bind.checkArgs id sg ⟨ps, kw⟩) _ _ s
    rw [h6]
    exact wpAny_pure h5
abbrev startW : Str := Str.ofString "start"
theorem args_sumK (a : Value) (t : Tok) : argsOk "sum" ⟨[a], [(startW, .int 0 t)]⟩ := by
  unfold argsOk
  kernel_rfl
theorem bind_sumK (t : Tok) : Builtin.Builtins.bindParams "sum" ["start"] 0 ⟨[], [(startW, .int 0 t)]⟩ = pure [some (.int 0 t)] := by kernel_rfl
/-- what is walked is summed, from 0 -/
theorem sum_startG {x : Value} {t : Tok} {Q : Value → Shared → Prop}
    (h : wpAny (model prog w) A.in1 (pyIter x) (fun it s₂ => ∃ I fp wr n P St val, it = .ref I ∧ Walks prog w A.in1 I fp wr n P St ∧ St 0 s₂.heap ∧ (∀ b ∈ fp, b < s₂.heap.objs.size) ∧
      (∀ i v, P i v → ∃ t, v = .int (val i) t) ∧ ∀ h' tk t', (∀ b o, b ∉ wr → s₂.heap.get? b = some o → h'.get? b = some o) → Q (.int (preSum val n) t') { s₂ with heap := h', toks := tk }) E s) :
    wpAny (model prog w) A (call (.builtin "sum") [x] [(startW, .int 0 t)]) Q E s := by
  refine fn_kw (ar := ⟨[x], [(startW, .int 0 t)]⟩) F.kind_sum F.plain_sum F.entry_sum (args_sumK _ _) ?_
  unfold Builtin.«sum»
  simp only [List.length_cons, List.length_nil]
  rw [if_neg (by decide)]
  refine wpAny_bind (wpAny_of_eq (bind_sumK t) ?_)
  refine wpAny_bind (wpAny_mono h (fun it s₂ h₂ => ?_) fun _ _ e => e)
  obtain ⟨I, fp, wr, n, P, St, val, rfl, W, hst, hfp, hval, hQ⟩ := h₂
  have nS : s₂.heap.objs.size ∉ fp := fun m => Nat.lt_irrefl _ (hfp _ m)
  have run : ∀ (tk : Nat) (st : Int) (u : Tok), (st = 0 ∨ st = 2) → wpAny (model prog w) A.in1 (do
      forIn [("str", "strings", "''"), ("bytes", "bytes", "b''"), ("bytearray", "bytearray", "b''")] PUnit.unit fun x __s => do
        let y ← isInstance (Value.int 0 u) (Value.type x.fst)
        if y = true then do
          rule "sum.start-refused"
          raiseErrorMade "TypeError" (toString "sum() can't sum " ++ toString x.2.fst ++ toString " [use " ++ toString x.2.snd ++ toString ".join(seq) instead]")
          pure (ForInStep.yield PUnit.unit)
        else pure (ForInStep.yield PUnit.unit)
      let z ← newList [Value.int 0 u]
      again (Code.builtin "sum.loop" { pos := [Value.ref I, z, rawInt st, rawInt 0] })) (fun f s' => match f with
      | .done f => (match (Except.ok f : Result) with | .ok (.ret v) => Q v s' | .ok _ => False | .error e => E e s')
      | .again c => c.quiet = true ∧ codeAny (model prog w) A c (fun r s' => match r with | .ok (.ret v) => Q v s' | .ok _ => False | .error e => E e s') s') E { s₂ with toks := tk } := by
    intro tk st u hst2
    simp only [List.forIn_cons, List.forIn_nil]
    refine wpAny_bind (wpAny_bind (wpAny_bind (wpAny_isInstance (b := false) (T := "int") (typeIs_int _ _ _) sub_int_str ?_)))
    simp only [if_false, Bool.false_eq_true]
    refine wpAny_pure (wpAny_bind (wpAny_bind (wpAny_isInstance (b := false) (T := "int") (typeIs_int _ _ _) sub_int_bytes ?_)))
    simp only [if_false, Bool.false_eq_true]
    refine wpAny_pure (wpAny_bind (wpAny_bind (wpAny_isInstance (b := false) (T := "int") (typeIs_int _ _ _) sub_int_bytearray ?_)))
    simp only [if_false, Bool.false_eq_true]
    refine wpAny_pure (wpAny_pure (wpAny_bind (wpAny_newObj_type ?_)))
    exact wpAny_pure ⟨plainId_quiet F.plain_sum_loop _, codeAny_sum_loopG W val hval s₂.heap.objs.size nS n 0 _ u 0 st hst2 rfl (Nat.zero_le _)
      (W.frame _ _ _ hst fun b _ o e => Heap.get?_push_of_some _ e) (Heap.get?_push_size _ rfl) fun h' tk t' hk => hQ h' tk t' fun b o hb e => hk b o hb (Nat.ne_of_lt (Heap.lt_size e)) (Heap.get?_push_of_some _ e)⟩
  dsimp only
  split
  · refine wpAny_bind (wpAny_rule (wpAny_bind (wpAny_mkInt (wpAny_bind (wpAny_pure ?_)))))
    exact run _ 0 _ (.inl rfl)
  · refine wpAny_bind (wpAny_pure ?_)
    exact run _ 2 _ (.inr rfl)
end
end L3
end

section
set_option Elab.async false
set_option linter.all false
set_option maxRecDepth 100000
set_option maxHeartbeats 400000
/-! L3k: sum; stores to dicts; dict comprehensions. -/
namespace L3
open PySem PySem.Spec PyProof.Rows L2
theorem sum_rawK {prog : Program} {w : World} {A : Around} {E : Value → Shared → Prop} {s : Shared} {l : Addr} {its : List Value} {ns : List Int} {t : Tok} {Q : Value → Shared → Prop} (hh : A.handled = none) (hl : s.heap.IsList l its.toArray) (hi : IntsAre its ns)
    (h : ∀ h' tk t', (∀ b o, s.heap.get? b = some o → h'.get? b = some o) → Q (.int ns.sum t') { s with heap := h', toks := tk }) : wpAny (model prog w) A (call (.builtin "sum") [.ref l] [(startW, .int 0 t)]) Q E s := by
  obtain ⟨xs, e⟩ := hi.allInts.items
  have hn : numsOf (intItems xs).toList = ns := by rw [← e]; exact hi.numsOf
  rw [nums_intItems] at hn
  rw [e] at hl
  refine sum_startG (iter_intList hl fun s₂ e st hfp hlI => ?_)
  subst e
  refine ⟨_, _, _, _, _, _, numAt xs, rfl, Walks.list (A := A.in1) hh _ l hlI (intItems xs), st, hfp, (fun _ _ => intItems_at), fun h' tk t' hk => ?_⟩
  have := h h' tk t' (old_kept hk)
  rw [show (intItems xs).size = xs.size by simp [intItems], preSum_eq, List.take_of_length_le (by simp), hn]
  exact this
theorem cr_sumK {X : Cx} (hc : X.calm = true) : CallRK X (.builtin "sum") [startW] (fun xs zs H Q => zs = [.int 0] ∧ rSum X.K xs H Q) := by
  intro pins s σ H xs zs us ws Q I r1 r2 h
  obtain ⟨rfl, a, ns, rfl, hs, q⟩ := h
  obtain ⟨its, rv, hl, _⟩ := I.list hs
  rw [Vals.ref1 r1]
  cases r2 with
  | cons r t =>
    cases t
    obtain ⟨t, rfl⟩ := r
    exact sum_rawK (I.ok.hd hc) hl.isList rv.ints fun h' tk t' hk => ⟨.int _, H, I.kept hk, ⟨_, rfl⟩, q⟩
def intsOf : List Val → Option (List Int)
  | [] => some []
  | .int i :: l => (intsOf l).map fun r => i :: r
  | _ :: _ => none
theorem ints_rel {K : Frag} {ρ : Rho} {H : Hp} : ∀ {l : List Val} {xs : List V} {ns : List Int}, RVs K ρ H l xs → intsOf l = some ns → xs = ns.map V.int
  | [], _, _, h, e => by cases e; exact h
  | v :: l, _, ns, ⟨y, ys, rfl, r1, r2⟩, e => by
    cases v with
    | int i =>
      obtain ⟨r, h1, rfl⟩ := Option.map_eq_some_iff.mp (show (intsOf l).map (fun r => i :: r) = some ns from e)
      rw [ints_rel r2 h1, List.map_cons, show y = V.int i from r1]
    | _ => cases e
@[simp] theorem intsOf_map : ∀ l : List Int, intsOf (l.map .int) = some l
  | [] => rfl
  | a :: l => by
    show (intsOf (l.map .int)).map (fun r => a :: r) = _
    rw [intsOf_map l]
    rfl
def sumM : List Val → Sto → Res Val
  | [v], st => (match (lsOf st v).bind intsOf with
    | some ns => .ok (.int ns.sum) st
    | none => .bad)
  | _, _ => .bad
section
variable {K : Frag} {W : WX} {X : Cx} {x : Str} {p pos pos' : Pos} {a b c e o : Expr} {ta tb tc te to ti : TE} {ma mb mc me mo mi : ME} {es : List Expr} {t tk : TA} {m mk : MA} {j : Nat} {kws : List Keyword}
theorem snd_sum : SndRs K (rSum K) sumM := by
  intro ρ st H vs xs Q E rs rx h
  unfold sumM at h
  split at h
  · split at h
    · rename_i ns hn
      obtain ⟨l, h1, h2⟩ := Option.bind_eq_some_iff.mp hn
      obtain ⟨y, rfl, r1⟩ := RVs.inv1 rx
      obtain ⟨q, ys, rfl, sq, ry⟩ := ls_of rs r1 h1
      obtain rfl := ints_rel ry h2
      exact ⟨q, ns, rfl, sq, h.ok .refl rs rfl⟩
    · exact h.elim
  · exact h.elim
/-- f(xs, k=0): what is told hangs on xs alone -/
theorem snd_callBK {r : List V → Hp → VK → Prop} {f : List Val → Sto → Res Val} {ws : List Val} {zs : List V} (hs : SndRs K r f) (ha : SndA K W t m) (hk : ∀ σ st, mk σ st = .ok ws st) (hz : ∀ ρ H l, RVs K ρ H ws l → l = zs) (hd : SndA K W tk mk) :
    SndE K W (tCKw (fun xs ys H Q => ys = zs ∧ r xs H Q) t tk) (mOps f m) := by
  intro ρ st H σ τ Q rs re q
  refine ha ρ st H σ τ _ rs re (After.bind q fun vs st1 ρ1 H1 xs _ e1 rs1 rx h1 => ?_)
  refine hd ρ1 st1 H1 σ τ _ rs1 (re.mono e1.pre e1.fz) ?_
  rw [hk]
  intro ρ2 H2 l e2 rs2 rl
  exact ⟨hz _ _ _ rl, hs ρ2 st1 H2 vs xs Q _ rs2 (rx.mono e2.pre e2.fz) (After.shift h1 e2)⟩
theorem se_sum (hc : X.calm = true) (hm : X.mg "sum" = none) (ha : SA K W X (e :: es) t m) (hg : Gl X "sum" := by rfl) (hK : X.K = K := by rfl)
    (he : starEach (e :: es) X.env = (false, eval e X.env) :: starEach es X.env := by rfl) (hpl : (backTo pos (starEach es X.env)).any (·.1) = false := by rfl) : SE K W X (.Call (.Name "sum" p) (e :: es) [] pos) (tCB (rSum K) t) (mOps sumM m) := by
  subst hK
  exact ⟨pe_callB (cr_sum hc) hg hm rfl ha.pa (by decide) (by decide) he hpl, snd_ops snd_sum ha.sd⟩
theorem se_sum0 (hc : X.calm = true) (hm : X.mg "sum" = none) (ha : SA K W X (e :: es) t m) (kk : Nat) (kp kp2 : Pos) (hkw : kws = [⟨some startW, .Constant (.int 0) kk kp2, kp⟩] := by rfl) (hg : Gl X "sum" := by rfl) (hK : X.K = K := by rfl)
    (he : backTo pos (starEach (e :: es) X.env) = (false, eval e X.env) :: backTo pos (starEach es X.env) := by rfl) (hpl : (backTo pos (starEach (e :: es) X.env)).any (·.1) = false := by rfl)
    (hall : (backToKw pos (keywordEach kws X.env)).all (·.1.isSome) = true := by rfl) (hnone : (backToKw pos (keywordEach kws X.env)).any (·.1.isNone) = false := by rfl) (hks : (backToKw pos (keywordEach kws X.env)).filterMap (·.1) = [startW] := by rfl) :
    SE K W X (.Call (.Name "sum" p) (e :: es) kws pos) (tCKw (fun xs ys H Q => ys = [.int 0] ∧ rSum K xs H Q) t (tCons (tC (.int 0)) tNil)) (mOps sumM m) := by
  subst hK
  subst hkw
  refine ⟨pe_callBK (cr_sumK hc) hg hm rfl ha.pa (sk_cons (K := X.K) (W := W) se_int sk_nil).pk (by decide) (by decide) he hpl hall hnone hks, snd_callBK (ws := [.int 0]) (mk := aCons (mVal (.int 0)) aNil) snd_sum ha.sd (fun _ _ => rfl) (fun ρ H l r => ?_) (snd_cons (snd_val fun _ _ => rfl) snd_nil)⟩
  obtain ⟨y, rfl, r1⟩ := RVs.inv1 r
  cases (show _ = _ from r1)
  rfl
/-! d[k] = v, as a target -/
def setKM (o i v : Val) (st : Sto) : Res Unit := match o, keyV i with
  | .loc n, some k => (match dkOf st (.loc n) with
    | some l => if l.length < sizeLine then .ok () (st.set n (.dk (putD l k v))) else .bad
    | none => .bad)
  | _, _ => .bad
def gIxK (mo mi : ME) : MG := fun v σ st => (mo σ st).bind fun o st1 => (mi σ st1).bind fun i st2 => (setKM o i v st2).bind fun _ st3 => .ok σ st3
theorem sg_ixK (hr : Room j X.A) (ho : ∀ W, SE K W X a to mo) (hi : ∀ W, SE K W X b ti mi) (ha : ∀ v, assign (.Subscript a b pos') X.env v = (do
      let ov ← holding [v] (eval a X.env)
      let iv ← holding [v, ov] (eval b X.env)
      standAt pos'
      holding [v, ov, iv] (setItem ov iv v)
      release [v, ov, iv] []) := by intro _; rfl) : SG K X (.Subscript a b pos') (gSub to ti rSetD) (gIxK mo mi) := by
  refine ⟨pg_sub (ho fun _ _ _ _ => True).pe (hi fun _ _ _ _ => True).pe (set_dict (room_u1 hr)) ha, fun ρ st H σ τ v x Q E rs re rv h => ?_⟩
  refine (ho fun c d _ H' => E c d H').sd ρ st H σ τ _ rs re (After.bind h fun o st2 ρ2 H2 y _ e2 rs2 ry h2 => ?_)
  have re2 := re.mono e2.pre e2.fz
  refine (hi fun c d _ H' => E c d H').sd ρ2 st2 H2 σ τ _ rs2 re2 (After.bind h2 fun i st3 ρ3 H3 z _ e3 rs3 rz h3 => ?_)
  have re3 := re2.mono e3.pre e3.fz
  have rx3 := (rv.mono e2.pre e2.fz).mono e3.pre e3.fz
  have ry3 := ry.mono e3.pre e3.fz
  cases o with
  | loc n =>
    unfold setKM at h3
    cases hk : keyV i with
    | none => simp only [hk] at h3; exact h3.elim
    | some k =>
      simp only [hk] at h3
      cases hd : dkOf st3 (.loc n) with
      | none => simp only [hd] at h3; exact h3.elim
      | some l =>
        simp only [hd] at h3
        split at h3
        · rename_i hz
          obtain ⟨n', e, hn⟩ := dkOf_loc hd
          cases e
          obtain ⟨p, rfl, hp⟩ := ry3
          obtain ⟨kvs, q1, q2, q3⟩ := rs3.ob n _ p hn hp
          cases keyV_of rz hk
          have hm := putD_rel (k := k) q2 q3 rx3
          obtain ⟨e4, r4⟩ := set_ob (y := .dK (putK kvs k x)) (l' := .dk (putD l k v)) rs3 hn (fun z => by cases z) hp ⟨_, upd_same, hm.1, hm.2⟩
          exact ⟨p, _, rfl, DPut.k q1 (by rw [dk_len q2]; exact hz), h3.ok e4 r4 (re3.mono e4.pre e4.fz)⟩
        · exact h3.elim
  | _ => exact h3.elim
end
end L3
end

section
set_option Elab.async false
set_option linter.all false
set_option maxRecDepth 100000
set_option maxHeartbeats 400000
/-! L3l: dict comprehensions; what was hidden is ours. -/
namespace L3
open PySem PySem.Spec PyProof.Rows L2
section
variable {K : Frag} {ρ : Rho} {st : Sto} {H : Hp}
/-- what was being made is one of ours now -/
theorem own_adopt {D b : Addr} {ob : Ob} (hl : ρ.1.length = st.length) (nd : ob ≠ .dead) : Own (ρ.1 ++ [D], ρ.2) (st ++ [ob]) b ↔ b = D ∨ Own ρ st b := by
  constructor
  · rintro (h | ⟨n, o, e1, e2, e3⟩)
    · exact .inr (.inl h)
    · by_cases hn : n < ρ.1.length
      · rw [List.getElem?_append_left hn] at e1
        rw [List.getElem?_append_left (by omega)] at e2
        exact .inr (.inr ⟨n, o, e1, e2, e3⟩)
      · rw [List.getElem?_append_right (by omega)] at e1
        cases hz : n - ρ.1.length with
        | zero => rw [hz] at e1; simp at e1; exact .inl e1.symm
        | succ z => rw [hz] at e1; simp at e1
  · rintro (rfl | h | ⟨n, o, e1, e2, e3⟩)
    · exact .inr ⟨ρ.1.length, ob, by simp, by rw [hl]; simp, nd⟩
    · exact .inl h
    · exact .inr ⟨n, o, by rw [List.getElem?_append_left (List.getElem?_eq_some_iff.mp e1).1]; exact e1, by rw [List.getElem?_append_left (List.getElem?_eq_some_iff.mp e2).1]; exact e2, e3⟩
theorem fz_adopt {D : Addr} {ob : Ob} (hl : ρ.1.length = st.length) (nd : ob ≠ .dead) : Fz (ρ.1 ++ [D], ρ.2) (st ++ [ob]) H = Fz (hideR ρ D) st H := by
  funext b
  by_cases h : b = D ∨ Own ρ st b
  · rw [fz_none ((own_adopt hl nd).mpr h), fz_none (own_hide.mpr h)]
  · rw [fz_eq (fun z => h ((own_adopt hl nd).mp z)), fz_eq (fun z => h (own_hide.mp z))]
theorem RS.adopt {D : Addr} {ob : Ob} (r : RS K (hideR ρ D) st H) (hn : D ∉ ρ.2) (nd : ob ≠ .dead) (q : RO K (hideR ρ D) (Fz (hideR ρ D) st H) H D ob) : RS K (ρ.1 ++ [D], ρ.2) (st ++ [ob]) H := by
  have hl : ρ.1.length = st.length := r.len
  have ef := fz_adopt (H := H) (D := D) (ob := ob) hl nd
  have pr : (hideR ρ D).1 <+: (ρ.1 ++ [D], ρ.2).1 := List.prefix_append ..
  have key : ∀ (n : Nat) (o : Ob) (a : Addr), (ρ.1 ++ [D])[n]? = some a → (st ++ [ob])[n]? = some o → (ρ.1[n]? = some a ∧ st[n]? = some o) ∨ (n = ρ.1.length ∧ a = D ∧ o = ob) := fun n o a e1 e2 => by
    by_cases hn : n < ρ.1.length
    · rw [List.getElem?_append_left hn] at e1
      rw [List.getElem?_append_left (by rw [← hl]; exact hn)] at e2
      exact .inl ⟨e1, e2⟩
    · rw [List.getElem?_append_right (by omega)] at e1
      rw [List.getElem?_append_right (by omega), ← hl] at e2
      cases hz : n - ρ.1.length with
      | zero => rw [hz] at e1 e2; simp at e1 e2; exact .inr ⟨by omega, e1.symm, e2.symm⟩
      | succ z => rw [hz] at e1; simp at e1
  have notD : ∀ (n : Nat) (a : Addr) (o : Ob), ρ.1[n]? = some a → st[n]? = some o → o ≠ .dead → a ≠ D := fun n a o e1 e2 e3 z => r.apart n a o e1 e2 e3 (by rw [z]; exact List.mem_cons_self)
  refine ⟨by simp [hl], fun n u a e1 e2 => ?_, fun n m a o o' e1 e2 e3 e4 e5 e6 => ?_, fun a ha => r.hid a (List.mem_cons_of_mem _ ha), fun n a o e1 e2 e3 => ?_⟩
  · rw [ef]
    rcases key n u a e2 e1 with ⟨h1, h2⟩ | ⟨_, h1, h2⟩
    · exact (r.ob n u a h2 h1).frame (fun _ => rfl) pr (Same.refl _)
    · subst h1; subst h2
      exact q.frame (fun _ => rfl) pr (Same.refl _)
  · rcases key n o a e1 e3 with ⟨a2, a3⟩ | ⟨a1, a2, _⟩ <;> rcases key m o' a e2 e5 with ⟨b2, b3⟩ | ⟨b1, b2, _⟩
    · exact r.inj n m a o o' a2 b2 a3 e4 b3 e6
    · exact absurd b2 (notD n a o a2 a3 e4)
    · exact absurd a2 (notD m a o' b2 b3 e6)
    · rw [a1, b1]
  · rcases key n o a e1 e2 with ⟨h1, h2⟩ | ⟨_, h1, _⟩
    · exact fun z => r.apart n a o h1 h2 e3 (List.mem_cons_of_mem _ z)
    · rw [h1]; exact hn
end
open Classical in
noncomputable def dcGo (keep : Sto → Prop) (g : MG) (c : MT) (mk mv : ME) (σ0 : Env) : List Val → List (Key × Val) → Sto → Res (List (Key × Val))
  | [], acc, st => if keep st then .ok acc st else .bad
  | v :: l, acc, st => if keep st then (g v σ0 st).calm fun σ1 st1 => (c σ1 st1).calm fun b st2 =>
      if b = true then (mk σ1 st2).calm fun kv st3 => (mv σ1 st3).calm fun w st4 => (match keyV kv with
        | some k => if acc.length < sizeLine then dcGo keep g c mk mv σ0 l (putD acc k w) st4 else .bad
        | none => .bad) else dcGo keep g c mk mv σ0 l acc st2 else .bad
noncomputable def mDc (mi : MI) (g : MG) (c : MT) (mk mv : ME) (vs : List Nat) : ME := fun σ st => (mi σ st).bind fun p st1 => (dcGo p.2 g c mk mv (wipeE σ vs) p.1 [] st1).bind fun l st2 => .ok (.loc st2.length) (st2 ++ [Ob.dk l])
section
variable {K : Frag} {W : WX} {X : Cx} {pos spos py : Pos} {kx vx tg iter : Expr} {ifs : List Expr} {scope : Scope} {own : List (Str × Nat)} {wi : TI} {mi : MI} {g : TG} {gm : MG} {tt : TT} {mt : MT} {tk tv : TE} {mk mv : ME} {vs : List Nat}
theorem snd_dc (hi : SndI K W wi mi) (hg : SndGw K vs g gm) (ht : SndT K (fun _ _ _ _ => False) tt mt) (hk : SndE K (fun _ _ _ _ => False) tk mk) (he : SndE K (fun _ _ _ _ => False) tv mv) : SndE K W (tDc wi g tt tk tv vs) (mDc mi gm mt mk mv vs) := by
  intro ρ st H σ τ Q rs re q
  refine hi ρ st H σ τ _ rs re (After.bind q fun p st1 ρ1 H1 J _ e1 rs1 src hh D hD => ?_)
  obtain ⟨items, keep⟩ := p
  have nD := rs1.fresh hD
  have rsD : RS K (hideR ρ1 D) st1 (upd H1 D (.dK [])) := rs1.hide hD
  have ef : Fz (hideR ρ1 D) st1 (upd H1 D (.dK [])) = Fz ρ1 st1 H1 := fz_hide nD hD fun b hb => upd_ne hb
  have reD : RE K (hideR ρ1 D) (Fz (hideR ρ1 D) st1 (upd H1 D (.dK []))) (wipeE σ vs) (wipe τ vs) := by
    rw [ef]
    exact RE.mono (ρ := ρ1) (ρ' := hideR ρ1 D) List.prefix_rfl (Same.refl _) ((re.mono e1.pre e1.fz).wipe vs)
  have hnD : D ∉ ρ1.2 := fun z => nD (.inl z)
  have hh : After K ρ1 st1 H1 (RV K) ((dcGo keep gm mt mk mv (wipeE σ vs) items [] st1).bind fun l st2 => .ok (.loc st2.length) (st2 ++ [Ob.dk l])) Q (fun c d H' => W c d τ H') := hh
  refine ⟨fun i m H => ∃ ρ' st' acc ac, Ext (hideR ρ1 D) st1 (upd H1 D (.dK [])) ρ' st' (upd H D (.dK [])) ∧ RS K ρ' st' H ∧ H D = some (.dK ac) ∧ ac.map (·.1) = acc.map (·.1) ∧ RVs K ρ' (Fz ρ' st' H) (acc.map (·.2)) (ac.map (·.2)) ∧
      (∃ r, r = dcGo keep gm mt mk mv (wipeE σ vs) (items.drop i) acc st' ∧ After K ρ1 st1 H1 (RV K) (r.bind fun l st2 => .ok (.loc st2.length) (st2 ++ [Ob.dk l])) Q (fun c d H' => W c d τ H')) ∧ m = items.length - i ∧ i ≤ items.length,
    ⟨items.length, hideR ρ1 D, st1, [], [], ?_, rsD, upd_same, rfl, rfl, ⟨_, rfl, hh⟩, rfl, Nat.zero_le _⟩, ?_⟩
  · have e : upd (upd H1 D (.dK [])) D (.dK []) = upd H1 D (.dK []) := by
      funext b
      by_cases hb : b = D
      · subst hb; rw [upd_same, upd_same]
      · rw [upd_ne hb]
    rw [e]
    exact .refl
  rintro i m H2 ⟨ρ2, st2, acc, ac, e2, rs2, hac, kac, rac, ⟨r, rfl, h2⟩, rfl, hle⟩
  have hD2 : D ∈ ρ2.2 := by rw [e2.hs]; exact List.mem_cons_self
  have fzD : ∀ (ρ' : Rho) (st' : Sto) (H' : Hp) (o : HO), D ∈ ρ'.2 → Fz ρ' st' (upd H' D o) = Fz ρ' st' H' := fun ρ' st' H' o hm => by
    funext b
    by_cases ho : Own ρ' st' b
    · rw [fz_none ho, fz_none ho]
    · have hb : b ≠ D := fun z => ho (.inl (by rw [z]; exact hm))
      rw [fz_eq ho, fz_eq ho, upd_ne hb]
  have base2 : Same (Fz ρ1 st1 H1) (Fz ρ2 st2 H2) := by
    rw [← ef, ← fzD ρ2 st2 H2 (.dK []) hD2]
    exact e2.fz
  have pre2 : ρ1.1 <+: ρ2.1 := e2.pre
  cases hn : items[i]? with
  | none =>
    have hd : items.drop i = [] := List.drop_eq_nil_of_le (List.getElem?_eq_none_iff.mp hn)
    rw [hd] at h2
    unfold dcGo at h2
    split at h2
    · rename_i hkp
      refine .inl ⟨(src ρ2 st2 H2 pre2 base2 rs2 hkp i).2 (Nat.le_antisymm hle (List.getElem?_eq_none_iff.mp hn)), ?_⟩
      have e22 : ρ2 = hideR (ρ2.1, ρ1.2) D := Prod.ext rfl e2.hs
      rw [e22] at rs2 rac
      have nd : Ob.dk acc ≠ .dead := fun z => by cases z
      have rs3 := rs2.adopt hnD nd ⟨ac, hac, kac, rac⟩
      have fa := fz_adopt (ρ := (ρ2.1, ρ1.2)) (st := st2) (H := H2) (D := D) rs2.len nd
      refine h2 (ρ2.1 ++ [D], ρ1.2) H2 (.ref D) ⟨pre2.trans (List.prefix_append ..), ?_, rfl, fun b hb => ?_⟩ rs3 ⟨D, rfl, ?_⟩
      · rw [fa]
        rw [e22] at base2
        exact base2
      · have hb' := e2.hid b (List.mem_cons_of_mem _ hb)
        have hbD : b ≠ D := fun z => hnD (by rw [← z]; exact hb)
        rw [upd_ne hbD, upd_ne hbD] at hb'
        exact hb'
      · have : ρ2.1.length = st2.length := rs2.len
        show (ρ2.1 ++ [D])[st2.length]? = some D
        rw [← this]; simp
    · exact h2.elim
  | some v =>
    obtain ⟨hlt, hv⟩ := List.getElem?_eq_some_iff.mp hn
    have hd : items.drop i = v :: items.drop (i + 1) := by rw [List.drop_eq_getElem_cons hlt, hv]
    rw [hd] at h2
    unfold dcGo at h2
    split at h2
    · rename_i hkp
      obtain ⟨go, yl⟩ := (src ρ2 st2 H2 pre2 base2 rs2 hkp i).1 v hn
      refine .inr ⟨go, fun H' => ∃ ρ' st' acc ac, Ext (hideR ρ1 D) st1 (upd H1 D (.dK [])) ρ' st' (upd H' D (.dK [])) ∧ RS K ρ' st' H' ∧ H' D = some (.dK ac) ∧ ac.map (·.1) = acc.map (·.1) ∧ RVs K ρ' (Fz ρ' st' H') (acc.map (·.2)) (ac.map (·.2)) ∧
        (∃ r, r = dcGo keep gm mt mk mv (wipeE σ vs) (items.drop (i + 1)) acc st' ∧ After K ρ1 st1 H1 (RV K) (r.bind fun l st2 => .ok (.loc st2.length) (st2 ++ [Ob.dk l])) Q (fun c d H' => W c d τ H')), fun H' h' => ?_, fun x H' hy => ?_⟩
      · obtain ⟨ρ', st', acc', ac', a, b, c, d, d2, f⟩ := h'
        exact ⟨items.length - (i + 1), by omega, ρ', st', acc', ac', a, b, c, d, d2, f, rfl, hlt⟩
      · obtain ⟨e3, rs3, rv⟩ := yl x H' hy
        have move : ∀ (ρa : Rho) (sa : Sto) (Ha : Hp) (ρb : Rho) (sb : Sto) (Hb : Hp), D ∈ ρa.2 → Ext ρa sa Ha ρb sb Hb → Ext ρa sa (upd Ha D (.dK [])) ρb sb (upd Hb D (.dK [])) := fun ρa sa Ha ρb sb Hb hm e => by
          refine ⟨e.pre, ?_, e.hs, fun b hb => ?_⟩
          · rw [fzD _ _ _ _ hm, fzD _ _ _ _ (by rw [e.hs]; exact hm)]
            exact e.fz
          · by_cases hbD : b = D
            · subst hbD; rw [upd_same, upd_same]
            · rw [upd_ne hbD, upd_ne hbD]; exact e.hid b hb
        have re2 : RE K ρ2 (Fz ρ2 st2 H') (wipeE σ vs) (wipe τ vs) := by
          refine RE.mono e2.pre ?_ reD
          rw [ef]
          exact base2.trans e3.fz
        -- a chain of results inside the turn: none of them is an exception
        have okc : ∀ {α : Type} (r : Res α) (f : α → Sto → Res (List (Key × Val))), After K ρ1 st1 H1 (RV K) ((r.calm f).bind fun l st2 => .ok (.loc st2.length) (st2 ++ [Ob.dk l])) Q (fun c d H' => W c d τ H') → ∃ a s, r = .ok a s := fun r f h => by
          cases r with
          | ok a s => exact ⟨a, s, rfl⟩
          | exc a s => exact h.elim
          | bad => exact h.elim
        obtain ⟨σ4, st4, er⟩ := okc _ _ h2
        rw [er, Res.calm_ok] at h2
        refine hg ρ2 st2 H' (wipeE σ vs) (wipe τ vs) v x _ (fun _ _ _ => False) rs3 re2 rv ?_
        rw [er]
        intro ρ4 H4 τ4 e4 rs4 re4 w4
        refine ⟨w4.trans wipe_wipe, ?_⟩
        obtain ⟨b, s5, er5⟩ := okc _ _ h2
        rw [er5, Res.calm_ok] at h2
        refine ht ρ4 st4 H4 σ4 τ4 _ rs4 re4 ?_
        rw [er5]
        intro ρ5 H5 b' e5 rs5 eb
        subst eb
        have e35 : Ext ρ2 st2 H2 ρ5 s5 H5 := e3.trans (e4.trans e5)
        cases b with
        | false =>
          have hac5 : H5 D = some (.dK ac) := by rw [e35.hid D hD2]; exact hac
          exact ⟨ρ5, s5, acc, ac, e2.trans (move _ _ _ _ _ _ hD2 e35), rs5, hac5, kac, rac.mono e35.pre e35.fz, _, rfl, h2⟩
        | true =>
          rw [if_pos rfl] at h2
          obtain ⟨kv, s6, er6⟩ := okc _ _ h2
          rw [er6, Res.calm_ok] at h2
          show tk τ4 H5 _
          refine hk ρ5 s5 H5 σ4 τ4 _ rs5 (re4.mono e5.pre e5.fz) ?_
          rw [er6]
          intro ρ6 H6 y e6 rs6 ry
          obtain ⟨u, s7, er7⟩ := okc _ _ h2
          rw [er7, Res.calm_ok] at h2
          show tv τ4 H6 _
          refine he ρ6 s6 H6 σ4 τ4 _ rs6 ((re4.mono e5.pre e5.fz).mono e6.pre e6.fz) ?_
          rw [er7]
          intro ρ7 H7 z e7 rs7 rz
          have e37 : Ext ρ2 st2 H2 ρ7 s7 H7 := e35.trans (e6.trans e7)
          have hac7 : H7 D = some (.dK ac) := by rw [e37.hid D hD2]; exact hac
          have rac7 := rac.mono e37.pre e37.fz
          have hD7 : D ∈ ρ7.2 := by rw [e37.hs]; exact hD2
          have e77 : ρ7 = hideR (ρ7.1, ρ1.2) D := Prod.ext rfl (e37.hs.trans e2.hs)
          cases hkv : keyV kv with
          | none => simp only [hkv] at h2; exact h2.elim
          | some k =>
            simp only [hkv] at h2
            split at h2
            · rename_i hz
              have hm := putD_rel (k := k) kac rac7 rz
              refine ⟨ac, k, keyV_of ry hkv, hac7, by rw [dk_len kac]; exact hz, ρ7, s7, putD acc k u, putK ac k z, ?_, ?_, upd_same, hm.1, ?_, _, rfl, h2⟩
              · have eu : upd (upd H7 D (.dK (putK ac k z))) D (.dK []) = upd H7 D (.dK []) := by
                  funext b
                  by_cases hb : b = D
                  · subst hb; rw [upd_same, upd_same]
                  · rw [upd_ne hb, upd_ne hb, upd_ne hb]
                rw [eu]
                exact e2.trans (move _ _ _ _ _ _ hD2 e37)
              · rw [e77] at rs7 ⊢
                exact rs7.rehide.1
              · rw [fzD _ _ _ _ hD7]
                exact hm.2
            · exact h2.elim
    · exact h2.elim
theorem se_dc (own : List (Str × Nat)) (hc : X.calm = true) (hN : X.N.Nodup) (hi : SI K W X tg iter wi mi) (ok : blkC X.N X.env.scope scope own = true)
    (hg : ∀ (s : Shared) (H : Hp) (C : Addr) (cl : List (Str × Addr)) (fp : List Addr), SGw K (X.blk s H scope (compEnvC scope cl C X.env) fp) (own.map (·.2)) tg g gm)
    (ht : ∀ (s : Shared) (H : Hp) (C : Addr) (cl : List (Str × Addr)) (fp : List Addr), SIf K (X.blk s H scope (compEnvC scope cl C X.env) fp) ifs tt mt)
    (hk : ∀ (s : Shared) (H : Hp) (C : Addr) (cl : List (Str × Addr)) (fp : List Addr), SE K (fun _ _ _ _ => False) (X.blk s H scope (compEnvC scope cl C X.env) fp) kx tk mk)
    (he : ∀ (s : Shared) (H : Hp) (C : Addr) (cl : List (Str × Addr)) (fp : List Addr), SE K (fun _ _ _ _ => False) (X.blk s H scope (compEnvC scope cl C X.env) fp) vx tv mv) (hs : ∀ x, foldedSetIterable iter X.env x = pure x := by intro _; rfl) :
    SE K W X (.DictComp kx vx [⟨tg, iter, ifs, 0⟩] scope pos) (tDc wi g tt tk tv (own.map (·.2))) (mDc mi gm mt mk mv (own.map (·.2))) :=
  ⟨pe_dc hc hN hi.pi (blkOk_by ok) (fun s H C cl fp => (hg s H C cl fp).pg) (fun s H C cl fp => (ht s H C cl fp).pt) (fun s H C cl fp => (hk s H C cl fp).pe) (fun s H C cl fp => (he s H C cl fp).pe) hs,
    snd_dc hi.sd (hg {} (fun _ => none) 0 [] []).sd (ht {} (fun _ => none) 0 [] []).sd (hk {} (fun _ => none) 0 [] []).sd (he {} (fun _ => none) 0 [] []).sd⟩
end
end L3
end

section
set_option Elab.async false
set_option linter.all false
set_option maxRecDepth 100000
set_option maxHeartbeats 400000
/-! L3m: repr of anything; dicts compared, measured, made. -/
namespace L3
open PySem PySem.Spec PyProof.Rows L2
section
variable {K : Frag} {W : WX} {X : Cx} {x : Str} {p pos : Pos} {a b c e : Expr} {ta tb te : TE} {ma mb me : ME} {es : List Expr} {t : TA} {m : MA} {j : Nat}
def rReprF : List V → Hp → VK → Prop := fun xs H Q => (xs = [.non] ∧ Q (.str "None") H) ∨ (∃ b, xs = [.bl b] ∧ Q (.str (if b = true then "True" else "False")) H) ∨ (∃ i, xs = [.int i] ∧ i.natAbs.log2 < 1920 ∧ Q (.str (toString i)) H)
theorem call_reprF : CallR X (.builtin "repr") rReprF := by
  intro pins s σ H xs us Q I r h
  rcases h with ⟨rfl, q⟩ | ⟨b, rfl, q⟩ | ⟨i, rfl, hi, q⟩
  · cases r with
    | cons r t =>
      cases t
      cases r
      exact PySem.P.repr_of_none ⟨.str "None", H, I.tok _, ⟨_, rfl⟩, q⟩
  · cases r with
    | cons r t =>
      cases t
      cases r
      cases b
      · exact PySem.P.repr_of_bool ⟨.str "False", H, I.tok _, ⟨_, rfl⟩, q⟩
      · exact PySem.P.repr_of_bool ⟨.str "True", H, I.tok _, ⟨_, rfl⟩, q⟩
  · cases r with
    | cons r t =>
      cases t
      obtain ⟨t, rfl⟩ := r
      exact PySem.P.repr_of_int hi ⟨.str _, H, I.tok _, ⟨_, rfl⟩, q⟩
def reprAM : List Val → Sto → Res Val
  | [.non], st => .ok (.str "None") st
  | [.bl b], st => .ok (.str (if b = true then "True" else "False")) st
  | [.int i], st => if i.natAbs.log2 < 1920 then .ok (.str (toString i)) st else .bad
  | vs, st => reprM vs st
theorem snd_reprA : SndRs K (fun xs H Q => rReprF xs H Q ∨ rRepr K xs H Q) reprAM := by
  intro ρ st H vs xs Q E rs rx h
  unfold reprAM at h
  split at h
  · obtain ⟨y, rfl, ry⟩ := RVs.inv1 rx
    cases (show _ = _ from ry)
    exact .inl (.inl ⟨rfl, h.ok .refl rs rfl⟩)
  · obtain ⟨y, rfl, ry⟩ := RVs.inv1 rx
    cases (show _ = _ from ry)
    exact .inl (.inr (.inl ⟨_, rfl, h.ok .refl rs rfl⟩))
  · split at h
    · rename_i hi
      obtain ⟨y, rfl, ry⟩ := RVs.inv1 rx
      cases (show _ = _ from ry)
      exact .inl (.inr (.inr ⟨_, rfl, hi, h.ok .refl rs rfl⟩))
    · exact h.elim
  · exact .inr (snd_repr ρ st H vs xs Q E rs rx h)
theorem se_reprA {k : Nat} (hr : Room k X.A) (hgd : X.A.guards = some []) (hm : X.mg "repr" = none) (ha : SA K W X (e :: es) t m) (hg : Gl X "repr" := by rfl) (hK : X.K = K := by rfl)
    (he : starEach (e :: es) X.env = (false, eval e X.env) :: starEach es X.env := by rfl) (hpl : (backTo pos (starEach es X.env)).any (·.1) = false := by rfl) :
    SE K W X (.Call (.Name "repr" p) (e :: es) [] pos) (tCB (fun xs H Q => rReprF xs H Q ∨ rRepr K xs H Q) t) (mOps reprAM m) := by
  subst hK
  exact ⟨pe_callB (call_reprF.or (call_repr hr hgd)) hg hm rfl ha.pa (by decide) (by decide) he hpl, snd_ops snd_reprA ha.sd⟩
theorem se_eqD (ha : SE K W X a ta ma) (hb : SE K W X b tb mb) (hr : Room j X.A) : SE K W X (.Compare a [.Eq] [b] pos) (tOp rEqDG ta tb) (mOp2 eqDM ma mb) := se_cmp (op_eqDG (room_u0 hr)) snd_eqD ha hb
theorem st_eqD (ha : SE K W X a ta ma) (hb : SE K W X b tb mb) (hr : Room j X.A) : ST K W X (.Compare a [.Eq] [b] pos) (L2.tB (tOp rEqDG ta tb)) (mTest (mOp2 eqDM ma mb)) := st_cmp (op_eqDG (room_u0 hr)) snd_eqD ha hb
theorem se_lenD (hm : X.mg "len" = none) (ha : SA K W X (e :: es) t m) (hg : Gl X "len" := by rfl)
    (he : starEach (e :: es) X.env = (false, eval e X.env) :: starEach es X.env := by rfl) (hpl : (backTo pos (starEach es X.env)).any (·.1) = false := by rfl) :
    SE K W X (.Call (.Name "len" p) (e :: es) [] pos) (tCB (fun xs H Q => ∃ a kvs, xs = [V.ref a] ∧ H a = some (.dK kvs) ∧ Q (.int kvs.length) H) t) (mOps lenDM m) :=
  ⟨pe_callB call_lenD hg hm rfl ha.pa (by decide) (by decide) he hpl, snd_ops snd_lenD ha.sd⟩
theorem se_dictD (hm : X.mg "dict" = none) (ha : SA K W X (e :: es) t m) (hg : Gl X "dict" := by rfl)
    (he : starEach (e :: es) X.env = (false, eval e X.env) :: starEach es X.env := by rfl) (hpl : (backTo pos (starEach es X.env)).any (·.1) = false := by rfl) :
    SE K W X (.Call (.Name "dict" p) (e :: es) [] pos) (tCB (fun xs H Q => ∃ (a : Addr) (kvs : List (Key × V)), xs = [.ref a] ∧ Rd H a (.dK kvs) ∧ ∀ p, H p = none → Q (.ref p) (upd H p (.dK kvs))) t) (mOps dictDM m) :=
  se_callT call_dictD snd_dictD hg hm rfl ha (by decide) (by decide) he hpl
theorem se_dictP (hc : X.calm = true) (hm : X.mg "dict" = none) (ha : SA K W X (e :: es) t m) (hg : Gl X "dict" := by rfl) (hK : X.K = K := by rfl)
    (he : starEach (e :: es) X.env = (false, eval e X.env) :: starEach es X.env := by rfl) (hpl : (backTo pos (starEach es X.env)).any (·.1) = false := by rfl) :
    SE K W X (.Call (.Name "dict" p) (e :: es) [] pos) (tCB (rDictP K) t) (mOps dictPM m) := by
  subst hK
  exact se_callT (call_dictP hc) snd_dictP hg hm rfl ha (by decide) (by decide) he hpl
end
end L3
end

section
set_option Elab.async false
set_option linter.all false
set_option maxRecDepth 100000
set_option maxHeartbeats 400000
/-! L3s: the meanings unfolded, for simp. -/
namespace L3
open PySem PySem.Spec PyProof.Rows L2
@[simp] theorem aNil_s  {x1} {st} : aNil x1 st = .ok [] st := rfl
@[simp] theorem aCons_s (m : ME) (r : MA) {σ} {st} : aCons m r σ st = (m σ st).bind fun v st1 => (r σ st1).bind fun vs st2 => .ok (v :: vs) st2 := rfl
@[simp] theorem mCall_s (F : List Val → Sto → Res Val) (dv : List Val) (ma : MA) {σ} {st} : mCall F dv ma σ st = (ma σ st).bind fun vs st1 => F (vs ++ dv) st1 := rfl
@[simp] theorem mCallK_s (F : List Val → Sto → Res Val) (n m : Nat) (g : List Val → List Val → List Val) (ma mk : MA) {σ} {st} : mCallK F n m g ma mk σ st = (ma σ st).bind fun vs st1 => (mk σ st1).bind fun zs st2 => if vs.length = n ∧ zs.length = m then F (g vs zs) st2 else .bad := rfl
@[simp] theorem mVar_s (i : Nat) {σ} {st} : mVar i σ st = (match σ[i]? with
  | some (some v) => .ok v st
  | _ => .bad) := rfl
@[simp] theorem mVal_s (v : Val) {x1} {st} : mVal v x1 st = .ok v st := rfl
@[simp] theorem mOp2_s (f : Val → Val → Sto → Res Val) (ma mb : ME) {σ} {st} : mOp2 f ma mb σ st = (ma σ st).bind fun v st1 => (mb σ st1).bind fun w st2 => f v w st2 := rfl
@[simp] theorem mOp1_s (f : Val → Sto → Res Val) (ma : ME) {σ} {st} : mOp1 f ma σ st = (ma σ st).bind fun v st1 => f v st1 := rfl
@[simp] theorem mOps_s (f : List Val → Sto → Res Val) (ma : MA) {σ} {st} : mOps f ma σ st = (ma σ st).bind fun v st1 => f v st1 := rfl
@[simp] theorem mChainLe_s (ma mb mc : ME) {σ} {st} : mChainLe ma mb mc σ st = ((ma σ st).bind fun v st1 => (mb σ st1).bind fun w st2 => (cmpV (fun i j => decide (i ≤ j)) v w st2).bind fun z st3 => match z with
  | .bl true => (mc σ st3).bind fun u st4 => cmpV (fun i j => decide (i ≤ j)) w u st4
  | .bl false => .ok (.bl false) st3
  | _ => .bad) := rfl
@[simp] theorem mTest_s (m : ME) {σ} {st} : mTest m σ st = asB (m σ st) := rfl
@[simp] theorem mNotT_s (m : MT) {σ} {st} : mNotT m σ st = (m σ st).bind fun b st1 => .ok (!b) st1 := rfl
@[simp] theorem mAndT_s (m n : MT) {σ} {st} : mAndT m n σ st = (m σ st).bind fun b st1 => if b = true then n σ st1 else .ok false st1 := rfl
@[simp] theorem mOrT_s (m n : MT) {σ} {st} : mOrT m n σ st = (m σ st).bind fun b st1 => if b = true then .ok true st1 else n σ st1 := rfl
@[simp] theorem mAndV_s (m n : ME) {σ} {st} : mAndV m n σ st = ((m σ st).bind fun v st1 => match v with
  | .bl true => n σ st1
  | .bl false => .ok (.bl false) st1
  | _ => .bad) := rfl
@[simp] theorem mOrV_s (m n : ME) {σ} {st} : mOrV m n σ st = ((m σ st).bind fun v st1 => match v with
  | .bl false => n σ st1
  | .bl true => .ok (.bl true) st1
  | _ => .bad) := rfl
@[simp] theorem mNotV_s (m : ME) {σ} {st} : mNotV m σ st = ((m σ st).bind fun v st1 => match v with
  | .bl b => .ok (.bl (!b)) st1
  | _ => .bad) := rfl
@[simp] theorem mIf_s (c : MT) (m n : ME) {σ} {st} : mIf c m n σ st = (c σ st).bind fun b st1 => if b = true then m σ st1 else n σ st1 := rfl
@[simp] theorem mTup_s (m : MA) {σ} {st} : mTup m σ st = (m σ st).bind fun vs st1 => if vs.length ≤ sizeLine then .ok (.tup vs) st1 else .bad := rfl
@[simp] theorem mLst_s (m : MA) {σ} {st} : mLst m σ st = (m σ st).bind fun vs st1 => if vs.length ≤ sizeLine then .ok (.lst vs) st1 else .bad := rfl
@[simp] theorem mLoc_s (m : MA) {σ} {st} : mLoc m σ st = (m σ st).bind fun vs st1 => if vs.length ≤ sizeLine then .ok (.loc st1.length) (st1 ++ [.lst vs]) else .bad := rfl
@[simp] theorem mNoPart_s  {x1} {st} : mNoPart x1 st = .ok none st := rfl
@[simp] theorem mPart_s (m : ME) {σ} {st} : mPart m σ st = ((m σ st).bind fun v st1 => match v with
  | .int i => .ok (some i) st1
  | _ => .bad) := rfl
@[simp] theorem mCut_s (ma : ME) (ml mh : MO) {σ} {st} : mCut ma ml mh σ st = (ma σ st).bind fun v st1 => (ml σ st1).bind fun lo st2 => (mh σ st2).bind fun hi st3 => cutM v lo hi st3 := rfl
@[simp] theorem mLstRg_s (m : ME) {σ} {st} : mLstRg m σ st = ((m σ st).bind fun v st1 => match v with
  | .int n => if okRg 0 n = true then .ok (.lst (rgL 0 n)) st1 else .bad
  | _ => .bad) := rfl
@[simp] theorem mLocRg_s (m : ME) {σ} {st} : mLocRg m σ st = ((m σ st).bind fun v st1 => match v with
  | .int n => if okRg 0 n = true then .ok (.loc st1.length) (st1 ++ [.lst (rgL 0 n)]) else .bad
  | _ => .bad) := rfl
@[simp] theorem mMet_s (T : String) (f : Val → List Val → Sto → Res Val) (mo : ME) (ma : MA) {σ} {st} : mMet T f mo ma σ st = (mo σ st).bind fun v st1 => if tyM T st1 v = true then (ma σ st1).bind fun vs st2 => f v vs st2 else .bad := rfl
@[simp] theorem gN_s (i : Nat) {v} {σ} {st} : gN i v σ st = .ok (σ.set i (some v)) st := rfl
@[simp] theorem gsNil_s  {vs} {σ} {st} : gsNil vs σ st = (match vs with
  | [] => .ok σ st
  | _ => .bad) := rfl
@[simp] theorem gsCons_s (g : MG) (gs : MGs) {vs} {σ} {st} : gsCons g gs vs σ st = (match vs with
  | v :: r => (g v σ st).bind fun σ1 st1 => gs r σ1 st1
  | [] => .bad) := rfl
@[simp] theorem gT_s (n : Nat) (gs : MGs) {v} {σ} {st} : gT n gs v σ st = (match v with
  | .tup l => if l.length = n then gs l σ st else .bad
  | _ => .bad) := rfl
@[simp] theorem mNext_s  {σ} {st} : mNext σ st = .ok (.nx σ) st := rfl
@[simp] theorem mSeq_s (m n : MSt) {σ} {st} : mSeq m n σ st = (m σ st).next n := rfl
@[simp] theorem mRet_s (me : ME) {σ} {st} : mRet me σ st = (me σ st).go σ fun v st1 => .ok (.rt v) st1 := rfl
@[simp] theorem mRetN_s  {x1} {st} : mRetN x1 st = .ok (.rt .non) st := rfl
@[simp] theorem mExpr_s (me : ME) {σ} {st} : mExpr me σ st = (me σ st).go σ fun _ st1 => .ok (.nx σ) st1 := rfl
@[simp] theorem mIfS_s (c : MT) (m n : MSt) {σ} {st} : mIfS c m n σ st = (c σ st).go σ fun b st1 => if b = true then m σ st1 else n σ st1 := rfl
@[simp] theorem mNever_s  {x1} {x2} : mNever x1 x2 = .bad := rfl
@[simp] theorem mAsg_s (me : ME) (g : MG) {σ} {st} : mAsg me g σ st = (me σ st).go σ fun v st1 => (g v σ st1).go σ fun σ1 st2 => .ok (.nx σ1) st2 := rfl
@[simp] theorem mBreak_s  {σ} {st} : mBreak σ st = .ok (.bk σ) st := rfl
@[simp] theorem mCont_s  {σ} {st} : mCont σ st = .ok (.ct σ) st := rfl
@[simp] theorem mPar_s (i j : Nat) (ma : MA) {σ} {st} : mPar i j ma σ st = ((ma σ st).go σ fun vs st1 => match vs with
  | [v, w] => .ok (.nx ((σ.set i (some v)).set j (some w))) st1
  | _ => .bad) := rfl
@[simp] theorem mPar3_s (i j l : Nat) (ma : MA) {σ} {st} : mPar3 i j l ma σ st = ((ma σ st).go σ fun vs st1 => match vs with
  | [u, v, w] => .ok (.nx (((σ.set i (some u)).set j (some v)).set l (some w))) st1
  | _ => .bad) := rfl
@[simp] theorem mAug_s (i : Nat) (f : Val → Val → Sto → Res Val) (me : ME) {σ} {st} : mAug i f me σ st = (match σ[i]? with
  | some (some v) => (me σ st).go σ fun w st1 => (f v w st1).go σ fun z st2 => .ok (.nx (σ.set i (some z))) st2
  | _ => .bad) := rfl
@[simp] theorem gIx_s (mo mi : ME) {v} {σ} {st} : gIx mo mi v σ st = (mo σ st).bind fun o st1 => (mi σ st1).bind fun i st2 => (setM o i v st2).bind fun _ st3 => .ok σ st3 := rfl
@[simp] theorem iLs_s (me : ME) {σ} {st} : iLs me σ st = ((me σ st).bind fun v st1 => match lsOf st1 v with
  | some l => .ok (l, match v with
    | .loc _ => keepLs v l
    | _ => always) st1
  | none => .bad) := rfl
@[simp] theorem iTp_s (me : ME) {σ} {st} : iTp me σ st = ((me σ st).bind fun v st1 => match v with
  | .tup l => .ok (l, always) st1
  | _ => .bad) := rfl
theorem iR1_s (ma : MA) {σ} {st} : iR1 ma σ st = ((ma σ st).bind fun vs st1 => match vs with
  | [.int j] => if okR j = true then .ok (rgN 0 j.toNat, always) st1 else .bad
  | _ => .bad) := rfl
@[simp] theorem iR2_s (ma : MA) {σ} {st} : iR2 ma σ st = ((ma σ st).bind fun vs st1 => match vs with
  | [.int i, .int j] => if (okR i && okR j) = true then .ok (rgN i (j - i).toNat, always) st1 else .bad
  | _ => .bad) := rfl
@[simp] theorem iStrM_s (me : ME) {σ} {st} : iStrM me σ st = ((me σ st).bind fun v st1 => match v with
  | .str z => .ok (z.cps.toList.map fun c => Val.str ⟨#[c]⟩, always) st1
  | _ => .bad) := rfl
@[simp] theorem mFor_s (mi : MI) (g : MG) (body : MSt) {σ} {st} : mFor mi g body σ st = (mi σ st).go σ fun p st1 => forM p.2 g body p.1 σ st1 := rfl
@[simp] theorem mYes_s  {x1} {st} : mYes x1 st = .ok true st := rfl
@[simp] theorem mLc_s (mi : MI) (g : MG) (c : MT) (me : ME) (vs : List Nat) {σ} {st} : mLc mi g c me vs σ st = (mi σ st).bind fun p st1 => (lcGo p.2 g c me (wipeE σ vs) p.1 [] st1).bind fun l st2 => .ok (.lst l) st2 := rfl
@[simp] theorem iSq_s (me : ME) {σ} {st} : iSq me σ st = ((me σ st).bind fun v st1 => match v with
  | .tup l => .ok (l, always) st1
  | v => (match lsOf st1 v with
    | some l => .ok (l, match v with
      | .loc _ => keepLs v l
      | _ => always) st1
    | none => .bad)) := rfl
@[simp] theorem iEn_s (ma : MA) {σ} {st} : iEn ma σ st = ((ma σ st).bind fun vs st1 => match vs with
  | [v] => (match itemsOf st1 v with
    | some l => .ok (numd l, keepIt v l) st1
    | none => .bad)
  | _ => .bad) := rfl
@[simp] theorem iZp_s (f : Bool) (ma : MA) {σ} {st} : iZp f ma σ st = ((ma σ st).bind fun vs st1 => match vs with
  | [v, w] => (match itemsOf st1 v, itemsOf st1 w with
    | some l, some m => if f = true ∧ l.length ≠ m.length then .bad else .ok (zipL l m, fun st => keepIt v l st ∧ keepIt w m st) st1
    | _, _ => .bad)
  | _ => .bad) := rfl
@[simp] theorem gTS_s (n i : Nat) (gs : MGs) {v} {σ} {st} : gTS n i gs v σ st = (match v with
  | .tup l => if n ≤ l.length + 1 then gs (l.take i ++ [.lst ((l.drop i).take (l.length + 1 - n))] ++ (l.drop i).drop (l.length + 1 - n)) σ st else .bad
  | _ => .bad) := rfl
@[simp] theorem mLenSc_s (mi : MI) (g : MG) (c : MT) (me : ME) (vs : List Nat) {σ} {st} : mLenSc mi g c me vs σ st = (mi σ st).bind fun p st1 => (scGo p.2 g c me (wipeE σ vs) p.1 [] st1).bind fun n st2 => .ok (.int (n : Nat)) st2 := rfl
@[simp] theorem mNewN_s (w : World) {x1} {st} : mNewN w x1 st = .ok (.loc st.length) (st ++ [.dn w []]) := rfl
@[simp] theorem gIxN_s (w : World) (mo mi : ME) {v} {σ} {st} : gIxN w mo mi v σ st = (mo σ st).bind fun o st1 => (mi σ st1).bind fun i st2 => (setNM w o i v st2).bind fun _ st3 => .ok σ st3 := rfl
end L3
end

section
set_option Elab.async false
set_option linter.all false
set_option maxRecDepth 100000
set_option maxHeartbeats 400000
/-! L3v: the values' functions at given kinds of values, for simp. -/
namespace L3
open PySem PySem.Spec PyProof.Rows L2
section
variable {st : Sto} {i j k : Int} {x y : Str} {l l' : List Val} {a b : Bool} {n : Nat} {v u : Val}
@[simp] theorem addV_int : addV (.int i) (.int j) st = .ok (.int (i + j)) st := rfl
theorem addV_str : addV (.str x) (.str y) st = if x.length + y.length ≤ sizeLine then .ok (.str (x ++ y)) st else .bad := rfl
theorem addV_tup : addV (.tup l) (.tup l') st = if l.length + l'.length ≤ sizeLine then .ok (.tup (l ++ l')) st else .bad := rfl
theorem addV_lst : addV (.lst l) (.lst l') st = if l.length + l'.length ≤ sizeLine then .ok (.lst (l ++ l')) st else .bad := rfl
@[simp] theorem subV_int : subV (.int i) (.int j) st = .ok (.int (i - j)) st := rfl
theorem mulV_int : mulV (.int i) (.int j) st = if i.natAbs.log2 + j.natAbs.log2 < 1000000 then .ok (.int (i * j)) st else .bad := rfl
theorem mulV_lst : mulV (.lst l) (.int k) st = if -(2 ^ 63) ≤ k ∧ k < 2 ^ 63 ∧ l.length * k.toNat ≤ sizeLine then .ok (.lst (List.replicate k.toNat l).flatten) st else .bad := rfl
theorem fdivV_int : fdivV (.int i) (.int j) st = if 0 < j ∧ j.natAbs.log2 < 9000 then .ok (.int (i / j)) st else .bad := rfl
theorem modV_int : modV (.int i) (.int j) st = if 0 < j then .ok (.int (i % j)) st else .bad := rfl
theorem powV_int : powV (.int i) (.int j) st = if 0 ≤ j ∧ j ≤ 1000000 ∧ i.natAbs < 2 ^ 64 then .ok (.int (i ^ j.toNat)) st else .bad := rfl
@[simp] theorem negV_int : negV (.int i) st = .ok (.int (-i)) st := rfl
@[simp] theorem cmpV_int (p : Int → Int → Bool) : cmpV p (.int i) (.int j) st = .ok (.bl (p i j)) st := rfl
theorem getM_str : getM (.str x) (.int i) st = if x.length ≤ sizeLine then (match atI x.cps.toList i with
    | some c => .ok (.str ⟨#[c]⟩) st
    | none => .bad) else .bad := rfl
@[simp] theorem getM_tup : getM (.tup l) (.int i) st = (match atI l i with
    | some x => .ok x st
    | none => .bad) := rfl
@[simp] theorem getM_lst : getM (.lst l) (.int i) st = (match atI l i with
    | some x => .ok x st
    | none => .bad) := rfl
@[simp] theorem getM_cst : getM (.cst l) (.int i) st = (match atI l i with
    | some x => .ok x st
    | none => .bad) := rfl
theorem getM_loc (h : st[n]? = some (.lst l)) : getM (.loc n) (.int i) st = (match atI l i with
    | some x => .ok x st
    | none => .bad) := by
  unfold getM
  simp only [itemsOf, h]
  all_goals (cases atI l i <;> rfl)
@[simp] theorem lenM_tup : lenM [.tup l] st = .ok (.int l.length) st := rfl
@[simp] theorem lenM_lst : lenM [.lst l] st = .ok (.int l.length) st := rfl
@[simp] theorem lenM_cst : lenM [.cst l] st = .ok (.int l.length) st := rfl
theorem lenM_str : lenM [.str x] st = if x.length ≤ sizeLine then .ok (.int x.length) st else .bad := rfl
theorem lenM_loc (h : st[n]? = some (.lst l)) : lenM [.loc n] st = .ok (.int l.length) st := by
  unfold lenM
  simp only [itemsOf, h]
@[simp] theorem absM_int : absM [.int i] st = .ok (.int (if i < 0 then -i else i)) st := rfl
@[simp] theorem min2M_int : min2M [.int i, .int j] st = .ok (.int (if j < i then j else i)) st := rfl
@[simp] theorem max2M_int : max2M [.int i, .int j] st = .ok (.int (if j > i then j else i)) st := rfl
@[simp] theorem intM_bl : intM [.bl b] st = .ok (.int (if b then 1 else 0)) st := rfl
theorem strM_int : strM [.int i] st = if i.natAbs.log2 < 1920 then .ok (.str (toString i)) st else .bad := rfl
@[simp] theorem tupM_tup : tupM [.tup l] st = .ok (.tup l) st := rfl
@[simp] theorem tupM_lst : tupM [.lst l] st = .ok (.tup l) st := rfl
theorem tupM_loc (h : st[n]? = some (.lst l)) : tupM [.loc n] st = .ok (.tup l) st := by
  unfold tupM
  simp only [lsOf, h]
@[simp] theorem allM_lst : allM [.lst l] st = (match blsOf l with
    | some bs => .ok (.bl (bs.all id)) st
    | none => .bad) := rfl
@[simp] theorem isi_tup_tuple : isiM [.tup l, .ty "tuple"] st = .ok (.bl true) st := rfl
@[simp] theorem isi_tup_str : isiM [.tup l, .ty "str"] st = .ok (.bl false) st := rfl
@[simp] theorem isi_str_str : isiM [.str x, .ty "str"] st = .ok (.bl true) st := rfl
@[simp] theorem isi_str_tuple : isiM [.str x, .ty "tuple"] st = .ok (.bl false) st := rfl
@[simp] theorem isi_int_int : isiM [.int i, .ty "int"] st = .ok (.bl true) st := rfl
@[simp] theorem isi_int_bool : isiM [.int i, .ty "bool"] st = .ok (.bl false) st := rfl
@[simp] theorem isi_bl_int : isiM [.bl b, .ty "int"] st = .ok (.bl true) st := rfl
@[simp] theorem isi_bl_bool : isiM [.bl b, .ty "bool"] st = .ok (.bl true) st := rfl
@[simp] theorem eqM_str : eqM (.str x) (.str y) st = .ok (.bl (decide (x = y))) st := by
  simp [eqM, eqW, eqS]
@[simp] theorem neM_str : neM (.str x) (.str y) st = .ok (.bl (!decide (x = y))) st := by
  simp [neM, eqW, eqS]
@[simp] theorem eqM_int : eqM (.int i) (.int j) st = .ok (.bl (decide (i = j))) st := by
  simp [eqM, eqW, eqS]
@[simp] theorem neM_int : neM (.int i) (.int j) st = .ok (.bl (!decide (i = j))) st := by
  simp [neM, eqW, eqS]
theorem frzM_loc (h : st[n]? = some (.lst l)) : frzM (.loc n) st = .ok (.lst l) (st.set n .dead) := by
  unfold frzM
  simp only [h]
theorem appendM_loc (h : st[n]? = some (.lst l)) (hz : l.length < sizeLine) : appendM (.loc n) [v] st = .ok .non (st.set n (.lst (l ++ [v]))) := by
  simp only [appendM, onLoc, h]
  rw [if_pos hz]
theorem popM_loc (h : st[n]? = some (.lst l)) (hv : l[l.length - 1]? = some v) : popM (.loc n) [] st = .ok v (st.set n (.lst l.dropLast)) := by
  simp only [popM, onLoc, h, hv]
theorem extendM_loc (h : st[n]? = some (.lst l)) (hz : l.length + l'.length ≤ sizeLine) : extendM (.loc n) [.lst l'] st = .ok .non (st.set n (.lst (l ++ l'))) := by
  simp only [extendM, onLoc, h]
  rw [if_pos hz]
@[simp] theorem tyM_str : tyM "str" st (.str x) = true := rfl
@[simp] theorem tyM_lst : tyM "list" st (.lst l) = true := rfl
theorem tyM_loc (h : st[n]? = some (.lst l)) : tyM "list" st (.loc n) = true := by
  simp [tyM, lsOf, h]
@[simp] theorem isM_non : isM v .non st = .ok (.bl (isNoneV v)) st := by
  cases v <;> rfl
@[simp] theorem isNotM_non : isNotM v .non st = .ok (.bl (!isNoneV v)) st := by
  cases v <;> rfl
end
theorem atI_pos {α : Type} {l : List α} {i : Int} (h0 : 0 ≤ i) (h1 : i < l.length) : atI l i = l[i.toNat]? := by
  unfold atI ixN
  simp [h0, h1]
@[simp] theorem atI_0 {α : Type} {a : α} {l : List α} : atI (a :: l) 0 = some a := by
  rw [atI_pos (by decide) (by simp)]
  rfl
@[simp] theorem atI_1 {α : Type} {a b : α} {l : List α} : atI (a :: b :: l) 1 = some b := by
  rw [atI_pos (by decide) (by simp; omega)]
  rfl
@[simp] theorem atI_2 {α : Type} {a b c : α} {l : List α} : atI (a :: b :: c :: l) 2 = some c := by
  rw [atI_pos (by decide) (by simp; omega)]
  rfl
@[simp] theorem atI_3 {α : Type} {a b c d : α} {l : List α} : atI (a :: b :: c :: d :: l) 3 = some d := by
  rw [atI_pos (by decide) (by simp; omega)]
  rfl
@[simp] theorem asB_bl (b : Bool) (st : Sto) : asB (.ok (.bl b) st) = .ok b st := rfl
end L3
end

section
set_option Elab.async false
set_option linter.all false
set_option maxRecDepth 100000
set_option maxHeartbeats 400000
/-! L3w: data to a depth; == with what is empty. -/
namespace L3
open PySem PySem.Spec PyProof.Rows L2
/-- v is data, k deep at most -/
def Dat (k : Nat) (v : Val) : Prop := ∃ d, toD v = some d ∧ d.canLay0 = true ∧ d.depth ≤ k
def Dats (k : Nat) (l : List Val) : Prop := ∀ v ∈ l, Dat k v
theorem Dat.mono {j k : Nat} {v : Val} (h : Dat j v) (e : j ≤ k) : Dat k v := let ⟨d, a, b, c⟩ := h; ⟨d, a, b, Nat.le_trans c e⟩
theorem Dat.int {k : Nat} {i : Int} : Dat k (.int i) := ⟨_, rfl, rfl, Nat.zero_le _⟩
theorem Dat.bl {k : Nat} {i : Bool} : Dat k (.bl i) := ⟨_, rfl, rfl, Nat.zero_le _⟩
theorem Dat.non {k : Nat} : Dat k .non := ⟨_, rfl, rfl, Nat.zero_le _⟩
theorem Dats.ds {k : Nat} : ∀ {l : List Val}, Dats k l → ∃ ds, toDs l = some ds ∧ PyData.canLayAll0 ds = true ∧ PyData.depthAll ds ≤ k ∧ ds.length = l.length
  | [], _ => ⟨[], rfl, rfl, Nat.zero_le _, rfl⟩
  | v :: l, h => by
    obtain ⟨d, a, b, c⟩ := h v List.mem_cons_self
    obtain ⟨ds, a2, b2, c2, e2⟩ := Dats.ds (l := l) fun u hu => h u (List.mem_cons_of_mem _ hu)
    refine ⟨d :: ds, ?_, ?_, ?_, by simp [e2]⟩
    · unfold toDs
      rw [a, a2]
      rfl
    · unfold PyData.canLayAll0
      rw [b, b2]
      rfl
    · unfold PyData.depthAll
      omega
theorem Dat.tup {k : Nat} {l : List Val} (h : Dats k l) : Dat (k + 1) (.tup l) := by
  obtain ⟨ds, a, b, c, _⟩ := h.ds
  refine ⟨.tuple ds, by unfold toD; rw [a]; rfl, b, ?_⟩
  show PyData.depthAll ds + 1 ≤ k + 1
  omega
theorem Dat.lst {k : Nat} {l : List Val} (h : Dats k l) : Dat (k + 1) (.lst l) := by
  obtain ⟨ds, a, b, c, _⟩ := h.ds
  refine ⟨.list ds, by unfold toD; rw [a]; rfl, b, ?_⟩
  show PyData.depthAll ds + 1 ≤ k + 1
  omega
theorem shaped_of {d : PyData} (h1 : d.canLay0 = true) (h2 : d.depth ≤ 64) : SeqAt.shaped d = true := by
  unfold SeqAt.shaped
  rw [h1, decide_eq_true h2]
  rfl
theorem eqv_nil {ds : List PyData} : PyData.eqvAll ds [] = ds.isEmpty := by
  cases ds <;> rfl
theorem eqW_tup_nil {st : Sto} {l : List Val} (h : Dats 60 l) : eqW st (.tup l) (.tup []) = some l.isEmpty := by
  obtain ⟨ds, a, b, c, e⟩ := h.ds
  have e1 : toD (.tup l) = some (.tuple ds) := by unfold toD; rw [a]; rfl
  have s1 : SeqAt.shaped (.tuple ds) = true := shaped_of b (show PyData.depthAll ds + 1 ≤ 64 by omega)
  have s2 : SeqAt.shaped (.tuple []) = true := by decide
  have ev : PyData.eqv (.tuple ds) (.tuple []) = l.isEmpty := by
    show PyData.eqvAll ds [] = _
    rw [eqv_nil]
    cases ds <;> cases l <;> simp_all
  simp only [eqW, eqS, toDst, a, toD, toDs, Option.map_some, s1, s2, ev]
  rfl
theorem eqW_loc_nil {st : Sto} {n : Nat} {l : List Val} (hn : st[n]? = some (.lst l)) (h : Dats 60 l) : eqW st (.loc n) (.lst []) = some l.isEmpty := by
  obtain ⟨ds, a, b, c, e⟩ := h.ds
  have s1 : SeqAt.shaped (.list ds) = true := shaped_of b (show PyData.depthAll ds + 1 ≤ 64 by omega)
  have s2 : SeqAt.shaped (.list []) = true := by decide
  have ev : PyData.eqv (.list ds) (.list []) = l.isEmpty := by
    show PyData.eqvAll ds [] = _
    rw [eqv_nil]
    cases ds <;> cases l <;> simp_all
  simp only [eqW, eqS, toDst, hn, a, toD, toDs, Option.map_some, s1, s2, ev]
  rfl
end L3
end

section
set_option Elab.async false
set_option linter.all false
set_option maxRecDepth 100000
set_option maxHeartbeats 400000
/-! L3p: what holds behind a meaning: Wp, WpS. -/
namespace L3
open PySem PySem.Spec PyProof.Rows L2
def WpO {α : Type} (r : Res α) (Q : α → Sto → Prop) : Prop := match r with
  | .ok a s => Q a s
  | _ => False
def WpSO (r : SR) (Q : Fl → Sto → Prop) : Prop := match r with
  | .ok f s => Q f s
  | _ => False
/-- a structure, so that nothing ever runs r to see what it is -/
structure Wp {α : Type} (r : Res α) (Q : α → Sto → Prop) : Prop where
  out : WpO r Q
structure WpS (r : SR) (Q : Fl → Sto → Prop) : Prop where
  out : WpSO r Q
theorem Wp_eq {α : Type} {r : Res α} {Q : α → Sto → Prop} : Wp r Q = WpO r Q := propext ⟨fun h => h.out, fun h => ⟨h⟩⟩
theorem WpS_eq {r : SR} {Q : Fl → Sto → Prop} : WpS r Q = WpSO r Q := propext ⟨fun h => h.out, fun h => ⟨h⟩⟩
theorem Wp_congr {α : Type} {r r' : Res α} {Q : α → Sto → Prop} (h : r = r') : Wp r Q = Wp r' Q := by rw [h]
theorem WpS_congr {r r' : SR} {Q : Fl → Sto → Prop} (h : r = r') : WpS r Q = WpS r' Q := by rw [h]
section
variable {α β : Type} {r : Res α} {Q : α → Sto → Prop} {R : Fl → Sto → Prop}
@[simp] theorem Wp_ok {a : α} {s : Sto} : Wp (.ok a s) Q = Q a s := Wp_eq
@[simp] theorem Wp_bad : Wp (.bad : Res α) Q = False := Wp_eq
@[simp] theorem Wp_exc {x : Exn} {s : Sto} : Wp (.exc x s : Res α) Q = False := Wp_eq
@[simp] theorem Wp_bind {f : α → Sto → Res β} {Q : β → Sto → Prop} : Wp (r.bind f) Q = Wp r fun a s => Wp (f a s) Q := by cases r <;> simp only [Wp_eq] <;> rfl
@[simp] theorem Wp_calm {f : α → Sto → Res β} {Q : β → Sto → Prop} : Wp (r.calm f) Q = Wp r fun a s => Wp (f a s) Q := by cases r <;> simp only [Wp_eq] <;> rfl
@[simp] theorem WpS_ok {a : Fl} {s : Sto} : WpS (.ok a s) R = R a s := WpS_eq
@[simp] theorem WpS_bad : WpS .bad R = False := WpS_eq
@[simp] theorem WpS_go {σ : Env} {f : α → Sto → SR} : WpS (r.go σ f) R = Wp r fun a s => WpS (f a s) R := by cases r <;> simp only [Wp_eq, WpS_eq] <;> rfl
def nxt (f : Env → Sto → SR) (R : Fl → Sto → Prop) : Fl → Sto → Prop
  | .nx σ, s => WpS (f σ s) R
  | fl, s => R fl s
@[simp] theorem nxt_nx {f : Env → Sto → SR} {σ : Env} {s : Sto} : nxt f R (.nx σ) s = WpS (f σ s) R := rfl
@[simp] theorem nxt_rt {f : Env → Sto → SR} {v : Val} {s : Sto} : nxt f R (.rt v) s = R (.rt v) s := rfl
@[simp] theorem nxt_bk {f : Env → Sto → SR} {v : Env} {s : Sto} : nxt f R (.bk v) s = R (.bk v) s := rfl
@[simp] theorem nxt_ct {f : Env → Sto → SR} {v : Env} {s : Sto} : nxt f R (.ct v) s = R (.ct v) s := rfl
@[simp] theorem WpS_next {r : SR} {f : Env → Sto → SR} : WpS (r.next f) R = WpS r (nxt f R) := by
  cases r with
  | ok fl s => cases fl <;> simp [SR.next, nxt]
  | exc => simp only [WpS_eq]; rfl
  | bad => simp only [WpS_eq]; rfl
def lnxt (f : Env → Sto → SR) (R : Fl → Sto → Prop) : Fl → Sto → Prop
  | .nx σ, s => WpS (f σ s) R
  | .ct σ, s => WpS (f σ s) R
  | .bk σ, s => R (.nx σ) s
  | fl, s => R fl s
@[simp] theorem lnxt_nx {f : Env → Sto → SR} {σ : Env} {s : Sto} : lnxt f R (.nx σ) s = WpS (f σ s) R := rfl
@[simp] theorem lnxt_rt {f : Env → Sto → SR} {v : Val} {s : Sto} : lnxt f R (.rt v) s = R (.rt v) s := rfl
@[simp] theorem lnxt_bk {f : Env → Sto → SR} {v : Env} {s : Sto} : lnxt f R (.bk v) s = R (.nx v) s := rfl
@[simp] theorem lnxt_ct {f : Env → Sto → SR} {σ : Env} {s : Sto} : lnxt f R (.ct σ) s = WpS (f σ s) R := rfl
@[simp] theorem WpS_loopNext {r : SR} {f : Env → Sto → SR} : WpS (loopNext r f) R = WpS r (lnxt f R) := by
  cases r with
  | ok fl s => cases fl <;> simp [loopNext, lnxt]
  | exc => simp only [WpS_eq]; rfl
  | bad => simp only [WpS_eq]; rfl
def defQ (Q : Val → Sto → Prop) : Fl → Sto → Prop
  | .rt v, s => Q v s
  | .nx _, s => Q .non s
  | _, _ => False
@[simp] theorem defQ_rt {Q : Val → Sto → Prop} {v : Val} {s : Sto} : defQ Q (.rt v) s = Q v s := rfl
@[simp] theorem defQ_nx {Q : Val → Sto → Prop} {v : Env} {s : Sto} : defQ Q (.nx v) s = Q .non s := rfl
theorem Wp_runB {m : MSt} {N n : Nat} {as : List Val} {st : Sto} {Q : Val → Sto → Prop} (h : as.length = n) : Wp (runB m N n as st) Q = WpS (m (as.map some ++ List.replicate (N - n) none) st) (defQ Q) := by
  unfold runB
  rw [if_pos h]
  cases m (as.map some ++ List.replicate (N - n) none) st with
  | ok fl s => cases fl <;> simp only [Wp_eq, WpS_eq] <;> rfl
  | exc => simp only [Wp_eq, WpS_eq]; rfl
  | bad => simp only [Wp_eq, WpS_eq]; rfl
theorem wp_runB {m : MSt} {N n : Nat} {as : List Val} {st : Sto} {Q : Val → Sto → Prop} (h : as.length = n) (k : WpS (m (as.map some ++ List.replicate (N - n) none) st) (defQ Q)) : Wp (runB m N n as st) Q := by
  rw [Wp_runB h]
  exact k
theorem Wp_ite {c : Prop} [Decidable c] {a b : Res α} : Wp (if c then a else b) Q = if c then Wp a Q else Wp b Q := by split <;> rfl
theorem Wp_pos {c : Prop} [Decidable c] {a b : Res α} (h : c) (k : Wp a Q) : Wp (if c then a else b) Q := by rw [if_pos h]; exact k
theorem WpS_pos {c : Prop} [Decidable c] {a b : SR} (h : c) (k : WpS a R) : WpS (if c then a else b) R := by rw [if_pos h]; exact k
theorem Wp_split {c : Prop} [Decidable c] {a b : Res α} (h1 : c → Wp a Q) (h2 : ¬ c → Wp b Q) : Wp (if c then a else b) Q := by
  by_cases h : c
  · rw [if_pos h]; exact h1 h
  · rw [if_neg h]; exact h2 h
theorem WpS_split {c : Prop} [Decidable c] {a b : SR} (h1 : c → WpS a R) (h2 : ¬ c → WpS b R) : WpS (if c then a else b) R := by
  by_cases h : c
  · rw [if_pos h]; exact h1 h
  · rw [if_neg h]; exact h2 h
theorem Wp.mono {Q Q' : α → Sto → Prop} (h : Wp r Q) (k : ∀ a s, Q a s → Q' a s) : Wp r Q' := by
  cases r with
  | ok a s => exact ⟨k a s h.out⟩
  | exc => exact h.out.elim
  | bad => exact h.out.elim
theorem WpS.mono {r : SR} {R R' : Fl → Sto → Prop} (h : WpS r R) (k : ∀ a s, R a s → R' a s) : WpS r R' := by
  cases r with
  | ok a s => exact ⟨k a s h.out⟩
  | exc => exact h.out.elim
  | bad => exact h.out.elim
theorem Wp.ex {Q : α → Sto → Prop} (h : Wp r Q) : ∃ a s, r = .ok a s ∧ Q a s := by
  cases r with
  | ok a s => exact ⟨a, s, rfl, h.out⟩
  | exc => exact h.out.elim
  | bad => exact h.out.elim
theorem Wp.of {Q : α → Sto → Prop} {a : α} {s : Sto} (e : r = .ok a s) (h : Q a s) : Wp r Q := by rw [e]; exact ⟨h⟩
end
/-! loops -/
section
variable {keep : Sto → Prop} {g : MG} {body : MSt} {R : Fl → Sto → Prop}
def stepQ (I : Env → Sto → Prop) (R : Fl → Sto → Prop) : Fl → Sto → Prop
  | .nx σ, s => I σ s
  | .ct σ, s => I σ s
  | .bk σ, s => R (.nx σ) s
  | fl, s => R fl s
@[simp] theorem stepQ_nx {I : Env → Sto → Prop} {σ : Env} {s : Sto} : stepQ I R (.nx σ) s = I σ s := rfl
@[simp] theorem stepQ_ct {I : Env → Sto → Prop} {σ : Env} {s : Sto} : stepQ I R (.ct σ) s = I σ s := rfl
@[simp] theorem stepQ_bk {I : Env → Sto → Prop} {σ : Env} {s : Sto} : stepQ I R (.bk σ) s = R (.nx σ) s := rfl
@[simp] theorem stepQ_rt {I : Env → Sto → Prop} {v : Val} {s : Sto} : stepQ I R (.rt v) s = R (.rt v) s := rfl
theorem wp_forGo (I : List Val → Env → Sto → Prop) (L : List Val) (hk : ∀ p σ s, I p σ s → keep s) (step : ∀ p v q σ s, L = p ++ v :: q → I p σ s → Wp (g v σ s) fun σ1 s1 => WpS (body σ1 s1) (stepQ (I (p ++ [v])) R))
    (hend : ∀ σ s, I L σ s → R (.nx σ) s) : ∀ (l p : List Val) (σ : Env) (s : Sto), L = p ++ l → I p σ s → WpS (forM keep g body l σ s) R
  | [], p, σ, s, e, h => by
    rw [List.append_nil] at e
    subst e
    unfold forM
    rw [if_pos (hk _ _ _ h)]
    exact ⟨hend σ s h⟩
  | v :: l, p, σ, s, e, h => by
    unfold forM
    rw [if_pos (hk _ _ _ h), WpS_go]
    refine (step p v l σ s e h).mono fun σ1 s1 h1 => ?_
    rw [WpS_loopNext]
    refine h1.mono fun fl s2 h2 => ?_
    cases fl with
    | nx σ2 => exact wp_forGo I L hk step hend l (p ++ [v]) σ2 s2 (by rw [e, List.append_assoc]; rfl) h2
    | ct σ2 => exact wp_forGo I L hk step hend l (p ++ [v]) σ2 s2 (by rw [e, List.append_assoc]; rfl) h2
    | bk σ2 => exact h2
    | rt v => exact h2
theorem wp_for (I : List Val → Env → Sto → Prop) {L : List Val} {σ : Env} {s : Sto} (h0 : I [] σ s) (hk : ∀ p σ s, I p σ s → keep s) (step : ∀ p v q σ s, L = p ++ v :: q → I p σ s → Wp (g v σ s) fun σ1 s1 => WpS (body σ1 s1) (stepQ (I (p ++ [v])) R))
    (hend : ∀ σ s, I L σ s → R (.nx σ) s) : WpS (forM keep g body L σ s) R := wp_forGo I L hk step hend L [] σ s rfl h0
theorem wp_lcGo {c : MT} {me : ME} {σ0 : Env} {Q : List Val → Sto → Prop} (I : List Val → List Val → Sto → Prop) (L : List Val) (hz : L.length ≤ sizeLine) (hk : ∀ p a s, I p a s → keep s)
    (step : ∀ p v q a s, L = p ++ v :: q → a.length ≤ p.length → I p a s → Wp (g v σ0 s) fun σ1 s1 => Wp (c σ1 s1) fun b s2 => if b = true then Wp (me σ1 s2) fun u s3 => I (p ++ [v]) (a ++ [u]) s3 else I (p ++ [v]) a s2)
    (hend : ∀ a s, I L a s → Q a s) : ∀ (l p a : List Val) (s : Sto), L = p ++ l → a.length ≤ p.length → I p a s → Wp (lcGo keep g c me σ0 l a s) Q
  | [], p, a, s, e, hl, h => by
    rw [List.append_nil] at e
    subst e
    unfold lcGo
    rw [if_pos (hk _ _ _ h)]
    exact ⟨hend a s h⟩
  | v :: l, p, a, s, e, hl, h => by
    have e2 : L = (p ++ [v]) ++ l := by rw [e, List.append_assoc]; rfl
    have hp : p.length < L.length := by rw [e]; simp
    unfold lcGo
    rw [if_pos (hk _ _ _ h), Wp_calm]
    refine (step p v l a s e hl h).mono fun σ1 s1 h1 => ?_
    rw [Wp_calm]
    refine h1.mono fun b s2 h2 => ?_
    cases b with
    | true =>
      rw [if_pos rfl] at h2 ⊢
      rw [Wp_calm]
      refine h2.mono fun u s3 h3 => ?_
      rw [if_pos (by omega)]
      exact wp_lcGo I L hz hk step hend l (p ++ [v]) (a ++ [u]) s3 e2 (by simp; omega) h3
    | false =>
      rw [if_neg (by decide)] at h2 ⊢
      exact wp_lcGo I L hz hk step hend l (p ++ [v]) a s2 e2 (by simp; omega) h2
theorem wp_lc {c : MT} {me : ME} {σ0 : Env} {Q : List Val → Sto → Prop} (I : List Val → List Val → Sto → Prop) {L : List Val} {s : Sto} (hz : L.length ≤ sizeLine) (h0 : I [] [] s) (hk : ∀ p a s, I p a s → keep s)
    (step : ∀ p v q a s, L = p ++ v :: q → a.length ≤ p.length → I p a s → Wp (g v σ0 s) fun σ1 s1 => Wp (c σ1 s1) fun b s2 => if b = true then Wp (me σ1 s2) fun u s3 => I (p ++ [v]) (a ++ [u]) s3 else I (p ++ [v]) a s2)
    (hend : ∀ a s, I L a s → Q a s) : Wp (lcGo keep g c me σ0 L [] s) Q := wp_lcGo I L hz hk step hend L [] [] s rfl (Nat.le_refl _) h0
theorem WpS_mFor {mi : MI} {σ : Env} {s : Sto} : WpS (mFor mi g body σ s) R = Wp (mi σ s) fun p s1 => WpS (forM p.2 g body p.1 σ s1) R := by
  unfold mFor
  rw [WpS_go]
end
/-! one of what is told -/
theorem wp_get {v : Val} {l : List Val} {i : Int} {s : Sto} {Q : Val → Sto → Prop} (hv : ∀ st, getM v (.int i) st = match atI l i with
    | some x => .ok x st
    | none => .bad) (h0 : 0 ≤ i) (h1 : i < l.length) (k : ∀ u, l[i.toNat]? = some u → Q u s) : Wp (getM v (.int i) s) Q := by
  rw [hv, atI_pos h0 h1]
  have hl : i.toNat < l.length := by omega
  rw [List.getElem?_eq_getElem hl]
  exact ⟨k _ (List.getElem?_eq_getElem hl)⟩
theorem wp_getL {l : List Val} {i : Int} {s : Sto} {Q : Val → Sto → Prop} (h0 : 0 ≤ i) (h1 : i < l.length) (k : ∀ u, u ∈ l → Q u s) : Wp (getM (.lst l) (.int i) s) Q :=
  wp_get (fun _ => getM_lst) h0 h1 fun u hu => k u (List.mem_of_getElem? hu)
/-! the spot: how many draws are left; what stays -/
def Bud (k : Nat) (st : Sto) : Prop := ∃ s : Int, st[0]? = some (.lst [.int s]) ∧ 0 ≤ s ∧ s + k ≤ 16777216
structure Stay (st st' : Sto) : Prop where
  len : st.length ≤ st'.length
  keep : ∀ n, n ≠ 0 → n < st.length → st'[n]? = st[n]?
theorem Stay.refl {st : Sto} : Stay st st := ⟨Nat.le_refl _, fun _ _ _ => rfl⟩
theorem Stay.trans {a b c : Sto} (h : Stay a b) (k : Stay b c) : Stay a c := ⟨Nat.le_trans h.len k.len, fun n h0 h1 => (k.keep n h0 (Nat.lt_of_lt_of_le h1 h.len)).trans (h.keep n h0 h1)⟩
theorem Stay.set0 {st : Sto} {o : Ob} : Stay st (st.set 0 o) := ⟨by simp, fun n h0 h1 => by rw [List.getElem?_set_ne (by omega)]⟩
theorem Stay.push {st st' : Sto} {o : Ob} (h : Stay st st') : Stay st (st' ++ [o]) := ⟨by have := h.len; simp; omega, fun n h0 h1 => by
  have := h.len
  rw [List.getElem?_append_left (by omega)]
  exact h.keep n h0 h1⟩
theorem Stay.setN {st st' : Sto} {o : Ob} {n : Nat} (h : Stay st st') (hn : st.length ≤ n) : Stay st (st'.set n o) := ⟨by have := h.len; simp; omega, fun m h0 h1 => by
  rw [List.getElem?_set_ne (by omega)]
  exact h.keep m h0 h1⟩
theorem Stay.at {st st' : Sto} {n : Nat} {o : Ob} (h : Stay st st') (h0 : n ≠ 0) (e : st[n]? = some o) : st'[n]? = some o := by
  rw [h.keep n h0 (List.getElem?_eq_some_iff.mp e).1]
  exact e
theorem Bud.pos {k : Nat} {st : Sto} (h : Bud k st) : 0 < st.length := by
  obtain ⟨s, e, _⟩ := h
  exact (List.getElem?_eq_some_iff.mp e).1
theorem Bud.mono {k j : Nat} {st : Sto} (h : Bud k st) (e : j ≤ k) : Bud j st := let ⟨s, a, b, c⟩ := h; ⟨s, a, b, by omega⟩
theorem Bud.push {k : Nat} {st : Sto} {o : Ob} (h : Bud k st) : Bud k (st ++ [o]) := by
  have hp := h.pos
  obtain ⟨s, e, b, c⟩ := h
  exact ⟨s, by rw [List.getElem?_append_left hp]; exact e, b, c⟩
theorem Bud.setN {k : Nat} {st : Sto} {o : Ob} {n : Nat} (h : Bud k st) (hn : n ≠ 0) : Bud k (st.set n o) := by
  obtain ⟨s, e, b, c⟩ := h
  exact ⟨s, by rw [List.getElem?_set_ne (by omega)]; exact e, b, c⟩
end L3
namespace L3
open PySem PySem.Spec PyProof.Rows L2
theorem setM_0 {n : Nat} {v u : Val} {st : Sto} (h : st[n]? = some (.lst [u])) : setM (.loc n) (.int 0) v st = .ok () (st.set n (.lst [v])) := by
  unfold setM
  simp only [h, ixN]
  rfl
end L3
namespace L3
open PySem PySem.Spec PyProof.Rows L2
theorem log2_lt {n k : Nat} (hk : 0 < k) (h : n < 2 ^ k) : n.log2 < k := by
  by_cases h0 : n = 0
  · subst h0; simpa using hk
  · exact (Nat.log2_lt h0).mpr h
theorem eqW_list_nil {st : Sto} {v : Val} {l : List Val} (hv : eqS v (.lst []) = none) (hd : toDst st v = (toDs l).map .list) (h : Dats 60 l) : eqW st v (.lst []) = some l.isEmpty := by
  obtain ⟨ds, a, b, c, e⟩ := h.ds
  have s1 : SeqAt.shaped (.list ds) = true := shaped_of b (show PyData.depthAll ds + 1 ≤ 64 by omega)
  have s2 : SeqAt.shaped (.list []) = true := by decide
  have ev : PyData.eqv (.list ds) (.list []) = l.isEmpty := by
    show PyData.eqvAll ds [] = _
    rw [eqv_nil]
    cases ds <;> cases l <;> simp_all
  have h2 : toDst st (.lst []) = some (.list []) := rfl
  simp only [eqW, hv, hd, h2, a, Option.map_some, s1, s2, ev]
  rfl
theorem dats_ints {k : Nat} {l : List Int} : Dats k (l.map .int) := fun v hv => by
  obtain ⟨i, _, rfl⟩ := List.mem_map.mp hv
  exact .int
theorem eqW_cst_nil {st : Sto} {l : List Val} (h : Dats 60 l) : eqW st (.cst l) (.lst []) = some l.isEmpty := eqW_list_nil rfl (by unfold toDst toD; rfl) h
theorem eqW_lst_nil {st : Sto} {l : List Val} (h : Dats 60 l) : eqW st (.lst l) (.lst []) = some l.isEmpty := eqW_list_nil rfl (by unfold toDst toD; rfl) h
end L3
end

section
set_option Elab.async false
set_option linter.all false
set_option maxRecDepth 100000
set_option maxHeartbeats 400000
/-! L3q: ranges, texts, lists of ours. -/
namespace L3
open PySem PySem.Spec PyProof.Rows L2
theorem rgN_split {lo : Int} {n : Nat} {p q : List Val} {v : Val} (e : rgN lo n = p ++ v :: q) : v = .int (lo + p.length) ∧ p.length < n := by
  have hl : (rgN lo n).length = n := by simp [rgN]
  have hp : p.length < n := by rw [← hl, e]; simp
  have h1 : (rgN lo n)[p.length]? = some v := by rw [e]; simp
  unfold rgN at h1
  rw [List.getElem?_map, List.getElem?_range hp] at h1
  simp at h1
  exact ⟨h1.symm, hp⟩
@[simp] theorem rgN_length {lo : Int} {n : Nat} : (rgN lo n).length = n := by simp [rgN]
theorem line_big : (100000 : Nat) ≤ sizeLine := Nat.le_of_ble_eq_true rfl
theorem okR_small {j : Int} (h0 : 0 ≤ j) (h1 : j < 100000) : okR j = true := by
  rw [okR_iff]
  exact ⟨by omega, by omega⟩
theorem iR1_eq {me : ME} {σ : Env} {st s : Sto} {j : Int} (e : me σ st = .ok (.int j) s) : iR1 (aCons me aNil) σ st = if okR j = true then .ok (rgN 0 j.toNat, always) s else .bad := by
  unfold iR1
  rw [show aCons me aNil σ st = .ok [.int j] s by rw [aCons_s, e]; rfl]
  rfl
theorem wp_iR1 {me : ME} {σ : Env} {st : Sto} {Q : List Val × (Sto → Prop) → Sto → Prop} (h : Wp (me σ st) fun v s => ∃ n : Nat, v = .int n ∧ n < 100000 ∧ Q (rgN 0 n, always) s) : Wp (iR1 (aCons me aNil) σ st) Q := by
  obtain ⟨v, s, e, n, rfl, hn, q⟩ := h.ex
  rw [iR1_eq e, if_pos (okR_small (Int.natCast_nonneg n) (Int.ofNat_lt.mpr hn)), Int.toNat_natCast]
  exact ⟨q⟩
theorem wp_getS {x : Str} {i : Int} {st : Sto} {Q : Val → Sto → Prop} (hz : x.length ≤ 100000) (h0 : 0 ≤ i) (h1 : i < x.length) (k : ∀ c ∈ x.cps.toList, Q (.str ⟨#[c]⟩) st) : Wp (getM (.str x) (.int i) st) Q := by
  have h2 : i < x.cps.toList.length := h1
  rw [getM_str, if_pos (Nat.le_trans hz line_big), atI_pos h0 h2]
  have hl : i.toNat < x.cps.toList.length := by omega
  rw [List.getElem?_eq_getElem hl]
  exact ⟨k _ (List.getElem_mem _)⟩
theorem popAtM_loc {n : Nat} {i : Int} {l : List Val} {v : Val} {st : Sto} (h : st[n]? = some (.lst l)) (hl : l.length ≤ 100000) (h0 : 0 ≤ i) (hv : l[i.toNat]? = some v) : popAtM (.loc n) [.int i] st = .ok v (st.set n (.lst (l.eraseIdx i.toNat))) := by
  have hlt : i.toNat < l.length := (List.getElem?_eq_some_iff.mp hv).1
  have e : seqIndex? i l.length = some i.toNat := by
    unfold seqIndex?
    have : i < (l.length : Int) := by omega
    have hn : ¬ i < 0 := by omega
    simp [h0, this, hn]
  have hc : -(2 ^ 63) ≤ i ∧ i < 2 ^ 63 := by constructor <;> omega
  simp only [popAtM, onLoc, h, e, hv]
  rw [if_pos hc]
theorem str_toList_append {x y : Str} : (x ++ y).cps.toList = x.cps.toList ++ y.cps.toList := by
  show (x.cps ++ y.cps).toList = _
  simp
theorem str_len {x : Str} : x.length = x.cps.toList.length := rfl
theorem str_ext {x y : Str} (h : x.cps.toList = y.cps.toList) : x = y := by
  cases x; cases y
  exact congrArg _ (Array.toList_inj.mp h)
end L3
namespace L3
open PySem PySem.Spec PyProof.Rows L2
theorem neM_loc_nil {st : Sto} {n : Nat} {l : List Val} (hn : st[n]? = some (.lst l)) (h : Dats 60 l) : neM (.loc n) (.lst []) st = .ok (.bl (!l.isEmpty)) st := by
  unfold neM
  rw [eqW_loc_nil hn h]
end L3
namespace L3
theorem map_eraseIdx {α β : Type} {f : α → β} : ∀ {l : List α} {i : Nat}, (l.map f).eraseIdx i = (l.eraseIdx i).map f
  | [], _ => rfl
  | _ :: _, 0 => rfl
  | a :: l, i + 1 => by
    show f a :: (l.map f).eraseIdx i = f a :: (l.eraseIdx i).map f
    rw [map_eraseIdx]
end L3
namespace L3
open PySem PySem.Spec PyProof.Rows L2
theorem wp_atI {α : Type} {l : List Val} {i : Int} {f : Val → Res α} {Q : α → Sto → Prop} (h0 : 0 ≤ i) (h1 : i < l.length) (k : ∀ u ∈ l, Wp (f u) Q) : Wp (match atI l i with
    | some x => f x
    | none => .bad) Q := by
  rw [atI_pos h0 h1]
  have hl : i.toNat < l.length := by omega
  rw [List.getElem?_eq_getElem hl]
  exact k _ (List.getElem_mem hl)
/-- a list of ints made by draws -/
def IntsQ (st0 : Sto) (k n : Nat) (P : Int → Prop) (l : List Val) (s : Sto) : Prop := ∃ is : List Int, l = is.map .int ∧ is.length = n ∧ (∀ i ∈ is, P i) ∧ Bud k s ∧ Stay st0 s
theorem draws {g : MG} {me : ME} {σ0 : L3.Env} {n k c : Nat} {st0 st : Sto} {P : Int → Prop} (hn : n ≤ 1000) (hb : Bud (c * n + k) st) (h0 : Stay st0 st)
    (hg : ∀ (v : Val) (s : Sto), ∃ σ1, g v σ0 s = .ok σ1 s ∧ ∀ j : Int, v = .int j → 0 ≤ j → j < n → ∀ k' s', Bud (c + k') s' → Wp (me σ1 s') fun u s2 => ∃ i, u = .int i ∧ P i ∧ Bud k' s2 ∧ Stay s' s2) :
    Wp (lcGo always g mYes me σ0 (rgN 0 n) [] st) (IntsQ st0 k n P) := by
  refine wp_lc (fun p a s => IntsQ st0 (c * (n - p.length) + k) p.length P a s) (by rw [rgN_length]; exact Nat.le_trans (by omega) line_big) ⟨[], rfl, rfl, (fun _ h => nomatch h), by simpa using hb, h0⟩ (fun _ _ _ _ => trivial) ?_ ?_
  · rintro p v q a s hL _ ⟨is, rfl, hl, hP, hb, hst⟩
    obtain ⟨rfl, hlt⟩ := rgN_split hL
    obtain ⟨σ1, e1, h1⟩ := hg (.int (0 + p.length)) s
    rw [e1, Wp_ok]
    show Wp (Res.ok true s) _
    rw [Wp_ok, if_pos rfl]
    have e : c * (n - p.length) + k = c + (c * (n - (p ++ [Val.int (0 + p.length)]).length) + k) := by
      have : n - p.length = (n - (p ++ [Val.int (0 + p.length)]).length) + 1 := by simp; omega
      rw [this, Nat.mul_add]
      omega
    rw [e] at hb
    refine (h1 _ rfl (by omega) (by omega) _ s hb).mono ?_
    rintro _ s2 ⟨i, rfl, hi, hb2, hst2⟩
    exact ⟨is ++ [i], by simp, by simp [hl], (fun x hx => by
      rcases List.mem_append.mp hx with hx | hx
      · exact hP x hx
      · rw [List.mem_singleton] at hx; subst hx; exact hi), hb2, hst.trans hst2⟩
  · rintro a s ⟨is, rfl, hl, hP, hb, hst⟩
    rw [rgN_length] at hl hb
    exact ⟨is, rfl, hl, hP, hb.mono (by omega), hst⟩
/-- the same, the range told -/
theorem wp_draws (c k : Nat) (P : Int → Prop) {n : Nat} {g : MG} {mn me : ME} {σ σ0 : L3.Env} {st : Sto} {Q : List Val → Sto → Prop} (hm : mn σ st = .ok (.int n) st) (hn : n ≤ 1000) (hb : Bud (c * n + k) st)
    (hg : ∀ (v : Val) (s : Sto), ∃ σ1, g v σ0 s = .ok σ1 s ∧ ∀ j : Int, v = .int j → 0 ≤ j → j < n → ∀ k' s', Bud (c + k') s' → Wp (me σ1 s') fun u s2 => ∃ i, u = .int i ∧ P i ∧ Bud k' s2 ∧ Stay s' s2)
    (hQ : ∀ (is : List Int) (s : Sto), is.length = n → (∀ i ∈ is, P i) → Bud k s → Stay st s → Q (is.map .int) s) : Wp (iR1 (aCons mn aNil) σ st) fun a s => Wp (lcGo a.2 g mYes me σ0 a.1 [] s) Q := by
  refine wp_iR1 (.of hm ⟨n, rfl, by omega, ?_⟩)
  refine (draws hn hb .refl hg).mono ?_
  rintro _ s ⟨is, rfl, h1, h2, h3, h4⟩
  exact hQ is s h1 h2 h3 h4
end L3
namespace L3
open PySem PySem.Spec PyProof.Rows L2
theorem wp_drawsF (c k : Nat) (P : Int → Prop) (f : Nat → Int → Val) {n : Nat} {g : MG} {mn me : ME} {σ σ0 : L3.Env} {st : Sto} {Q : List Val → Sto → Prop} (hm : mn σ st = .ok (.int n) st) (hn : n ≤ 1000) (hb : Bud (c * n + k) st)
    (hg : ∀ (v : Val) (s : Sto), ∃ σ1, g v σ0 s = .ok σ1 s ∧ ∀ j : Nat, v = .int j → j < n → ∀ k' s', Bud (c + k') s' → Wp (me σ1 s') fun u s2 => ∃ i, u = f j i ∧ P i ∧ Bud k' s2 ∧ Stay s' s2)
    (hQ : ∀ (is : List Int) (s : Sto), is.length = n → (∀ i ∈ is, P i) → Bud k s → Stay st s → Q (is.mapIdx f) s) : Wp (iR1 (aCons mn aNil) σ st) fun a s => Wp (lcGo a.2 g mYes me σ0 a.1 [] s) Q := by
  refine wp_iR1 (.of hm ⟨n, rfl, by omega, ?_⟩)
  refine wp_lc (fun p a s => ∃ is : List Int, a = is.mapIdx f ∧ is.length = p.length ∧ (∀ i ∈ is, P i) ∧ Bud (c * (n - p.length) + k) s ∧ Stay st s) (by rw [rgN_length]; exact Nat.le_trans (by omega) line_big) ⟨[], rfl, rfl, (fun _ h => nomatch h), by simpa using hb, .refl⟩ (fun _ _ _ _ => trivial) ?_ ?_
  · rintro p v q a s hL _ ⟨is, rfl, hl, hP, hb, hst⟩
    obtain ⟨rfl, hlt⟩ := rgN_split hL
    obtain ⟨σ1, e1, h1⟩ := hg (.int (0 + p.length)) s
    rw [e1, Wp_ok]
    show Wp (Res.ok true s) _
    rw [Wp_ok, if_pos rfl]
    have e : c * (n - p.length) + k = c + (c * (n - (p ++ [Val.int (0 + p.length)]).length) + k) := by
      have : n - p.length = (n - (p ++ [Val.int (0 + p.length)]).length) + 1 := by simp; omega
      rw [this, Nat.mul_add]
      omega
    rw [e] at hb
    refine (h1 p.length (by rw [Int.zero_add]) hlt _ s hb).mono ?_
    rintro _ s2 ⟨i, rfl, hi, hb2, hst2⟩
    exact ⟨is ++ [i], by rw [List.mapIdx_append, hl]; simp, by simp [hl], (fun x hx => by
      rcases List.mem_append.mp hx with hx | hx
      · exact hP x hx
      · rw [List.mem_singleton] at hx; subst hx; exact hi), hb2, hst.trans hst2⟩
  · rintro a s ⟨is, rfl, hl, hP, hb, hst⟩
    rw [rgN_length] at hl hb
    exact hQ is s hl hP (hb.mono (by omega)) hst
end L3
namespace L3
open PySem PySem.Spec PyProof.Rows L2
theorem flVs_strs : ∀ {l : List Str}, flVs (l.map .str) = some (l.map V.str)
  | [] => rfl
  | a :: l => by
    show (flV (.str a)).bind (fun x => (flVs (l.map .str)).map fun r => x :: r) = _
    rw [flVs_strs]
    rfl
theorem indexM_str {names : List Str} {own : Str} {st : Sto} (h : own ∈ names) : ∃ j : Nat, j < names.length ∧ indexM (.lst (names.map .str)) [.str own] st = .ok (.int j) st := by
  have e1 : (lsOf st (.lst (names.map .str))).bind flVs = some (names.map V.str) := flVs_strs
  have e2 : ∃ j, (names.map V.str).findIdx? (fun z => eqV z (.str own)) = some j := by
    cases q : (names.map V.str).findIdx? (fun z => eqV z (.str own)) with
    | some j => exact ⟨j, rfl⟩
    | none =>
      have := List.findIdx?_eq_none_iff.mp q (.str own) (List.mem_map.mpr ⟨own, h, rfl⟩)
      exact absurd this (by simp [eqV])
  obtain ⟨j, hj⟩ := e2
  obtain ⟨hl, _⟩ := List.findIdx?_eq_some_iff_getElem.mp hj
  refine ⟨j, by simpa using hl, ?_⟩
  unfold indexM
  simp only [e1, flV, hj]
end L3
namespace L3
open PySem PySem.Spec PyProof.Rows L2
theorem wp_made (c k : Nat) (P : Val → Prop) {n : Nat} {g : MG} {mn me : ME} {σ σ0 : L3.Env} {st : Sto} {Q : List Val → Sto → Prop} (hm : mn σ st = .ok (.int n) st) (hn : n ≤ 1000) (hb : Bud (c * n + k) st)
    (hg : ∀ (v : Val) (s : Sto), ∃ σ1, g v σ0 s = .ok σ1 s ∧ ∀ j : Nat, v = .int j → j < n → ∀ k' s', Bud (c + k') s' → Wp (me σ1 s') fun u s2 => P u ∧ Bud k' s2 ∧ Stay s' s2)
    (hQ : ∀ (l : List Val) (s : Sto), l.length = n → (∀ i ∈ l, P i) → Bud k s → Stay st s → Q l s) : Wp (iR1 (aCons mn aNil) σ st) fun a s => Wp (lcGo a.2 g mYes me σ0 a.1 [] s) Q := by
  refine wp_iR1 (.of hm ⟨n, rfl, by omega, ?_⟩)
  refine wp_lc (fun p a s => a.length = p.length ∧ (∀ i ∈ a, P i) ∧ Bud (c * (n - p.length) + k) s ∧ Stay st s) (by rw [rgN_length]; exact Nat.le_trans (by omega) line_big) ⟨rfl, (fun _ h => nomatch h), by simpa using hb, .refl⟩ (fun _ _ _ _ => trivial) ?_ ?_
  · rintro p v q a s hL _ ⟨hl, hP, hb, hst⟩
    obtain ⟨rfl, hlt⟩ := rgN_split hL
    obtain ⟨σ1, e1, h1⟩ := hg (.int (0 + p.length)) s
    rw [e1, Wp_ok]
    show Wp (Res.ok true s) _
    rw [Wp_ok, if_pos rfl]
    have e : c * (n - p.length) + k = c + (c * (n - (p ++ [Val.int (0 + p.length)]).length) + k) := by
      have : n - p.length = (n - (p ++ [Val.int (0 + p.length)]).length) + 1 := by simp; omega
      rw [this, Nat.mul_add]
      omega
    rw [e] at hb
    refine (h1 p.length (by rw [Int.zero_add]) hlt _ s hb).mono ?_
    rintro u s2 ⟨hi, hb2, hst2⟩
    exact ⟨by simp [hl], (fun x hx => by
      rcases List.mem_append.mp hx with hx | hx
      · exact hP x hx
      · rw [List.mem_singleton] at hx; subst hx; exact hi), hb2, hst.trans hst2⟩
  · rintro a s ⟨hl, hP, hb, hst⟩
    rw [rgN_length] at hl hb
    exact hQ a s hl hP (hb.mono (by omega)) hst
end L3
namespace L3
open PySem PySem.Spec PyProof.Rows L2
theorem lc_draws (c k : Nat) (P : Int → Prop) {n : Nat} {g : MG} {me : ME} {σ0 : L3.Env} {st : Sto} {Q : List Val → Sto → Prop} (hn : n ≤ 1000) (hb : Bud (c * n + k) st)
    (hg : ∀ (v : Val) (s : Sto), ∃ σ1, g v σ0 s = .ok σ1 s ∧ ∀ j : Int, v = .int j → 0 ≤ j → j < n → ∀ k' s', Bud (c + k') s' → Wp (me σ1 s') fun u s2 => ∃ i, u = .int i ∧ P i ∧ Bud k' s2 ∧ Stay s' s2)
    (hQ : ∀ (is : List Int) (s : Sto), is.length = n → (∀ i ∈ is, P i) → Bud k s → Stay st s → Q (is.map .int) s) : Wp (lcGo always g mYes me σ0 (rgN 0 n) [] st) Q := by
  refine (draws hn hb .refl hg).mono ?_
  rintro _ s ⟨is, rfl, h1, h2, h3, h4⟩
  exact hQ is s h1 h2 h3 h4
end L3
namespace L3
open PySem PySem.Spec PyProof.Rows L2
@[simp] theorem lsOf_lst {st : Sto} {l : List Val} : lsOf st (.lst l) = some l := rfl
@[simp] theorem lsOf_cst {st : Sto} {l : List Val} : lsOf st (.cst l) = some l := rfl
theorem lsOf_loc {st : Sto} {n : Nat} {l : List Val} (h : st[n]? = some (.lst l)) : lsOf st (.loc n) = some l := by
  simp [lsOf, h]
@[simp] theorem itemsOf_lst {st : Sto} {l : List Val} : itemsOf st (.lst l) = some l := rfl
@[simp] theorem itemsOf_tup {st : Sto} {l : List Val} : itemsOf st (.tup l) = some l := rfl
@[simp] theorem itemsOf_cst {st : Sto} {l : List Val} : itemsOf st (.cst l) = some l := rfl
theorem itemsOf_loc {st : Sto} {n : Nat} {l : List Val} (h : st[n]? = some (.lst l)) : itemsOf st (.loc n) = some l := by
  simp [itemsOf, h]
theorem push_at {st : Sto} {o : Ob} : (st ++ [o])[st.length]? = some o := by simp
theorem set_at {st : Sto} {n : Nat} {o o' : Ob} (h : st[n]? = some o) : (st.set n o')[n]? = some o' := List.getElem?_set_self (List.getElem?_eq_some_iff.mp h).1
end L3
namespace L3
open PySem PySem.Spec PyProof.Rows L2
theorem cutL_1 {a : Val} {l : List Val} : cutL (a :: l) (some 1) none = l := by
  have e1 : HT.sIx (a :: l).length 0 (some 1) = 1 := by
    rw [show (1 : Int) = ((1 : Nat) : Int) from rfl, HT.sIx_nat]
    simp
  unfold cutL
  rw [e1, HT.sIx_none]
  simp
theorem cutM_loc1 {n : Nat} {a : Val} {l : List Val} {st : Sto} (h : st[n]? = some (.lst (a :: l))) : cutM (.loc n) (some 1) none st = .ok (.lst l) st := by
  unfold cutM
  simp only [lsOf_loc h, cutL_1]
theorem cutM_tup1 {a : Val} {l : List Val} {st : Sto} : cutM (.tup (a :: l)) (some 1) none st = .ok (.tup l) st := by
  have e1 : HT.sIx (a :: l).length 0 (some 1) = 1 := by
    rw [show (1 : Int) = ((1 : Nat) : Int) from rfl, HT.sIx_nat]
    simp
  unfold cutM
  simp only
  rw [if_neg (by rw [e1]; omega), cutL_1]
end L3
namespace L3
open PySem PySem.Spec PyProof.Rows L2
@[simp] theorem Wp_asB_bind {α : Type} {r : Res α} {f : α → Sto → Res Val} {Q : Bool → Sto → Prop} : Wp (asB (r.bind f)) Q = Wp r fun a s => Wp (asB (f a s)) Q := by
  cases r with
  | ok a s => simp
  | exc x s =>
    simp only [Res.bind_exc, Wp_exc]
    exact Wp_eq
  | bad =>
    simp only [Res.bind_bad, Wp_bad]
    exact Wp_eq
end L3
namespace L3
open PySem PySem.Spec PyProof.Rows L2
/-- nothing but new things -/
def Pre (st s : Sto) : Prop := ∃ r, s = st ++ r
theorem Pre.refl {st : Sto} : Pre st st := ⟨[], (List.append_nil _).symm⟩
theorem Pre.trans {a b c : Sto} (h : Pre a b) (k : Pre b c) : Pre a c := by
  obtain ⟨r, rfl⟩ := h
  obtain ⟨q, rfl⟩ := k
  exact ⟨r ++ q, List.append_assoc ..⟩
theorem Pre.push {a b : Sto} {o : Ob} (h : Pre a b) : Pre a (b ++ [o]) := h.trans ⟨[o], rfl⟩
theorem Pre.at {st s : Sto} {n : Nat} {o : Ob} (h : Pre st s) (e : st[n]? = some o) : s[n]? = some o := by
  obtain ⟨r, rfl⟩ := h
  rw [List.getElem?_append_left (List.getElem?_eq_some_iff.mp e).1]
  exact e
theorem Pre.len {st s : Sto} (h : Pre st s) : st.length ≤ s.length := by
  obtain ⟨r, rfl⟩ := h
  simp
theorem Pre.stay {st s : Sto} (h : Pre st s) : Stay st s := ⟨h.len, fun n _ h1 => by
  obtain ⟨r, rfl⟩ := h
  rw [List.getElem?_append_left h1]⟩
theorem Pre.bud {st s : Sto} {k : Nat} (h : Pre st s) (b : Bud k st) : Bud k s := by
  obtain ⟨i, e, h0, h1⟩ := b
  exact ⟨i, h.at e, h0, h1⟩
theorem Pre.setN {st s : Sto} {n : Nat} {o : Ob} (h : Pre st s) (hn : st.length ≤ n) : Pre st (s.set n o) := by
  obtain ⟨r, rfl⟩ := h
  exact ⟨r.set (n - st.length) o, by rw [List.set_append_right _ _ hn]⟩
end L3
namespace L3
open PySem PySem.Spec PyProof.Rows L2
@[simp] theorem ipAddM_int {i j : Int} {st : Sto} : ipAddM (.int i) (.int j) st = .ok (.int (i + j)) st := rfl
@[simp] theorem revM_lst {l : List Val} {st : Sto} : revM (.lst l) st = .ok (.lst l.reverse) st := rfl
end L3
namespace L3
open PySem PySem.Spec PyProof.Rows L2
theorem numd_split {l p q : List Val} {v : Val} (e : numd l = p ++ v :: q) : ∃ u, l[p.length]? = some u ∧ v = .tup [.int (p.length : Nat), u] := by
  have h1 : (numd l)[p.length]? = some v := by rw [e]; simp
  unfold numd at h1
  rw [List.getElem?_map, List.getElem?_zipIdx] at h1
  cases hl : l[p.length]? with
  | none => rw [hl] at h1; cases h1
  | some u =>
    rw [hl] at h1
    simp at h1
    exact ⟨u, rfl, h1.symm⟩
@[simp] theorem numd_length {l : List Val} : (numd l).length = l.length := by simp [numd]
@[simp] theorem keepIt_tup {l l' : List Val} : keepIt (.tup l) l' = always := rfl
@[simp] theorem keepIt_lst {l l' : List Val} : keepIt (.lst l) l' = always := rfl
theorem inV_strs {x : Str} {l : List Str} : inV (.str x) (l.map V.str) = decide (x ∈ l) := by
  unfold inV
  induction l with
  | nil => simp
  | cons a l ih =>
    simp only [List.map_cons, List.any_cons, ih]
    by_cases h : x = a
    · subst h
      simp [eqV]
    · have h2 : ¬ a = x := fun e => h e.symm
      simp [eqV, h, h2]
theorem inM_strs {x : Str} {l : List Str} {v : Val} {st : Sto} (hv : itemsOf st v = some (l.map .str)) : inM (.str x) v st = .ok (.bl (decide (x ∈ l))) st := by
  have hw : inW st (.str x) v = some (decide (x ∈ l)) := by
    cases v with
    | str z => cases hv
    | _ =>
      unfold inW
      simp only [hv, flV, flVs_strs, inV_strs]
  unfold inM
  rw [hw]
end L3
namespace L3
open PySem PySem.Spec PyProof.Rows L2
def asBQ (Q : Bool → Sto → Prop) (v : Val) (s : Sto) : Prop := match v with
  | .bl b => Q b s
  | _ => False
@[simp] theorem asBQ_bl {Q : Bool → Sto → Prop} {b : Bool} {s : Sto} : asBQ Q (.bl b) s = Q b s := rfl
theorem Wp_asB {r : Res Val} {Q : Bool → Sto → Prop} : Wp (asB r) Q = Wp r (asBQ Q) := by
  unfold asB
  rw [Wp_bind]
  congr 1
  funext v s
  cases v <;> first | exact Wp_ok | exact Wp_bad
end L3
end

section
set_option Elab.async false
set_option linter.all false
set_option maxRecDepth 100000
set_option maxHeartbeats 400000
/-! L3r: repr: what can be shown, and how long it is. -/
namespace L3
open PySem PySem.Spec PyProof.Rows L2
/-- v is data, k deep at most, and shown by n signs at most -/
def Sh (k n : Nat) (v : Val) : Prop := ∃ d, toD v = some d ∧ d.canLay0 = true ∧ d.depth ≤ k ∧ d.showable = true ∧ d.shown.length ≤ n
def Shs (k n : Nat) (l : List Val) : Prop := ∃ ds, toDs l = some ds ∧ PyData.canLayAll0 ds = true ∧ PyData.depthAll ds ≤ k ∧ PyData.showableAll ds = true ∧ piled (PyData.shownAll ds) ≤ n
theorem Sh.mono {k k' n n' : Nat} {v : Val} (h : Sh k n v) (h1 : k ≤ k') (h2 : n ≤ n') : Sh k' n' v := let ⟨d, a, b, c, e, f⟩ := h; ⟨d, a, b, by omega, e, by omega⟩
theorem Sh.int {k : Nat} {i : Int} (h : i.natAbs < 10 ^ 12) : Sh k 13 (.int i) := by
  refine ⟨_, rfl, rfl, Nat.zero_le _, ?_, ?_⟩
  · exact decide_eq_true (Nat.lt_of_lt_of_le (log2_lt (k := 40) (by decide) (Nat.lt_of_lt_of_le h (by decide))) (by decide))
  · show (Str.ofString (toString i)).length ≤ 13
    rw [PySem.ofString_length]
    exact int_text_length_le10 (k := 12) (by decide) h
theorem Sh.str {k : Nat} {s : Str} (h : PyData.strOk s = true) : Sh k (10 * s.length + 2) (.str s) := by
  refine ⟨_, rfl, h, Nat.zero_le _, rfl, ?_⟩
  refine StrLaws.reprText_len s fun c hc => ?_
  unfold PyData.strOk at h
  rw [Array.all_eq_true_iff_forall_mem] at h
  have := of_decide_eq_true (h c (by simpa using hc))
  exact Nat.lt_of_lt_of_le this (by decide)
theorem shs_nil {k : Nat} : Shs k 0 [] := ⟨[], rfl, rfl, Nat.zero_le _, rfl, Nat.le_refl _⟩
theorem shs_cons {k a b : Nat} {v : Val} {l : List Val} (h : Sh k a v) (h2 : Shs k b l) : Shs k (a + 2 + b) (v :: l) := by
  obtain ⟨d, e1, e2, e3, e4, e5⟩ := h
  obtain ⟨ds, f1, f2, f3, f4, f5⟩ := h2
  refine ⟨d :: ds, by rw [toDs, e1, f1]; rfl, by rw [PyData.canLayAll0, e2, f2]; rfl, ?_, by rw [PyData.showableAll, e4, f4]; rfl, ?_⟩
  · unfold PyData.depthAll
    omega
  · rw [PyData.shownAll, piled_cons]
    omega
theorem shs_map {α : Type} {k n : Nat} {f : α → Val} : ∀ {l : List α}, (∀ x ∈ l, Sh k n (f x)) → Shs k ((n + 2) * l.length) (l.map f)
  | [], _ => shs_nil
  | a :: l, h => by
    have h1 := shs_cons (h a List.mem_cons_self) (shs_map fun x hx => h x (List.mem_cons_of_mem _ hx))
    rw [List.map_cons, List.length_cons, Nat.mul_add]
    have e : (n + 2) * l.length + (n + 2) * 1 = n + 2 + (n + 2) * l.length := by omega
    rw [e]
    exact h1
theorem tupleText_len (ts : List Str) : (tupleText ts).length ≤ piled ts + 3 := by
  unfold tupleText
  rw [strLen_append, strLen_append]
  have e1 : ((("(" : String) : Str)).length = 1 := rfl
  have e2 : ((if ts.length == 1 then ",)" else ")" : String) : Str).length ≤ 2 := by split <;> decide
  by_cases h : ts = []
  · subst h
    have : (Str.join ", " []).length = 0 := rfl
    rw [piled_nil]
    omega
  · have := join_length_add ts h
    omega
theorem sh_tup {k n : Nat} {l : List Val} (h : Shs k n l) : Sh (k + 1) (n + 3) (.tup l) := by
  obtain ⟨ds, f1, f2, f3, f4, f5⟩ := h
  refine ⟨.tuple ds, by rw [toD, f1]; rfl, f2, ?_, f4, ?_⟩
  · show PyData.depthAll ds + 1 ≤ k + 1
    omega
  · exact Nat.le_trans (tupleText_len _) (by omega)
theorem reprM_tup {k n : Nat} {l : List Val} {st : Sto} (h : Sh k n (.tup l)) (hk : k ≤ 60) (hn : n ≤ 10000000) : ∃ x : Str, ∀ st : Sto, reprM [.tup l] st = .ok (.str x) st := by
  obtain ⟨d, a, b, c, e, f⟩ := h
  refine ⟨d.shown, fun st => ?_⟩
  have hs : SeqAt.shaped d = true := shaped_of b (by omega)
  have hz : d.shown.length ≤ sizeLine := Nat.le_trans (by omega : d.shown.length ≤ 10000000) (Nat.le_of_ble_eq_true rfl)
  unfold reprM
  have ht : toDst st (.tup l) = some d := a
  simp only [ht, hs, e, hz]
  rfl
end L3
end

section
set_option Elab.async false
set_option linter.all false
set_option maxRecDepth 100000
set_option maxHeartbeats 400000
/-! L3n: list comprehensions with two clauses -/
namespace L3
open PySem PySem.Spec PyProof.Rows L2
open Classical in
noncomputable def lcGo2 (keep : Sto → Prop) (g : MG) (c : MT) (mi1 : MI) (g1 : MG) (c1 : MT) (me : ME) (vs1 : List Nat) (σ0 : Env) : List Val → List Val → Sto → Res (List Val)
  | [], acc, st => if keep st then .ok acc st else .bad
  | v :: l, acc, st => if keep st then (g v σ0 st).calm fun σ1 st1 => (c σ1 st1).calm fun b st2 =>
      if b = true then (mi1 σ1 st2).calm fun p st3 => (lcGo p.2 g1 c1 me (wipeE σ1 vs1) p.1 acc st3).calm fun acc' st4 => lcGo2 keep g c mi1 g1 c1 me vs1 σ0 l acc' st4
      else lcGo2 keep g c mi1 g1 c1 me vs1 σ0 l acc st2 else .bad
noncomputable def mLc2 (mi : MI) (g : MG) (c : MT) (mi1 : MI) (g1 : MG) (c1 : MT) (me : ME) (vs vs1 : List Nat) : ME := fun σ st => (mi σ st).bind fun p st1 => (lcGo2 p.2 g c mi1 g1 c1 me vs1 (wipeE σ vs) p.1 [] st1).bind fun l st2 => .ok (.lst l) st2
/-- where a block stands: base ρ0 st0 H0 with the new list D in it; acc its things -/
structure LcAt (K : Frag) (ρ0 : Rho) (st0 : Sto) (H0 : Hp) (D : Addr) (ρ : Rho) (st : Sto) (acc : List Val) (H : Hp) : Prop where
  ext : Ext ρ0 st0 H0 ρ st (upd H D (.lst []))
  rs : RS K ρ st H
  ls : ∃ ac, H D = some (.lst ac) ∧ RVs K ρ (Fz ρ st H) acc ac
theorem fzD {ρ : Rho} {st : Sto} {H : Hp} {o : HO} {D : Addr} (hm : D ∈ ρ.2) : Fz ρ st (upd H D o) = Fz ρ st H := by
  funext b
  by_cases ho : Own ρ st b
  · rw [fz_none ho, fz_none ho]
  · have hb : b ≠ D := fun z => ho (.inl (by rw [z]; exact hm))
    rw [fz_eq ho, fz_eq ho, upd_ne hb]
theorem ext_updD {ρa ρb : Rho} {sa sb : Sto} {Ha Hb : Hp} {D : Addr} (hm : D ∈ ρa.2) (e : Ext ρa sa Ha ρb sb Hb) : Ext ρa sa (upd Ha D (.lst [])) ρb sb (upd Hb D (.lst [])) := by
  refine ⟨e.pre, ?_, e.hs, fun b hb => ?_⟩
  · rw [fzD hm, fzD (by rw [e.hs]; exact hm)]
    exact e.fz
  · by_cases hbD : b = D
    · subst hbD; rw [upd_same, upd_same]
    · rw [upd_ne hbD, upd_ne hbD]; exact e.hid b hb
theorem LcAt.move {K : Frag} {ρ0 : Rho} {st0 : Sto} {H0 : Hp} {D : Addr} {ρ : Rho} {st : Sto} {acc : List Val} {H : Hp} (h : LcAt K ρ0 st0 H0 D ρ st acc H) (hD : D ∈ ρ0.2) {ρ' : Rho} {st' : Sto} {H' : Hp} (e : Ext ρ st H ρ' st' H') (rs : RS K ρ' st' H') : LcAt K ρ0 st0 H0 D ρ' st' acc H' := by
  have hm : D ∈ ρ.2 := by rw [h.ext.hs]; exact hD
  obtain ⟨ac, hac, rac⟩ := h.ls
  exact ⟨h.ext.trans (ext_updD hm e), rs, ac, by rw [e.hid D hm]; exact hac, rac.mono e.pre e.fz⟩
theorem LcAt.app {K : Frag} {ρ1 : Rho} {st0 : Sto} {H0 : Hp} {D : Addr} {ρ : Rho} {st : Sto} {acc : List Val} {H : Hp} (h : LcAt K (hideR ρ1 D) st0 H0 D ρ st acc H) {v : Val} {y : V} (r : RV K ρ (Fz ρ st H) v y) (hz : acc.length < sizeLine) :
    ∃ ac, H D = some (.lst ac) ∧ ac.length < sizeLine ∧ LcAt K (hideR ρ1 D) st0 H0 D ρ st (acc ++ [v]) (upd H D (.lst (ac ++ [y]))) := by
  have hm : D ∈ ρ.2 := by rw [h.ext.hs]; exact List.mem_cons_self
  obtain ⟨ac, hac, rac⟩ := h.ls
  refine ⟨ac, hac, by rw [← rac.length]; exact hz, ?_, ?_, ac ++ [y], upd_same, ?_⟩
  · have eu : upd (upd H D (.lst (ac ++ [y]))) D (.lst []) = upd H D (.lst []) := by
      funext b
      by_cases hb : b = D
      · subst hb; rw [upd_same, upd_same]
      · rw [upd_ne hb, upd_ne hb, upd_ne hb]
    rw [eu]
    exact h.ext
  · have e66 : ρ = hideR (ρ.1, ρ1.2) D := Prod.ext rfl h.ext.hs
    have rs := h.rs
    rw [e66] at rs ⊢
    exact rs.rehide.1
  · rw [fzD hm]
    exact rac.append (.one r)
/-- the turns of one clause, its list going to be D's: where they stop, the result is what lcGo tells -/
theorem lc_in {K : Frag} {vs : List Nat} {g : TG} {gm : MG} {tt : TT} {mt : MT} {te : TE} {me : ME} (hg : SndGw K vs g gm) (ht : SndT K (fun _ _ _ _ => False) tt mt) (he : SndE K (fun _ _ _ _ => False) te me)
    {ρ1 : Rho} {st0 : Sto} {H0 : Hp} {D : Addr} {ρ : Rho} {st : Sto} {acc : List Val} {H : Hp} (h : LcAt K (hideR ρ1 D) st0 H0 D ρ st acc H) {items : List Val} {keep : Sto → Prop} {J : It} {σ : Env} {τ : L2.St} (re : RE K ρ (Fz ρ st H) σ τ) (src : Src K J items keep ρ (Fz ρ st H))
    {out : List Val} {st' : Sto} (e : lcGo keep gm mt me (wipeE σ vs) items acc st = .ok out st') {Nx : Hp → Prop} (nx : ∀ ρ' H', LcAt K (hideR ρ1 D) st0 H0 D ρ' st' out H' → Same (Fz ρ st H) (Fz ρ' st' H') → ρ.1 <+: ρ'.1 → Nx H') :
    ∃ W1 : Nat → Nat → Hp → Prop, (∃ m, W1 0 m H) ∧ ∀ j k H, W1 j k H →
      (J.stop j H ∧ Nx H) ∨ (J.go j H ∧ ∃ Nx1 : Hp → Prop, (∀ H', Nx1 H' → ∃ k', k' < k ∧ W1 (j + 1) k' H') ∧ ∀ x H', J.yld j H x H' → g x (wipe τ vs) H' fun σ3 H5 => wipe σ3 vs = wipe τ vs ∧ tt σ3 H5 fun b H6 =>
        if b = true then te σ3 H6 fun y H7 => ∃ acc, H7 D = some (.lst acc) ∧ acc.length < sizeLine ∧ Nx1 (upd H7 D (.lst (acc ++ [y]))) else Nx1 H6) := by
  have hm0 : D ∈ (hideR ρ1 D).2 := List.mem_cons_self
  refine ⟨fun i m H2 => ∃ ρ2 st2 acc2, LcAt K (hideR ρ1 D) st0 H0 D ρ2 st2 acc2 H2 ∧ ρ.1 <+: ρ2.1 ∧ Same (Fz ρ st H) (Fz ρ2 st2 H2) ∧ lcGo keep gm mt me (wipeE σ vs) (items.drop i) acc2 st2 = .ok out st' ∧ m = items.length - i ∧ i ≤ items.length,
    ⟨items.length, ρ, st, acc, h, List.prefix_rfl, Same.refl _, e, rfl, Nat.zero_le _⟩, ?_⟩
  rintro i m H2 ⟨ρ2, st2, acc2, h2, p2, s2, e2, rfl, hle⟩
  have hm2 : D ∈ ρ2.2 := by rw [h2.ext.hs]; exact hm0
  cases hn : items[i]? with
  | none =>
    have hd : items.drop i = [] := List.drop_eq_nil_of_le (List.getElem?_eq_none_iff.mp hn)
    rw [hd] at e2
    unfold lcGo at e2
    split at e2
    · rename_i hk
      cases e2
      exact .inl ⟨(src ρ2 _ H2 p2 s2 h2.rs hk i).2 (Nat.le_antisymm hle (List.getElem?_eq_none_iff.mp hn)), nx ρ2 H2 h2 s2 p2⟩
    · cases e2
  | some v =>
    obtain ⟨hlt, hv⟩ := List.getElem?_eq_some_iff.mp hn
    have hd : items.drop i = v :: items.drop (i + 1) := by rw [List.drop_eq_getElem_cons hlt, hv]
    rw [hd] at e2
    unfold lcGo at e2
    split at e2
    · rename_i hk
      obtain ⟨go, yl⟩ := (src ρ2 st2 H2 p2 s2 h2.rs hk i).1 v hn
      refine .inr ⟨go, fun H' => ∃ ρ3 st3 acc3, LcAt K (hideR ρ1 D) st0 H0 D ρ3 st3 acc3 H' ∧ ρ.1 <+: ρ3.1 ∧ Same (Fz ρ st H) (Fz ρ3 st3 H') ∧ lcGo keep gm mt me (wipeE σ vs) (items.drop (i + 1)) acc3 st3 = .ok out st', fun H' h' => ?_, fun x H' hy => ?_⟩
      · obtain ⟨ρ3, st3, acc3, a, b, c, d⟩ := h'
        exact ⟨items.length - (i + 1), by omega, ρ3, st3, acc3, a, b, c, d, rfl, hlt⟩
      · obtain ⟨e3, rs3, rv⟩ := yl x H' hy
        have h3 := h2.move hm0 e3 rs3
        have re2 : RE K ρ2 (Fz ρ2 st2 H') (wipeE σ vs) (wipe τ vs) := (re.mono p2 (s2.trans e3.fz)).wipe vs
        cases hg1 : gm v (wipeE σ vs) st2 with
        | exc a s => rw [hg1] at e2; cases e2
        | bad => rw [hg1] at e2; cases e2
        | ok σ4 st4 =>
          rw [hg1] at e2
          refine hg ρ2 st2 H' (wipeE σ vs) (wipe τ vs) v x _ (fun _ _ _ => False) rs3 re2 rv ?_
          rw [hg1]
          intro ρ4 H4 τ4 e4 rs4 re4 w4
          refine ⟨w4.trans wipe_wipe, ?_⟩
          have e2 : ((mt σ4 st4).calm fun b st2 => if b = true then (me σ4 st2).calm fun w st3 => if acc2.length < sizeLine then lcGo keep gm mt me (wipeE σ vs) (items.drop (i + 1)) (acc2 ++ [w]) st3 else .bad else lcGo keep gm mt me (wipeE σ vs) (items.drop (i + 1)) acc2 st2) = .ok out st' := e2
          cases ht4 : mt σ4 st4 with
          | exc a s => rw [ht4] at e2; cases e2
          | bad => rw [ht4] at e2; cases e2
          | ok b s5 =>
            rw [ht4] at e2
            refine ht ρ4 st4 H4 σ4 τ4 _ rs4 re4 ?_
            rw [ht4]
            intro ρ5 H5 b' e5 rs5 eb
            subst eb
            have h5 := h3.move hm0 (e4.trans e5) rs5
            have p5 : ρ.1 <+: ρ5.1 := p2.trans (e4.trans e5).pre
            have s5' : Same (Fz ρ st H) (Fz ρ5 s5 H5) := s2.trans (e3.trans (e4.trans e5)).fz
            cases b with
            | false => exact ⟨ρ5, s5, acc2, h5, p5, s5', e2⟩
            | true =>
              have e2 : ((me σ4 s5).calm fun w st3 => if acc2.length < sizeLine then lcGo keep gm mt me (wipeE σ vs) (items.drop (i + 1)) (acc2 ++ [w]) st3 else .bad) = .ok out st' := e2
              cases he5 : me σ4 s5 with
              | exc a s => rw [he5] at e2; cases e2
              | bad => rw [he5] at e2; cases e2
              | ok w s6 =>
                rw [he5] at e2
                show te τ4 H5 _
                refine he ρ5 s5 H5 σ4 τ4 _ rs5 (re4.mono e5.pre e5.fz) ?_
                rw [he5]
                intro ρ6 H6 y e6 rs6 ry
                have h6 := h5.move hm0 e6 rs6
                have e2 : (if acc2.length < sizeLine then lcGo keep gm mt me (wipeE σ vs) (items.drop (i + 1)) (acc2 ++ [w]) s6 else .bad) = .ok out st' := e2
                split at e2
                · rename_i hz
                  obtain ⟨ac, hac, hzz, h7⟩ := h6.app ry hz
                  have hm6 : D ∈ ρ6.2 := by rw [h6.ext.hs]; exact hm0
                  refine ⟨ac, hac, hzz, ρ6, s6, acc2 ++ [w], h7, p5.trans e6.pre, ?_, e2⟩
                  rw [fzD hm6]
                  exact s5'.trans e6.fz
                · cases e2
    · cases e2
theorem Res.calm_exc_of {α β : Type} {r : Res α} {f : α → Sto → Res β} {e : Exn} {s : Sto} (h : r.calm f = .exc e s) : ∃ a s1, f a s1 = .exc e s := by
  cases r with
  | ok a s1 => exact ⟨a, s1, h⟩
  | exc a s1 => cases h
  | bad => cases h
theorem lcGo2_calm {keep : Sto → Prop} {g : MG} {c : MT} {mi1 : MI} {g1 : MG} {c1 : MT} {me : ME} {vs1 : List Nat} {σ0 : Env} {e : Exn} {s : Sto} : ∀ (l acc : List Val) (st : Sto), lcGo2 keep g c mi1 g1 c1 me vs1 σ0 l acc st ≠ .exc e s
  | [], acc, st, h => by
    unfold lcGo2 at h
    split at h <;> cases h
  | v :: l, acc, st, h => by
    unfold lcGo2 at h
    split at h
    · obtain ⟨a, s1, h⟩ := Res.calm_exc_of h
      obtain ⟨b, s2, h⟩ := Res.calm_exc_of h
      split at h
      · obtain ⟨p, s3, h⟩ := Res.calm_exc_of h
        obtain ⟨q, s4, h⟩ := Res.calm_exc_of h
        exact lcGo2_calm l _ _ h
      · exact lcGo2_calm l _ _ h
    · cases h
section
variable {K : Frag} {W : WX} {X : Cx} {pos spos py : Pos} {elt tg iter tg1 iter1 : Expr} {ifs ifs1 : List Expr} {scope : Scope} {own : List (Str × Nat)} {wi wi1 : TI} {mi mi1 : MI} {g g1 : TG} {gm gm1 : MG} {tt tt1 : TT} {mt mt1 : MT} {te : TE} {me : ME} {vs vs1 : List Nat}
theorem snd_lc2 (hi : SndI K W wi mi) (hg : SndGw K vs g gm) (ht : SndT K (fun _ _ _ _ => False) tt mt) (hi1 : SndI K (fun _ _ _ _ => False) wi1 mi1) (hg1 : SndGw K vs1 g1 gm1) (ht1 : SndT K (fun _ _ _ _ => False) tt1 mt1) (he : SndE K (fun _ _ _ _ => False) te me) : SndE K W (tLc2 wi g tt wi1 g1 tt1 te vs vs1) (mLc2 mi gm mt mi1 gm1 mt1 me vs vs1) := by
  intro ρ st H σ τ Q rs re q
  refine hi ρ st H σ τ _ rs re (After.bind q fun p st1 ρ1 H1 J _ e1 rs1 src hh D hD => ?_)
  obtain ⟨items, keep⟩ := p
  have nD := rs1.fresh hD
  have rsD : RS K (hideR ρ1 D) st1 (upd H1 D (.lst [])) := rs1.hide hD
  have ef : Fz (hideR ρ1 D) st1 (upd H1 D (.lst [])) = Fz ρ1 st1 H1 := fz_hide nD hD fun b hb => upd_ne hb
  have reD : RE K (hideR ρ1 D) (Fz (hideR ρ1 D) st1 (upd H1 D (.lst []))) σ τ := by
    rw [ef]
    exact RE.mono (ρ := ρ1) (ρ' := hideR ρ1 D) List.prefix_rfl (Same.refl _) (re.mono e1.pre e1.fz)
  have hnD : D ∉ ρ1.2 := fun z => nD (.inl z)
  have hm0 : D ∈ (hideR ρ1 D).2 := List.mem_cons_self
  have hh : After K ρ1 st1 H1 (RV K) ((lcGo2 keep gm mt mi1 gm1 mt1 me vs1 (wipeE σ vs) items [] st1).bind fun l st2 => .ok (.lst l) st2) Q (fun c d H' => W c d τ H') := hh
  have hr : ∃ out st', lcGo2 keep gm mt mi1 gm1 mt1 me vs1 (wipeE σ vs) items [] st1 = .ok out st' ∧ (∀ ρ' H' (b : V), Ext ρ1 st1 H1 ρ' st' H' → RS K ρ' st' H' → RV K ρ' (Fz ρ' st' H') (.lst out) b → Q b H') := by
    cases e : lcGo2 keep gm mt mi1 gm1 mt1 me vs1 (wipeE σ vs) items [] st1 with
    | exc a s => exact absurd e (lcGo2_calm _ _ _)
    | bad => rw [e] at hh; exact hh.elim
    | ok out st' =>
      rw [e] at hh
      exact ⟨out, st', rfl, hh⟩
  obtain ⟨out, st', er, hq⟩ := hr
  refine ⟨fun i m H2 => ∃ ρ2 st2 acc2, LcAt K (hideR ρ1 D) st1 (upd H1 D (.lst [])) D ρ2 st2 acc2 H2 ∧ lcGo2 keep gm mt mi1 gm1 mt1 me vs1 (wipeE σ vs) (items.drop i) acc2 st2 = .ok out st' ∧ m = items.length - i ∧ i ≤ items.length,
    ⟨items.length, hideR ρ1 D, st1, [], ⟨?_, rsD, [], upd_same, rfl⟩, er, rfl, Nat.zero_le _⟩, ?_⟩
  · have e : upd (upd H1 D (.lst [])) D (.lst []) = upd H1 D (.lst []) := by
      funext b
      by_cases hb : b = D
      · subst hb; rw [upd_same, upd_same]
      · rw [upd_ne hb]
    rw [e]
    exact .refl
  rintro i m H2 ⟨ρ2, st2, acc2, h2, e2, rfl, hle⟩
  have hm2 : D ∈ ρ2.2 := by rw [h2.ext.hs]; exact hm0
  have base2 : Same (Fz ρ1 st1 H1) (Fz ρ2 st2 H2) := by
    rw [← ef, ← fzD (o := .lst []) hm2]
    exact h2.ext.fz
  have pre2 : ρ1.1 <+: ρ2.1 := h2.ext.pre
  cases hn : items[i]? with
  | none =>
    have hd : items.drop i = [] := List.drop_eq_nil_of_le (List.getElem?_eq_none_iff.mp hn)
    rw [hd] at e2
    unfold lcGo2 at e2
    split at e2
    · rename_i hk
      cases e2
      refine .inl ⟨(src ρ2 _ H2 pre2 base2 h2.rs hk i).2 (Nat.le_antisymm hle (List.getElem?_eq_none_iff.mp hn)), ?_⟩
      obtain ⟨ac, hac, rac⟩ := h2.ls
      have rs2 := h2.rs
      have e22 : ρ2 = hideR (ρ2.1, ρ1.2) D := Prod.ext rfl h2.ext.hs
      rw [e22] at rs2 rac
      obtain ⟨rs3, sm3, fD3⟩ := rs2.unhide hnD
      refine hq (ρ2.1, ρ1.2) H2 (.ref D) ⟨pre2, ?_, rfl, fun b hb => ?_⟩ rs3 ⟨D, ac, rfl, by rw [fD3]; exact hac, RVs.mono (ρ := hideR (ρ2.1, ρ1.2) D) (ρ' := (ρ2.1, ρ1.2)) List.prefix_rfl sm3 rac⟩
      · rw [e22] at base2
        exact base2.trans sm3
      · have hb' := h2.ext.hid b (List.mem_cons_of_mem _ hb)
        have hbD : b ≠ D := fun z => hnD (by rw [← z]; exact hb)
        rw [upd_ne hbD, upd_ne hbD] at hb'
        exact hb'
    · cases e2
  | some v =>
    obtain ⟨hlt, hv⟩ := List.getElem?_eq_some_iff.mp hn
    have hd : items.drop i = v :: items.drop (i + 1) := by rw [List.drop_eq_getElem_cons hlt, hv]
    rw [hd] at e2
    unfold lcGo2 at e2
    split at e2
    · rename_i hk
      obtain ⟨go, yl⟩ := (src ρ2 st2 H2 pre2 base2 h2.rs hk i).1 v hn
      refine .inr ⟨go, fun H' => ∃ ρ3 st3 acc3, LcAt K (hideR ρ1 D) st1 (upd H1 D (.lst [])) D ρ3 st3 acc3 H' ∧ lcGo2 keep gm mt mi1 gm1 mt1 me vs1 (wipeE σ vs) (items.drop (i + 1)) acc3 st3 = .ok out st', fun H' h' => ?_, fun x H' hy => ?_⟩
      · obtain ⟨ρ3, st3, acc3, a, d⟩ := h'
        exact ⟨items.length - (i + 1), by omega, ρ3, st3, acc3, a, d, rfl, hlt⟩
      · obtain ⟨e3, rs3, rv⟩ := yl x H' hy
        have h3 := h2.move hm0 e3 rs3
        have re2 : RE K ρ2 (Fz ρ2 st2 H') (wipeE σ vs) (wipe τ vs) := by
          refine (RE.mono h2.ext.pre ?_ reD).wipe vs
          rw [ef]
          exact base2.trans e3.fz
        cases hg1' : gm v (wipeE σ vs) st2 with
        | exc a s => rw [hg1'] at e2; cases e2
        | bad => rw [hg1'] at e2; cases e2
        | ok σ4 st4 =>
          rw [hg1'] at e2
          refine hg ρ2 st2 H' (wipeE σ vs) (wipe τ vs) v x _ (fun _ _ _ => False) rs3 re2 rv ?_
          rw [hg1']
          intro ρ4 H4 τ4 e4 rs4 re4 w4
          refine ⟨w4.trans wipe_wipe, ?_⟩
          have e2 : ((mt σ4 st4).calm fun b st2 => if b = true then (mi1 σ4 st2).calm fun p st3 => (lcGo p.2 gm1 mt1 me (wipeE σ4 vs1) p.1 acc2 st3).calm fun acc' st4 => lcGo2 keep gm mt mi1 gm1 mt1 me vs1 (wipeE σ vs) (items.drop (i + 1)) acc' st4
            else lcGo2 keep gm mt mi1 gm1 mt1 me vs1 (wipeE σ vs) (items.drop (i + 1)) acc2 st2) = .ok out st' := e2
          cases ht4 : mt σ4 st4 with
          | exc a s => rw [ht4] at e2; cases e2
          | bad => rw [ht4] at e2; cases e2
          | ok b s5 =>
            rw [ht4] at e2
            refine ht ρ4 st4 H4 σ4 τ4 _ rs4 re4 ?_
            rw [ht4]
            intro ρ5 H5 b' e5 rs5 eb
            subst eb
            have h5 := h3.move hm0 (e4.trans e5) rs5
            cases b with
            | false => exact ⟨ρ5, s5, acc2, h5, e2⟩
            | true =>
              have e2 : ((mi1 σ4 s5).calm fun p st3 => (lcGo p.2 gm1 mt1 me (wipeE σ4 vs1) p.1 acc2 st3).calm fun acc' st4 => lcGo2 keep gm mt mi1 gm1 mt1 me vs1 (wipeE σ vs) (items.drop (i + 1)) acc' st4) = .ok out st' := e2
              cases hi5 : mi1 σ4 s5 with
              | exc a s => rw [hi5] at e2; cases e2
              | bad => rw [hi5] at e2; cases e2
              | ok p s6 =>
                rw [hi5] at e2
                show wi1 τ4 H5 _
                have re5 := re4.mono e5.pre e5.fz
                refine hi1 ρ5 s5 H5 σ4 τ4 _ rs5 re5 ?_
                rw [hi5]
                intro ρ6 H6 J1 e6 rs6 src6
                have h6 := h5.move hm0 e6 rs6
                have e2 : ((lcGo p.2 gm1 mt1 me (wipeE σ4 vs1) p.1 acc2 s6).calm fun acc' st4 => lcGo2 keep gm mt mi1 gm1 mt1 me vs1 (wipeE σ vs) (items.drop (i + 1)) acc' st4) = .ok out st' := e2
                cases hl6 : lcGo p.2 gm1 mt1 me (wipeE σ4 vs1) p.1 acc2 s6 with
                | exc a s => rw [hl6] at e2; cases e2
                | bad => rw [hl6] at e2; cases e2
                | ok o s7 =>
                  rw [hl6] at e2
                  exact lc_in hg1 ht1 he h6 (re5.mono e6.pre e6.fz) src6 hl6 fun ρ' H' h' _ _ => ⟨ρ', s7, o, h', e2⟩
    · cases e2
theorem se_lc2 (own : List (Str × Nat)) (vs1 : List Nat) (hc : X.calm = true) (hN : X.N.Nodup) (hi : SI K W X tg iter wi mi) (ok : blkC X.N X.env.scope scope own = true)
    (hg : ∀ (s : Shared) (H : Hp) (C : Addr) (cl : List (Str × Addr)) (fp : List Addr), SGw K (X.blk s H scope (compEnvC scope cl C X.env) fp) (own.map (·.2)) tg g gm)
    (ht : ∀ (s : Shared) (H : Hp) (C : Addr) (cl : List (Str × Addr)) (fp : List Addr), SIf K (X.blk s H scope (compEnvC scope cl C X.env) fp) ifs tt mt)
    (hi1 : ∀ (s : Shared) (H : Hp) (C : Addr) (cl : List (Str × Addr)) (fp : List Addr), SI K (fun _ _ _ _ => False) (X.blk s H scope (compEnvC scope cl C X.env) fp) tg1 iter1 wi1 mi1)
    (hg1 : ∀ (s : Shared) (H : Hp) (C : Addr) (cl : List (Str × Addr)) (fp : List Addr), SGw K (X.blk s H scope (compEnvC scope cl C X.env) fp) vs1 tg1 g1 gm1)
    (ht1 : ∀ (s : Shared) (H : Hp) (C : Addr) (cl : List (Str × Addr)) (fp : List Addr), SIf K (X.blk s H scope (compEnvC scope cl C X.env) fp) ifs1 tt1 mt1)
    (he : ∀ (s : Shared) (H : Hp) (C : Addr) (cl : List (Str × Addr)) (fp : List Addr), SE K (fun _ _ _ _ => False) (X.blk s H scope (compEnvC scope cl C X.env) fp) elt te me)
    (hv : ∀ i ∈ vs1, i ∈ own.map (·.2) := by decide) (hs : ∀ x, foldedSetIterable iter X.env x = pure x := by intro _; rfl) (hs1 : ∀ env x, foldedSetIterable iter1 env x = pure x := by intro _ _; rfl) :
    SE K W X (.ListComp elt [⟨tg, iter, ifs, 0⟩, ⟨tg1, iter1, ifs1, 0⟩] scope pos) (tLc2 wi g tt wi1 g1 tt1 te (own.map (·.2)) vs1) (mLc2 mi gm mt mi1 gm1 mt1 me (own.map (·.2)) vs1) :=
  ⟨pe_lc2 hc hN hi.pi (blkOk_by ok) hv (fun s H C cl fp => (hg s H C cl fp).pg) (fun s H C cl fp => (ht s H C cl fp).pt) (fun s H C cl fp => (hi1 s H C cl fp).pi) (fun s H C cl fp => (hg1 s H C cl fp).pg) (fun s H C cl fp => (ht1 s H C cl fp).pt) (fun s H C cl fp => (he s H C cl fp).pe) hs hs1,
    snd_lc2 hi.sd (hg {} (fun _ => none) 0 [] []).sd (ht {} (fun _ => none) 0 [] []).sd (hi1 {} (fun _ => none) 0 [] []).sd (hg1 {} (fun _ => none) 0 [] []).sd (ht1 {} (fun _ => none) 0 [] []).sd (he {} (fun _ => none) 0 [] []).sd⟩
theorem ss_setLc2 (i : Nat) (own : List (Str × Nat)) (vs1 : List Nat) {y : Str} (hc : X.calm = true) (hN : X.N.Nodup) (hi : SI K W X tg iter wi mi) (ok : blkC X.N X.env.scope scope own = true)
    (hg : ∀ (s : Shared) (H : Hp) (C : Addr) (cl : List (Str × Addr)) (fp : List Addr), SGw K (X.blk s H scope (compEnvC scope cl C X.env) fp) (own.map (·.2)) tg g gm)
    (ht : ∀ (s : Shared) (H : Hp) (C : Addr) (cl : List (Str × Addr)) (fp : List Addr), SIf K (X.blk s H scope (compEnvC scope cl C X.env) fp) ifs tt mt)
    (hi1 : ∀ (s : Shared) (H : Hp) (C : Addr) (cl : List (Str × Addr)) (fp : List Addr), SI K (fun _ _ _ _ => False) (X.blk s H scope (compEnvC scope cl C X.env) fp) tg1 iter1 wi1 mi1)
    (hg1 : ∀ (s : Shared) (H : Hp) (C : Addr) (cl : List (Str × Addr)) (fp : List Addr), SGw K (X.blk s H scope (compEnvC scope cl C X.env) fp) vs1 tg1 g1 gm1)
    (ht1 : ∀ (s : Shared) (H : Hp) (C : Addr) (cl : List (Str × Addr)) (fp : List Addr), SIf K (X.blk s H scope (compEnvC scope cl C X.env) fp) ifs1 tt1 mt1)
    (he : ∀ (s : Shared) (H : Hp) (C : Addr) (cl : List (Str × Addr)) (fp : List Addr), SE K (fun _ _ _ _ => False) (X.blk s H scope (compEnvC scope cl C X.env) fp) elt te me)
    (hv : ∀ i ∈ vs1, i ∈ own.map (·.2) := by decide) (hy : X.N[i]? = some y := by rfl) (hyl : X.env.scope.names.lookup y = some .local := by rfl) (hsw : swapsWith (.ListComp elt [⟨tg, iter, ifs, 0⟩, ⟨tg1, iter1, ifs1, 0⟩] scope pos) (some (.Name y py)) spos.line X.env = pure true := by exact sw_true rfl rfl rfl rfl)
    (hs : ∀ x, foldedSetIterable iter X.env x = pure x := by intro _; rfl) (hs1 : ∀ env x, foldedSetIterable iter1 env x = pure x := by intro _ _; rfl) :
    SS K W X (.Assign [.Name y py] (.ListComp elt [⟨tg, iter, ifs, 0⟩, ⟨tg1, iter1, ifs1, 0⟩] scope pos) spos) (tAsg (tLc2 wi g tt wi1 g1 tt1 te (own.map (·.2)) vs1) (gName i)) (mAsg (mLc2 mi gm mt mi1 gm1 mt1 me (own.map (·.2)) vs1) (gN i)) :=
  ⟨ps_setLc2 hc hN hy hyl hsw hi.pi (blkOk_by ok) hv (fun s H C cl fp => (hg s H C cl fp).pg) (fun s H C cl fp => (ht s H C cl fp).pt) (fun s H C cl fp => (hi1 s H C cl fp).pi) (fun s H C cl fp => (hg1 s H C cl fp).pg) (fun s H C cl fp => (ht1 s H C cl fp).pt) (fun s H C cl fp => (he s H C cl fp).pe) hs hs1,
    snd_asg (snd_lc2 hi.sd (hg {} (fun _ => none) 0 [] []).sd (ht {} (fun _ => none) 0 [] []).sd (hi1 {} (fun _ => none) 0 [] []).sd (hg1 {} (fun _ => none) 0 [] []).sd (ht1 {} (fun _ => none) 0 [] []).sd (he {} (fun _ => none) 0 [] []).sd) fun ρ st H σ τ v x Q E rs re rv h => h.ok .refl rs (re.set rv i)⟩
end
end L3
end

section
set_option Elab.async false
set_option linter.all false
set_option maxRecDepth 100000
set_option maxHeartbeats 400000
/-! L3o: max, min of one list, tuple, of a dict's values. -/
namespace L3
open PySem PySem.Spec PyProof.Rows L2
def mxL : List Int → Int
  | [] => 0
  | a :: l => l.foldl (fun m x => if x > m then x else m) a
def mnL : List Int → Int
  | [] => 0
  | a :: l => l.foldl (fun m x => if x < m then x else m) a
theorem mxL_fold : ∀ (l : List Int) (a : Int), (l.foldl (fun m x => if x > m then x else m) a = a ∨ l.foldl (fun m x => if x > m then x else m) a ∈ l) ∧ a ≤ l.foldl (fun m x => if x > m then x else m) a ∧ ∀ y ∈ l, y ≤ l.foldl (fun m x => if x > m then x else m) a
  | [], a => ⟨.inl rfl, Int.le_refl _, fun _ h => nomatch h⟩
  | b :: l, a => by
    rw [List.foldl_cons]
    obtain ⟨h1, h2, h3⟩ := mxL_fold l (if b > a then b else a)
    by_cases hb : b > a
    · rw [if_pos hb] at h1 h2 h3 ⊢
      refine ⟨.inr ?_, by omega, fun y hy => ?_⟩
      · rcases h1 with h | h
        · rw [h]; exact List.mem_cons_self
        · exact List.mem_cons_of_mem _ h
      · rcases List.mem_cons.mp hy with rfl | hy
        · exact h2
        · exact h3 y hy
    · rw [if_neg hb] at h1 h2 h3 ⊢
      refine ⟨h1.imp id (List.mem_cons_of_mem _), h2, fun y hy => ?_⟩
      rcases List.mem_cons.mp hy with rfl | hy
      · omega
      · exact h3 y hy
theorem mnL_fold : ∀ (l : List Int) (a : Int), (l.foldl (fun m x => if x < m then x else m) a = a ∨ l.foldl (fun m x => if x < m then x else m) a ∈ l) ∧ l.foldl (fun m x => if x < m then x else m) a ≤ a ∧ ∀ y ∈ l, l.foldl (fun m x => if x < m then x else m) a ≤ y
  | [], a => ⟨.inl rfl, Int.le_refl _, fun _ h => nomatch h⟩
  | b :: l, a => by
    rw [List.foldl_cons]
    obtain ⟨h1, h2, h3⟩ := mnL_fold l (if b < a then b else a)
    by_cases hb : b < a
    · rw [if_pos hb] at h1 h2 h3 ⊢
      refine ⟨.inr ?_, by omega, fun y hy => ?_⟩
      · rcases h1 with h | h
        · rw [h]; exact List.mem_cons_self
        · exact List.mem_cons_of_mem _ h
      · rcases List.mem_cons.mp hy with rfl | hy
        · exact h2
        · exact h3 y hy
    · rw [if_neg hb] at h1 h2 h3 ⊢
      refine ⟨h1.imp id (List.mem_cons_of_mem _), h2, fun y hy => ?_⟩
      rcases List.mem_cons.mp hy with rfl | hy
      · omega
      · exact h3 y hy
theorem mxL_mem : ∀ {l : List Int}, l ≠ [] → mxL l ∈ l
  | a :: l, _ => by
    rcases (mxL_fold l a).1 with h | h
    · show l.foldl _ a ∈ _; rw [h]; exact List.mem_cons_self
    · exact List.mem_cons_of_mem _ h
theorem mxL_le {l : List Int} {y : Int} (h : y ∈ l) : y ≤ mxL l := by
  cases l with
  | nil => cases h
  | cons a l =>
    rcases List.mem_cons.mp h with rfl | h
    · exact (mxL_fold l y).2.1
    · exact (mxL_fold l a).2.2 y h
theorem mnL_mem : ∀ {l : List Int}, l ≠ [] → mnL l ∈ l
  | a :: l, _ => by
    rcases (mnL_fold l a).1 with h | h
    · show l.foldl _ a ∈ _; rw [h]; exact List.mem_cons_self
    · exact List.mem_cons_of_mem _ h
theorem mnL_le {l : List Int} {y : Int} (h : y ∈ l) : mnL l ≤ y := by
  cases l with
  | nil => cases h
  | cons a l =>
    rcases List.mem_cons.mp h with rfl | h
    · exact (mnL_fold l y).2.1
    · exact (mnL_fold l a).2.2 y h
theorem mxL_of {l : List Int} {m : Int} (h : m ∈ l) (hm : ∀ y ∈ l, y ≤ m) : m = mxL l := Int.le_antisymm (mxL_le h) (hm _ (mxL_mem (List.ne_nil_of_mem h)))
theorem mnL_of {l : List Int} {m : Int} (h : m ∈ l) (hm : ∀ y ∈ l, m ≤ y) : m = mnL l := Int.le_antisymm (hm _ (mnL_mem (List.ne_nil_of_mem h))) (mnL_le h)
section
variable {prog : Program} {w : World} {A : Around} {E : Value → Shared → Prop} {s : Shared}
theorem kept_push {o : Obj} {h' : Heap} (hk : ∀ b p, b ∉ [s.heap.objs.size] → (s.heap.push o).get? b = some p → h'.get? b = some p) : ∀ b p, s.heap.get? b = some p → h'.get? b = some p := fun b p e => by
  refine hk b p (fun hm => ?_) (Heap.get?_push_of_some _ e)
  rcases List.mem_cons.mp hm with e1 | hm
  · exact absurd (e1 ▸ Heap.lt_size e) (Nat.lt_irrefl _)
  · cases hm
theorem getD_val {ns : List Int} {i : Nat} (h : i < ns.length) : ns.getD i 0 ∈ ns := PySem.getD_mem h
theorem ints_at : ∀ {vs : List Value} {ns : List Int}, IntsAre vs ns → ∀ {i : Nat} {v : Value}, vs[i]? = some v → ∃ t, v = .int (ns.getD i 0) t
  | [], _, _, i, v, e => by cases i <;> cases e
  | u :: vs, [], h, _, _, _ => absurd h.length (by simp)
  | u :: vs, n :: ns, h, 0, v, e => by
    cases e
    cases h with
    | cons n t b => exact ⟨t, rfl⟩
  | u :: vs, n :: ns, h, i + 1, v, e => by
    cases h with
    | cons n t b => exact ints_at b e
theorem kv_at : ∀ {kvs : List (Key × V)} {vs : List (Key × Value)} {ns : List Int}, KV kvs vs → kvs.map (·.2) = ns.map V.int → ∀ {i : Nat} {k : Key} {v : Value}, vs[i]? = some (k, v) → ∃ t, v = .int (ns.getD i 0) t
  | _, [], _, _, _, i, _, _, e => by cases i <;> cases e
  | [], _ :: _, _, h, _, _, _, _, _ => nomatch h
  | p :: kvs, q :: vs, [], _, em, _, _, _, _ => by cases em
  | p :: kvs, q :: vs, n :: ns, h, em, 0, k, v, e => by
    cases e
    cases h with
    | cons a b =>
      have e2 : p.2 = V.int n := (List.cons.inj em).1
      have a2 := a.2
      rw [e2] at a2
      exact a2
  | p :: kvs, q :: vs, n :: ns, h, em, i + 1, k, v, e => by
    cases h with
    | cons a b => exact kv_at b (List.cons.inj em).2 e
theorem max_walkI {x : Value} {ns : List Int} {Q : Value → Shared → Prop} (hne : 0 < ns.length)
    (h : wpAny (model prog w) A.in1 (pyIter x) (fun it s₂ => ∃ I fp wr P St, it = .ref I ∧ Walks prog w A.in1 I fp wr ns.length P St ∧ St 0 s₂.heap ∧ (∀ b ∈ fp, b < s₂.heap.objs.size) ∧
      (∀ i v, P i v → ∃ t, v = .int (ns.getD i 0) t) ∧ ∀ h' tk t', (∀ b o, b ∉ wr → s₂.heap.get? b = some o → h'.get? b = some o) → Q (.int (mxL ns) t') { s₂ with heap := h', toks := tk }) E s) :
    wpAny (model prog w) A (call (.builtin "max") [x]) Q E s := by
  refine call_max_walk (wpAny_mono h (fun it s₂ ⟨I, fp, wr, P, Sx, e, W, h0, hfp, hv, hQ⟩ => ?_) fun _ _ e => e)
  refine ⟨I, fp, wr, ns.length, P, Sx, _, e, W, h0, hfp, hne, CmpOf.ints_gt (fun i => ns.getD i 0) hv, fun v h' tk hP hk => ?_⟩
  obtain ⟨t, rfl⟩ := hv _ _ hP
  obtain ⟨h1, h2⟩ := argBest_gt (fun i => ns.getD i 0) (ns.length - 1)
  have e : ns.getD (argBest (fun i j => decide (ns.getD i 0 > ns.getD j 0)) (ns.length - 1)) 0 = mxL ns := by
    refine mxL_of (getD_val (by omega)) fun y hy => ?_
    obtain ⟨j, hj, rfl⟩ := mem_getD hy
    exact h2 j (by omega)
  rw [e]
  exact hQ h' tk t hk
theorem max_tupI {a : Addr} {its : List Value} {ns : List Int} {Q : Value → Shared → Prop} (hh : A.handled = none) (ht : IsTup s.heap a its.toArray) (hi : IntsAre its ns) (hne : 0 < ns.length)
    (h : ∀ h' tk t', (∀ b o, s.heap.get? b = some o → h'.get? b = some o) → Q (.int (mxL ns) t') { s with heap := h', toks := tk }) : wpAny (model prog w) A (call (.builtin "max") [.ref a]) Q E s := by
  have hlt : a < s.heap.objs.size := by obtain ⟨_, e, _⟩ := ht; exact Heap.lt_size e
  have hT : s.heap.IsTuple a its.toArray := ht
  refine max_walkI hne (wpAny_pyIter_tuple hT ?_)
  have W := Walks.tuple (prog := prog) (w := w) (A := A.in1) hh s.heap.objs.size a (Nat.ne_of_lt hlt) its.toArray
  have hl : its.toArray.size = ns.length := by rw [List.size_toArray]; exact hi.length
  rw [hl] at W
  refine ⟨_, _, _, _, _, rfl, W, ⟨⟨_, Heap.get?_push_size _ rfl, rfl, rfl⟩, hT.push _⟩, fun b hb => ?_, fun i v e => ?_, fun h' tk t' hk => h h' tk t' (kept_push hk)⟩
  · show b < (s.heap.push _).objs.size
    rw [Heap.size_push]
    rcases List.mem_cons.mp hb with rfl | hb
    · exact Nat.lt_succ_self _
    · rcases List.mem_cons.mp hb with rfl | hb
      · exact Nat.lt_succ_of_lt hlt
      · cases hb
  · exact ints_at hi (by simpa using e)
theorem max_vals {K : Type} [DecidableEq K] {knd : KeyKind prog w K} {x d : Addr} {vs : List (K × Value)} {ns : List Int} {ep : Nat} {Q : Value → Shared → Prop} (hh : A.handled = none) (hv : s.heap.IsValuesView x d) (hm : s.heap.DictAt knd d vs ep) (hl : vs.length = ns.length) (hne : 0 < ns.length)
    (hi : ∀ (i : Nat) (k : K) (v : Value), vs[i]? = some (k, v) → ∃ t, v = .int (ns.getD i 0) t)
    (h : ∀ h' tk t', (∀ b o, s.heap.get? b = some o → h'.get? b = some o) → Q (.int (mxL ns) t') { s with heap := h', toks := tk }) : wpAny (model prog w) A (call (.builtin "max") [.ref x]) Q E s := by
  have hlt : d < s.heap.objs.size := by obtain ⟨_, _, e, _⟩ := hm; exact Heap.lt_size e
  refine max_walkI hne (wpAny_pyIter_values hv hm ?_)
  have W := Walks.dictValues (knd := knd) (A := A.in1) hh s.heap.objs.size d (Nat.ne_of_lt hlt) vs ep
  rw [hl] at W ⊢
  refine ⟨_, _, _, _, _, rfl, W, ⟨⟨_, Heap.get?_push_size _ rfl, rfl, rfl⟩, hm.push _⟩, fun b hb => ?_, fun i v e => ?_, fun h' tk t' hk => h h' tk t' (kept_push hk)⟩
  · show b < (s.heap.push _).objs.size
    rw [Heap.size_push]
    rcases List.mem_cons.mp hb with rfl | hb
    · exact Nat.lt_succ_self _
    · rcases List.mem_cons.mp hb with rfl | hb
      · exact Nat.lt_succ_of_lt hlt
      · cases hb
  · obtain ⟨k, e⟩ := e
    exact hi i k v e
theorem min_walkI {x : Value} {ns : List Int} {Q : Value → Shared → Prop} (hne : 0 < ns.length)
    (h : wpAny (model prog w) A.in1 (pyIter x) (fun it s₂ => ∃ I fp wr P St, it = .ref I ∧ Walks prog w A.in1 I fp wr ns.length P St ∧ St 0 s₂.heap ∧ (∀ b ∈ fp, b < s₂.heap.objs.size) ∧
      (∀ i v, P i v → ∃ t, v = .int (ns.getD i 0) t) ∧ ∀ h' tk t', (∀ b o, b ∉ wr → s₂.heap.get? b = some o → h'.get? b = some o) → Q (.int (mnL ns) t') { s₂ with heap := h', toks := tk }) E s) :
    wpAny (model prog w) A (call (.builtin "min") [x]) Q E s := by
  refine call_min_walk (wpAny_mono h (fun it s₂ ⟨I, fp, wr, P, Sx, e, W, h0, hfp, hv, hQ⟩ => ?_) fun _ _ e => e)
  refine ⟨I, fp, wr, ns.length, P, Sx, _, e, W, h0, hfp, hne, CmpOf.ints_lt (fun i => ns.getD i 0) hv, fun v h' tk hP hk => ?_⟩
  obtain ⟨t, rfl⟩ := hv _ _ hP
  obtain ⟨h1, h2⟩ := argBest_lt (fun i => ns.getD i 0) (ns.length - 1)
  have e : ns.getD (argBest (fun i j => decide (ns.getD i 0 < ns.getD j 0)) (ns.length - 1)) 0 = mnL ns := by
    refine mnL_of (getD_val (by omega)) fun y hy => ?_
    obtain ⟨j, hj, rfl⟩ := mem_getD hy
    exact h2 j (by omega)
  rw [e]
  exact hQ h' tk t hk
theorem min_tupI {a : Addr} {its : List Value} {ns : List Int} {Q : Value → Shared → Prop} (hh : A.handled = none) (ht : IsTup s.heap a its.toArray) (hi : IntsAre its ns) (hne : 0 < ns.length)
    (h : ∀ h' tk t', (∀ b o, s.heap.get? b = some o → h'.get? b = some o) → Q (.int (mnL ns) t') { s with heap := h', toks := tk }) : wpAny (model prog w) A (call (.builtin "min") [.ref a]) Q E s := by
  have hlt : a < s.heap.objs.size := by obtain ⟨_, e, _⟩ := ht; exact Heap.lt_size e
  have hT : s.heap.IsTuple a its.toArray := ht
  refine min_walkI hne (wpAny_pyIter_tuple hT ?_)
  have W := Walks.tuple (prog := prog) (w := w) (A := A.in1) hh s.heap.objs.size a (Nat.ne_of_lt hlt) its.toArray
  have hl : its.toArray.size = ns.length := by rw [List.size_toArray]; exact hi.length
  rw [hl] at W
  refine ⟨_, _, _, _, _, rfl, W, ⟨⟨_, Heap.get?_push_size _ rfl, rfl, rfl⟩, hT.push _⟩, fun b hb => ?_, fun i v e => ?_, fun h' tk t' hk => h h' tk t' (kept_push hk)⟩
  · show b < (s.heap.push _).objs.size
    rw [Heap.size_push]
    rcases List.mem_cons.mp hb with rfl | hb
    · exact Nat.lt_succ_self _
    · rcases List.mem_cons.mp hb with rfl | hb
      · exact Nat.lt_succ_of_lt hlt
      · cases hb
  · exact ints_at hi (by simpa using e)
theorem min_vals {K : Type} [DecidableEq K] {knd : KeyKind prog w K} {x d : Addr} {vs : List (K × Value)} {ns : List Int} {ep : Nat} {Q : Value → Shared → Prop} (hh : A.handled = none) (hv : s.heap.IsValuesView x d) (hm : s.heap.DictAt knd d vs ep) (hl : vs.length = ns.length) (hne : 0 < ns.length)
    (hi : ∀ (i : Nat) (k : K) (v : Value), vs[i]? = some (k, v) → ∃ t, v = .int (ns.getD i 0) t)
    (h : ∀ h' tk t', (∀ b o, s.heap.get? b = some o → h'.get? b = some o) → Q (.int (mnL ns) t') { s with heap := h', toks := tk }) : wpAny (model prog w) A (call (.builtin "min") [.ref x]) Q E s := by
  have hlt : d < s.heap.objs.size := by obtain ⟨_, _, e, _⟩ := hm; exact Heap.lt_size e
  refine min_walkI hne (wpAny_pyIter_values hv hm ?_)
  have W := Walks.dictValues (knd := knd) (A := A.in1) hh s.heap.objs.size d (Nat.ne_of_lt hlt) vs ep
  rw [hl] at W ⊢
  refine ⟨_, _, _, _, _, rfl, W, ⟨⟨_, Heap.get?_push_size _ rfl, rfl, rfl⟩, hm.push _⟩, fun b hb => ?_, fun i v e => ?_, fun h' tk t' hk => h h' tk t' (kept_push hk)⟩
  · show b < (s.heap.push _).objs.size
    rw [Heap.size_push]
    rcases List.mem_cons.mp hb with rfl | hb
    · exact Nat.lt_succ_self _
    · rcases List.mem_cons.mp hb with rfl | hb
      · exact Nat.lt_succ_of_lt hlt
      · cases hb
  · obtain ⟨k, e⟩ := e
    exact hi i k v e
end
section
variable {K : Frag} {W : WX} {X : Cx} {x : Str} {p pos pos' apos cpos : Pos} {a b c e o : Expr} {ta tb tc te td to ti : TE} {ma mb mc md me mo mi : ME} {es : List Expr} {t tk : TA} {m mk : MA} {j : Nat}
def intsKV : List (Key × Val) → Option (List Int) := fun l => intsOf (l.map (·.2))
def rMaxA (K : Frag) : List V → Hp → VK → Prop := fun xs H Q => ∃ (p : Addr) (ns : List Int), xs = [V.ref p] ∧ (SqL K H p (ns.map V.int) ∨ SqT K H p (ns.map V.int)) ∧ 0 < ns.length ∧ Q (.int (mxL ns)) H
theorem cr_maxA (hc : X.calm = true) : CallR X (.builtin "max") (rMaxA X.K) := by
  intro pins s σ H vs us Q I r h
  obtain ⟨a, ns, rfl, hs | hs, hne, q⟩ := h
  · obtain ⟨its, rv, hl, _⟩ := I.list hs
    rw [Vals.ref1 r]
    exact max_raw (I.ok.hd hc) hl.isList rv.ints hne fun h' tk m t' hk h1 h2 => ⟨.int _, H, I.kept hk, ⟨_, rfl⟩, by rw [mxL_of h1 h2]; exact q⟩
  · obtain ⟨its, rv, hl, _⟩ := I.tuple hs
    rw [Vals.ref1 r]
    exact max_tupI (I.ok.hd hc) hl rv.ints hne fun h' tk t' hk => ⟨.int _, H, I.kept hk, ⟨_, rfl⟩, q⟩
def maxM : List Val → Sto → Res Val
  | [v], st => (match (itemsOf st v).bind intsOf with
    | some (n :: ns) => .ok (.int (mxL (n :: ns))) st
    | _ => .bad)
  | _, _ => .bad
theorem snd_maxA : SndRs K (rMaxA K) maxM := by
  intro ρ st H vs xs Q E rs rx h
  unfold maxM at h
  split at h
  · split at h
    · rename_i n ns hn
      obtain ⟨l, h1, h2⟩ := Option.bind_eq_some_iff.mp hn
      obtain ⟨y, rfl, r1⟩ := RVs.inv1 rx
      obtain ⟨q, ys, rfl, sq, ry⟩ := items_of rs r1 h1
      obtain rfl := ints_rel ry h2
      exact ⟨q, n :: ns, rfl, sq, Nat.succ_pos _, h.ok .refl rs rfl⟩
    · exact h.elim
  · exact h.elim
theorem se_max1 (hc : X.calm = true) (hm : X.mg "max" = none) (ha : SA K W X (e :: es) t m) (hg : Gl X "max" := by rfl) (hK : X.K = K := by rfl)
    (he : starEach (e :: es) X.env = (false, eval e X.env) :: starEach es X.env := by rfl) (hpl : (backTo pos (starEach es X.env)).any (·.1) = false := by rfl) : SE K W X (.Call (.Name "max" p) (e :: es) [] pos) (tCB (rMaxA K) t) (mOps maxM m) := by
  subst hK
  exact ⟨pe_callB (cr_maxA hc) hg hm rfl ha.pa (by decide) (by decide) he hpl, snd_ops snd_maxA ha.sd⟩
def tMaxV (td : TE) : TE := fun σ H Q => td σ H fun x H1 => ∃ (d : Addr) (kvs : List (Key × V)) (ns : List Int), x = .ref d ∧ H1 d = some (.dK kvs) ∧ kvs.map (·.2) = ns.map V.int ∧ 0 < ns.length ∧ Q (.int (mxL ns)) H1
theorem pe_maxV (hc : X.calm = true) (hm : X.mg "max" = none) (he : PE X e td) (hg : Gl X "max" := by rfl) (hbase : attributeBase e "values" X.env (eval e X.env) = eval e X.env := by rfl) (hline : (apos.endLine == cpos.line) = true := by rfl)
    (hst : starEach [.Call (.Attribute e "values" apos) [] [] cpos] X.env = [(false, eval (.Call (.Attribute e "values" apos) [] [] cpos) X.env)] := by rfl) : PE X (.Call (.Name "max" p) [.Call (.Attribute e "values" apos) [] [] cpos] [] pos) (tMaxV td) := by
  refine ⟨fun pins s σ H Q I h => ?_⟩
  refine wpAny_Call_Name_kw (ld_blt I hg hm rfl ?_ (by decide) (by decide))
  refine PyProof.Rows.callWith_builtin1 ?_ hst rfl
  rw [hst]
  show wpAny _ _ (spliced ((false, eval (.Call (.Attribute e "values" apos) [] [] cpos) X.env) :: [])) _ _ s
  refine Calls.spliced_cons ?_
  refine wpAny_Call_method (T := "dict") (id := "dict.values") hbase rfl hline F.plainAttrs_dict F.slot_dict_values F.type_dict_values (thn (he.run pins s σ H _ I h) fun u s1 ⟨x, H1, I1, rx, d, kvs, ns, ex, hd, hn, h0, q⟩ => ?_)
  subst ex
  obtain rfl : u = Value.ref d := rx
  obtain ⟨z, hs, vs, kv, hm⟩ := dk_of I1.hok hd
  have hl : kvs.length = vs.length := Paired.length kv
  have hln : kvs.length = ns.length := by have := congrArg List.length hn; simpa using this
  refine ⟨hm.typeIs, hm.mapOf.noDict, ?_⟩
  have I2 : Inv X pins σ H1 { s1 with heap := s1.heap.push { cls := .type "dict_values", data := .fields #[.ref d] } } := I1.kept (t' := s1.toks) fun b ob q => Heap.get?_push_of_some _ q
  have hm2 : (s1.heap.push { cls := .type "dict_values", data := .fields #[.ref d] }).DictOf (mixKind X.prog X.w) d vs := hm.at fun o e => Heap.get?_push_of_some _ e
  have fin : wpAny (model X.prog X.w) X.A (spliced []) (fun us s2 => wpAny (model X.prog X.w) X.A (call (.builtin "max") (.ref s1.heap.objs.size :: us)) (EP X pins σ Q) X.xe s2) X.xe { s1 with heap := s1.heap.push { cls := .type "dict_values", data := .fields #[.ref d] } } := by
    refine Calls.spliced_nil ?_
    obtain ⟨ep, hm3⟩ : ∃ ep, (s1.heap.push { cls := .type "dict_values", data := .fields #[.ref d] }).DictAt (mixKind X.prog X.w) d vs ep := hm2.dictAt
    exact max_vals (I2.ok.hd hc) ⟨_, Heap.get?_push_size _ rfl, rfl, rfl⟩ hm3 (by omega) h0 (fun i k v e => kv_at kv hn e) fun h' tk t' hk => ⟨.int _, H1, I2.kept hk, ⟨_, rfl⟩, q⟩
  show wpAny _ _ (callWith cpos (.builtin "dict.values") [.ref d] [] []) _ X.xe s1
  exact method_meetsIn F.slot_dict_values F.entry_dict_values rfl (PySem.evalArgs_none ⟨rfl, hm.typeIs, F.args_dict_values_1 _, _, meets_dict_values (mixKind X.prog X.w) d hs, ⟨vs, hm⟩, fin⟩)
def maxVM (v : Val) (st : Sto) : Res Val := match (dkOf st v).bind intsKV with
  | some (n :: ns) => .ok (.int (mxL (n :: ns))) st
  | _ => .bad
theorem se_maxV (hc : X.calm = true) (hm : X.mg "max" = none) (he : SE K W X e td md) (hg : Gl X "max" := by rfl) (hbase : attributeBase e "values" X.env (eval e X.env) = eval e X.env := by rfl) (hline : (apos.endLine == cpos.line) = true := by rfl)
    (hst : starEach [.Call (.Attribute e "values" apos) [] [] cpos] X.env = [(false, eval (.Call (.Attribute e "values" apos) [] [] cpos) X.env)] := by rfl) : SE K W X (.Call (.Name "max" p) [.Call (.Attribute e "values" apos) [] [] cpos] [] pos) (tMaxV td) (mOp1 maxVM md) := by
  refine ⟨pe_maxV hc hm he.pe hg hbase hline hst, ?_⟩
  intro ρ st H σ τ Q rs re q
  refine he.sd ρ st H σ τ _ rs re (After.bind q fun v st1 ρ1 H1 x _ e1 rs1 rx h1 => ?_)
  unfold maxVM at h1
  split at h1
  · rename_i n ns hn
    obtain ⟨l, h2, h3⟩ := Option.bind_eq_some_iff.mp hn
    obtain ⟨p, kvs, rfl, hp, ek, rv⟩ := dk_rel rs1 rx h2
    exact ⟨p, kvs, n :: ns, rfl, hp, ints_rel rv h3, Nat.succ_pos _, h1.ok .refl rs1 rfl⟩
  · exact h1.elim
def rMinA (K : Frag) : List V → Hp → VK → Prop := fun xs H Q => ∃ (p : Addr) (ns : List Int), xs = [V.ref p] ∧ (SqL K H p (ns.map V.int) ∨ SqT K H p (ns.map V.int)) ∧ 0 < ns.length ∧ Q (.int (mnL ns)) H
theorem cr_minA (hc : X.calm = true) : CallR X (.builtin "min") (rMinA X.K) := by
  intro pins s σ H vs us Q I r h
  obtain ⟨a, ns, rfl, hs | hs, hne, q⟩ := h
  · obtain ⟨its, rv, hl, _⟩ := I.list hs
    rw [Vals.ref1 r]
    exact min_raw (I.ok.hd hc) hl.isList rv.ints hne fun h' tk m t' hk h1 h2 => ⟨.int _, H, I.kept hk, ⟨_, rfl⟩, by rw [mnL_of h1 h2]; exact q⟩
  · obtain ⟨its, rv, hl, _⟩ := I.tuple hs
    rw [Vals.ref1 r]
    exact min_tupI (I.ok.hd hc) hl rv.ints hne fun h' tk t' hk => ⟨.int _, H, I.kept hk, ⟨_, rfl⟩, q⟩
def minM : List Val → Sto → Res Val
  | [v], st => (match (itemsOf st v).bind intsOf with
    | some (n :: ns) => .ok (.int (mnL (n :: ns))) st
    | _ => .bad)
  | _, _ => .bad
theorem snd_minA : SndRs K (rMinA K) minM := by
  intro ρ st H vs xs Q E rs rx h
  unfold minM at h
  split at h
  · split at h
    · rename_i n ns hn
      obtain ⟨l, h1, h2⟩ := Option.bind_eq_some_iff.mp hn
      obtain ⟨y, rfl, r1⟩ := RVs.inv1 rx
      obtain ⟨q, ys, rfl, sq, ry⟩ := items_of rs r1 h1
      obtain rfl := ints_rel ry h2
      exact ⟨q, n :: ns, rfl, sq, Nat.succ_pos _, h.ok .refl rs rfl⟩
    · exact h.elim
  · exact h.elim
theorem se_min1 (hc : X.calm = true) (hm : X.mg "min" = none) (ha : SA K W X (e :: es) t m) (hg : Gl X "min" := by rfl) (hK : X.K = K := by rfl)
    (he : starEach (e :: es) X.env = (false, eval e X.env) :: starEach es X.env := by rfl) (hpl : (backTo pos (starEach es X.env)).any (·.1) = false := by rfl) : SE K W X (.Call (.Name "min" p) (e :: es) [] pos) (tCB (rMinA K) t) (mOps minM m) := by
  subst hK
  exact ⟨pe_callB (cr_minA hc) hg hm rfl ha.pa (by decide) (by decide) he hpl, snd_ops snd_minA ha.sd⟩
def tMinV (td : TE) : TE := fun σ H Q => td σ H fun x H1 => ∃ (d : Addr) (kvs : List (Key × V)) (ns : List Int), x = .ref d ∧ H1 d = some (.dK kvs) ∧ kvs.map (·.2) = ns.map V.int ∧ 0 < ns.length ∧ Q (.int (mnL ns)) H1
theorem pe_minV (hc : X.calm = true) (hm : X.mg "min" = none) (he : PE X e td) (hg : Gl X "min" := by rfl) (hbase : attributeBase e "values" X.env (eval e X.env) = eval e X.env := by rfl) (hline : (apos.endLine == cpos.line) = true := by rfl)
    (hst : starEach [.Call (.Attribute e "values" apos) [] [] cpos] X.env = [(false, eval (.Call (.Attribute e "values" apos) [] [] cpos) X.env)] := by rfl) : PE X (.Call (.Name "min" p) [.Call (.Attribute e "values" apos) [] [] cpos] [] pos) (tMinV td) := by
  refine ⟨fun pins s σ H Q I h => ?_⟩
  refine wpAny_Call_Name_kw (ld_blt I hg hm rfl ?_ (by decide) (by decide))
  refine PyProof.Rows.callWith_builtin1 ?_ hst rfl
  rw [hst]
  show wpAny _ _ (spliced ((false, eval (.Call (.Attribute e "values" apos) [] [] cpos) X.env) :: [])) _ _ s
  refine Calls.spliced_cons ?_
  refine wpAny_Call_method (T := "dict") (id := "dict.values") hbase rfl hline F.plainAttrs_dict F.slot_dict_values F.type_dict_values (thn (he.run pins s σ H _ I h) fun u s1 ⟨x, H1, I1, rx, d, kvs, ns, ex, hd, hn, h0, q⟩ => ?_)
  subst ex
  obtain rfl : u = Value.ref d := rx
  obtain ⟨z, hs, vs, kv, hm⟩ := dk_of I1.hok hd
  have hl : kvs.length = vs.length := Paired.length kv
  have hln : kvs.length = ns.length := by have := congrArg List.length hn; simpa using this
  refine ⟨hm.typeIs, hm.mapOf.noDict, ?_⟩
  have I2 : Inv X pins σ H1 { s1 with heap := s1.heap.push { cls := .type "dict_values", data := .fields #[.ref d] } } := I1.kept (t' := s1.toks) fun b ob q => Heap.get?_push_of_some _ q
  have hm2 : (s1.heap.push { cls := .type "dict_values", data := .fields #[.ref d] }).DictOf (mixKind X.prog X.w) d vs := hm.at fun o e => Heap.get?_push_of_some _ e
  have fin : wpAny (model X.prog X.w) X.A (spliced []) (fun us s2 => wpAny (model X.prog X.w) X.A (call (.builtin "min") (.ref s1.heap.objs.size :: us)) (EP X pins σ Q) X.xe s2) X.xe { s1 with heap := s1.heap.push { cls := .type "dict_values", data := .fields #[.ref d] } } := by
    refine Calls.spliced_nil ?_
    obtain ⟨ep, hm3⟩ : ∃ ep, (s1.heap.push { cls := .type "dict_values", data := .fields #[.ref d] }).DictAt (mixKind X.prog X.w) d vs ep := hm2.dictAt
    exact min_vals (I2.ok.hd hc) ⟨_, Heap.get?_push_size _ rfl, rfl, rfl⟩ hm3 (by omega) h0 (fun i k v e => kv_at kv hn e) fun h' tk t' hk => ⟨.int _, H1, I2.kept hk, ⟨_, rfl⟩, q⟩
  show wpAny _ _ (callWith cpos (.builtin "dict.values") [.ref d] [] []) _ X.xe s1
  exact method_meetsIn F.slot_dict_values F.entry_dict_values rfl (PySem.evalArgs_none ⟨rfl, hm.typeIs, F.args_dict_values_1 _, _, meets_dict_values (mixKind X.prog X.w) d hs, ⟨vs, hm⟩, fin⟩)
def minVM (v : Val) (st : Sto) : Res Val := match (dkOf st v).bind intsKV with
  | some (n :: ns) => .ok (.int (mnL (n :: ns))) st
  | _ => .bad
theorem se_minV (hc : X.calm = true) (hm : X.mg "min" = none) (he : SE K W X e td md) (hg : Gl X "min" := by rfl) (hbase : attributeBase e "values" X.env (eval e X.env) = eval e X.env := by rfl) (hline : (apos.endLine == cpos.line) = true := by rfl)
    (hst : starEach [.Call (.Attribute e "values" apos) [] [] cpos] X.env = [(false, eval (.Call (.Attribute e "values" apos) [] [] cpos) X.env)] := by rfl) : SE K W X (.Call (.Name "min" p) [.Call (.Attribute e "values" apos) [] [] cpos] [] pos) (tMinV td) (mOp1 minVM md) := by
  refine ⟨pe_minV hc hm he.pe hg hbase hline hst, ?_⟩
  intro ρ st H σ τ Q rs re q
  refine he.sd ρ st H σ τ _ rs re (After.bind q fun v st1 ρ1 H1 x _ e1 rs1 rx h1 => ?_)
  unfold minVM at h1
  split at h1
  · rename_i n ns hn
    obtain ⟨l, h2, h3⟩ := Option.bind_eq_some_iff.mp hn
    obtain ⟨p, kvs, rfl, hp, ek, rv⟩ := dk_rel rs1 rx h2
    exact ⟨p, kvs, n :: ns, rfl, hp, ints_rel rv h3, Nat.succ_pos _, h1.ok .refl rs1 rfl⟩
  · exact h1.elim
end
end L3
end

section
set_option Elab.async false
set_option linter.all false
set_option maxRecDepth 100000
set_option maxHeartbeats 400000
/-! L3t: name = {..: ..} on one line. -/
namespace L3
open PySem PySem.Spec PyProof.Rows L2
section
variable {X : Cx}
theorem sw_trueD {kx vx : Expr} {gs : List Comprehension} {scope : Scope} {pos py : Pos} {y : Str} {l : Nat} {env : PySem.Env} (hk : env.scope.kind = .function) (hy : env.scope.names.lookup y = some .local) (hl : (py.line == pos.line) = true)
    (ha : (scope.names.any fun (n, k) => n == y && (k == .local || k == .cell)) = false) : swapsWith (.DictComp kx vx gs scope pos) (some (.Name y py)) l env = pure true := by
  have ky : env.kindOf y = some .local := hy
  have hb : env.blockKind = .function := by unfold Env.blockKind; rw [hk]; rfl
  unfold swapsWith
  simp only [hb, ky, ha, Expr.pos, hl]
  rfl
theorem ps_setDc {i : Nat} {y : Str} {py : Pos} {kx vx tg iter : Expr} {ifs : List Expr} {scope : Scope} {own : List (Str × Nat)} {pos spos : Pos} {wi : TI} {g : TG} {tt : TT} {tk tv : TE} (hc : X.calm = true) (hN : X.N.Nodup) (hy : X.N[i]? = some y) (hyl : X.env.scope.names.lookup y = some .local)
    (hsw : swapsWith (.DictComp kx vx [⟨tg, iter, ifs, 0⟩] scope pos) (some (.Name y py)) spos.line X.env = pure true) (hi : PI X tg iter wi) (ok : BlkOk X.N X.env.scope scope own)
    (hg : ∀ (s : Shared) (H : Hp) (C : Addr) (cl : List (Str × Addr)) (fp : List Addr), PG (X.blk s H scope (compEnvC scope cl C X.env) fp) tg g) (ht : ∀ (s : Shared) (H : Hp) (C : Addr) (cl : List (Str × Addr)) (fp : List Addr), PTs (X.blk s H scope (compEnvC scope cl C X.env) fp) ifs tt)
    (hk : ∀ (s : Shared) (H : Hp) (C : Addr) (cl : List (Str × Addr)) (fp : List Addr), PE (X.blk s H scope (compEnvC scope cl C X.env) fp) kx tk)
    (he : ∀ (s : Shared) (H : Hp) (C : Addr) (cl : List (Str × Addr)) (fp : List Addr), PE (X.blk s H scope (compEnvC scope cl C X.env) fp) vx tv) (hs : ∀ x, foldedSetIterable iter X.env x = pure x := by intro _; rfl) :
    PS X (.Assign [.Name y py] (.DictComp kx vx [⟨tg, iter, ifs, 0⟩] scope pos) spos) (tAsg (tDc wi g tt tk tv (own.map (·.2))) (gName i)) := by
  refine ⟨fun pins s σ H D I h => ?_⟩
  rw [exec_Assign_Name_used _ _ _ _ hsw]
  refine wpAny_bind (wpAny_standAt (wpAny_bind ?_))
  show wpAny _ X.A (do let _ ← comprehension (.DictComp kx vx [⟨tg, iter, ifs, 0⟩] scope pos) scope X.env (firstIterPos [⟨tg, iter, ifs, 0⟩] pos) newDict false (eval iter X.env) (some (assign (.Name y py) X.env))) _ _ s
  have h : tDc wi g tt tk tv (own.map (·.2)) σ H (fun x H1 => gName i x σ H1 D.nx) := h
  refine wpAny_bind (thn (dc_core (Qf := fun _ s' => SP X pins D .next s') hc hN I hi ok hg ht hk he hs h fun L C s' m H' I' q hn f => ?_) fun _ s' hq => wpAny_pure (wpAny_pure hq))
  show wpAny _ _ (assign (.Name y py) X.env (.ref L)) _ _ _
  refine wpAny_assign_Name (store_ok2 (v := V.ref L) I' hN hy (.inl hyl) rfl (fun s2 I2 ⟨a, sb, ha⟩ => ?_) (.inr hyl))
  obtain ⟨f0, f1, f2, f3, f4, f5⟩ := f
  have haC : C ≠ a := by
    rcases ha with z | z
    · rw [z]; exact f1
    · exact fun e => f4 y a z e.symm
  refine ⟨m, hn.sameBut sb haC, fun h3 sb3 => ?_⟩
  exact ⟨_, H', I2.turned (t' := s2.toks) (fun b o hb e => (sb3.2 b hb).trans e) f0 f1 f3 f4 f5, q⟩
end
section
variable {K : Frag} {W : WX} {X : Cx} {pos spos py : Pos} {kx vx tg iter : Expr} {ifs : List Expr} {scope : Scope} {wi : TI} {mi : MI} {g : TG} {gm : MG} {tt : TT} {mt : MT} {tk tv : TE} {mk mv : ME}
theorem ss_setDc (i : Nat) (own : List (Str × Nat)) {y : Str} (hc : X.calm = true) (hN : X.N.Nodup) (hi : SI K W X tg iter wi mi) (ok : blkC X.N X.env.scope scope own = true)
    (hg : ∀ (s : Shared) (H : Hp) (C : Addr) (cl : List (Str × Addr)) (fp : List Addr), SGw K (X.blk s H scope (compEnvC scope cl C X.env) fp) (own.map (·.2)) tg g gm)
    (ht : ∀ (s : Shared) (H : Hp) (C : Addr) (cl : List (Str × Addr)) (fp : List Addr), SIf K (X.blk s H scope (compEnvC scope cl C X.env) fp) ifs tt mt)
    (hk : ∀ (s : Shared) (H : Hp) (C : Addr) (cl : List (Str × Addr)) (fp : List Addr), SE K (fun _ _ _ _ => False) (X.blk s H scope (compEnvC scope cl C X.env) fp) kx tk mk)
    (he : ∀ (s : Shared) (H : Hp) (C : Addr) (cl : List (Str × Addr)) (fp : List Addr), SE K (fun _ _ _ _ => False) (X.blk s H scope (compEnvC scope cl C X.env) fp) vx tv mv)
    (hy : X.N[i]? = some y := by rfl) (hyl : X.env.scope.names.lookup y = some .local := by rfl) (hsw : swapsWith (.DictComp kx vx [⟨tg, iter, ifs, 0⟩] scope pos) (some (.Name y py)) spos.line X.env = pure true := by exact sw_trueD rfl rfl rfl rfl)
    (hs : ∀ x, foldedSetIterable iter X.env x = pure x := by intro _; rfl) :
    SS K W X (.Assign [.Name y py] (.DictComp kx vx [⟨tg, iter, ifs, 0⟩] scope pos) spos) (tAsg (tDc wi g tt tk tv (own.map (·.2))) (gName i)) (mAsg (mDc mi gm mt mk mv (own.map (·.2))) (gN i)) :=
  ⟨ps_setDc hc hN hy hyl hsw hi.pi (blkOk_by ok) (fun s H C cl fp => (hg s H C cl fp).pg) (fun s H C cl fp => (ht s H C cl fp).pt) (fun s H C cl fp => (hk s H C cl fp).pe) (fun s H C cl fp => (he s H C cl fp).pe) hs,
    snd_asg (snd_dc hi.sd (hg {} (fun _ => none) 0 [] []).sd (ht {} (fun _ => none) 0 [] []).sd (hk {} (fun _ => none) 0 [] []).sd (he {} (fun _ => none) 0 [] []).sd) fun ρ st H σ τ v x Q E rs re rv h => h.ok .refl rs (re.set rv i)⟩
end
end L3
end

section
set_option Elab.async false
set_option linter.all false
set_option maxRecDepth 100000
set_option maxHeartbeats 400000
/-! L3u: zip of three lists or tuples. -/
namespace L3
open PySem PySem.Spec PyProof.Rows L2
def ends3 (n1 n2 n3 i : Nat) : Prop := i ≤ n1 ∧ i ≤ n2 ∧ i ≤ n3 ∧ (n1 = i ∨ n2 = i ∨ n3 = i)
/-- a, b and c: lists or tuples, the items in new triples -/
def Itz3 (K : Frag) (b1 b2 b3 : Bool) (a b c : Addr) : It :=
  ⟨fun i H => ∃ xs ys zs x y z, SqB K b1 H a xs ∧ SqB K b2 H b ys ∧ SqB K b3 H c zs ∧ xs[i]? = some x ∧ ys[i]? = some y ∧ zs[i]? = some z,
    fun i H v H' => ∃ T x y z, v = .ref T ∧ H T = none ∧ H' = upd H T (.tup [x, y, z]) ∧ (∀ xs, SqB K b1 H a xs → xs[i]? = some x) ∧ (∀ ys, SqB K b2 H b ys → ys[i]? = some y) ∧ ∀ zs, SqB K b3 H c zs → zs[i]? = some z,
    fun i H => ∃ xs ys zs, SqB K b1 H a xs ∧ SqB K b2 H b ys ∧ SqB K b3 H c zs ∧ ends3 xs.length ys.length zs.length i⟩
theorem turn_zip3 {P : Program} {w : World} {K : Frag} {elts : List Expr} {kk : Nat} {tpos : Pos} (b1 b2 b3 : Bool) {a b c z TI TO i1 i2 i3 : Addr} (S : ZipSep3 z TI TO i1 i2 i3 [i1, a] [i2, b] [i3, c]) (n1 : a ≠ i1) (n2 : b ≠ i2) (n3 : c ≠ i3) :
    Turn P w K (.Tuple elts kk tpos) (Itz3 K b1 b2 b3 a b c) [z, TI, TO, i1, i2, i3] z (fun i h => IsZip h z TI TO .none ∧ IsTupOf3 h TI (.ref i1) (.ref i2) (.ref i3) ∧ (∃ x y v, IsTupOf3 h TO x y v) ∧ ItB b1 h i1 a i ∧ ItB b2 h i2 b i ∧ ItB b3 h i3 c i) where
  mem := by simp
  obj := fun i h st d hc => by
    obtain ⟨hz, hTI, ⟨x, y, v, hTO⟩, h1, h2, h3⟩ := st
    rcases (by simpa using hc : d = z ∨ d = TI ∨ d = TO ∨ d = i1 ∨ d = i2 ∨ d = i3) with q | q | q | q | q | q <;> rw [q]
    · exact ⟨_, hz, fun v q => nomatch q⟩
    · exact ⟨_, hTI, fun v q => nomatch q⟩
    · exact ⟨_, hTO, fun v q => nomatch q⟩
    · exact h1.obj
    · exact h2.obj
    · exact h3.obj
  keep := fun i h h' st k => by
    obtain ⟨hz, hTI, ⟨x, y, v, hTO⟩, h1, h2, h3⟩ := st
    exact ⟨k z (by simp) _ hz, k TI (by simp) _ hTI, ⟨x, y, v, k TO (by simp) _ hTO⟩, h1.at fun o q => k i1 (by simp) o q, h2.at fun o q => k i2 (by simp) o q, h3.at fun o q => k i3 (by simp) o q⟩
  item := by
    intro X hP hw hK hc i pins s σ H E I hf st hg
    subst hP hw hK
    obtain ⟨hz, hTI, ⟨x0, y0, v0, hTO⟩, h1, h2, h3⟩ := st
    obtain ⟨xs, ys, zs, x, y, v, hqx, hqy, hqz, hx, hy, hv⟩ := hg
    obtain ⟨its, rv, p, la⟩ := sqB_at I hqx
    obtain ⟨its2, rv2, p2, lb⟩ := sqB_at I hqy
    obtain ⟨its3, rv3, p3, lc⟩ := sqB_at I hqz
    obtain ⟨u, hu, ru⟩ := rv.get hx
    obtain ⟨u2, hu2, ru2⟩ := rv2.get hy
    obtain ⟨u3, hu3, ru3⟩ := rv3.get hv
    have hzl : z < s.heap.objs.size := Heap.lt_size hz
    have hd : X.A.in1.handled = none := I.ok.hd hc
    have D1 := draws_b (prog := X.prog) (w := X.w) hd b1 i1 a n1 its.toArray
    have D2 := draws_b (prog := X.prog) (w := X.w) hd b2 i2 b n2 its2.toArray
    have D3 := draws_b (prog := X.prog) (w := X.w) hd b3 i3 c n3 its3.toArray
    have lt1 : i < its.toArray.size := by rw [List.size_toArray]; exact (List.getElem?_eq_some_iff.mp hu).1
    have lt2 : i < its2.toArray.size := by rw [List.size_toArray]; exact (List.getElem?_eq_some_iff.mp hu2).1
    have lt3 : i < its3.toArray.size := by rw [List.size_toArray]; exact (List.getElem?_eq_some_iff.mp hu3).1
    refine wpAny_pyNext_zipD3_item S D1 D2 D3 hz hTI hTO ⟨h1, p⟩ ⟨h2, p2⟩ ⟨h3, p3⟩ lt1 lt2 lt3 fun v1 v2 v3 h' tk w1 w2 w3 z' TO' t1 t2 t3 hT _ hk => ?_
    have e1 : v1 = u := by
      have q : its.toArray[i]? = some u := by simpa using hu
      rw [q] at w1
      exact (Option.some.inj w1).symm
    have e2 : v2 = u2 := by
      have q : its2.toArray[i]? = some u2 := by simpa using hu2
      rw [q] at w2
      exact (Option.some.inj w2).symm
    have e3 : v3 = u3 := by
      have q : its3.toArray[i]? = some u3 := by simpa using hu3
      rw [q] at w3
      exact (Option.some.inj w3).symm
    subst e1
    subst e2
    subst e3
    refine ⟨_, rfl, wpAny_letOwnedTupleGo_zip (s := { s with heap := h', toks := tk }) z' fun h'' z'' sb => ?_⟩
    have hT2 : IsTupOf3 h'' s.heap.objs.size v1 v2 v3 := sb.extBut _ _ (Nat.ne_of_gt hzl) hT
    have new : ObjOk X.prog X.w (upd H s.heap.objs.size (.tup [x, y, v])) h'' s.heap.objs.size (.tup [x, y, v]) := ⟨(by decide : 3 ≤ sizeLine), [v1, v2, v3], .cons ru (.cons ru2 (.cons ru3 .nil)), ⟨_, hT2, rfl, _, rfl⟩⟩
    have I1 : Inv X pins σ (upd H s.heap.objs.size (.tup [x, y, v])) { s with heap := h'', toks := tk } :=
      I.turnedNew (ch := [z, TI, TO, i1, i2, i3]) (fun c o hb q => sb.extBut _ _ (fun q' => hb (by simp [q'])) (hk c o (fun q' => hb (by simp [q'])) (fun q' => hb (by simp [q'])) (fun q' => hb (by simp [q'])) (fun q' => hb (by simp [q'])) (fun q' => hb (by simp [q'])) q)) hf (Nat.le_refl _) new
    refine ⟨.ref s.heap.objs.size, _, I1, rfl, ⟨_, x, y, v, rfl, I.hok.fresh (Nat.le_refl _), rfl, fun l hl => by rw [sqB_inj I hl hqx]; exact hx, fun l hl => by rw [sqB_inj I hl hqy]; exact hy, fun l hl => by rw [sqB_inj I hl hqz]; exact hv⟩, ⟨z'', ?_, ⟨v1, v2, v3, ?_⟩, ?_, ?_, ?_⟩, fun d hc => ?_⟩
    · exact sb.extBut _ _ S.TIz (hk _ _ S.TIz S.TITO S.TIi1 S.TIi2 S.TIi3 hTI)
    · exact sb.extBut _ _ S.TOz TO'
    · exact itB_same t1.1 sb (Ne.symm S.zi1)
    · exact itB_same t2.1 sb (Ne.symm S.zi2)
    · exact itB_same t3.1 sb (Ne.symm S.zi3)
    · have hlt : d < s.heap.objs.size := by
        rcases (by simpa using hc : d = z ∨ d = TI ∨ d = TO ∨ d = i1 ∨ d = i2 ∨ d = i3) with q | q | q | q | q | q <;> rw [q]
        · exact hzl
        · exact Heap.lt_size hTI
        · exact Heap.lt_size hTO
        · obtain ⟨_, e, _⟩ := h1.obj; exact Heap.lt_size e
        · obtain ⟨_, e, _⟩ := h2.obj; exact Heap.lt_size e
        · obtain ⟨_, e, _⟩ := h3.obj; exact Heap.lt_size e
      rw [upd_ne (Nat.ne_of_lt hlt)]
      exact (hf d hc).1
  done := by
    intro X hP hw hK hc i pins s σ H E I hf st hg
    subst hP hw hK
    obtain ⟨hz, hTI, ⟨x0, y0, v0, hTO⟩, h1, h2, h3⟩ := st
    obtain ⟨xs, ys, zs, hqx, hqy, hqz, he⟩ := hg
    obtain ⟨its, rv, p, _⟩ := sqB_at I hqx
    obtain ⟨its2, rv2, p2, _⟩ := sqB_at I hqy
    obtain ⟨its3, rv3, p3, _⟩ := sqB_at I hqz
    have hd : X.A.in1.handled = none := I.ok.hd hc
    have D1 := draws_b (prog := X.prog) (w := X.w) hd b1 i1 a n1 its.toArray
    have D2 := draws_b (prog := X.prog) (w := X.w) hd b2 i2 b n2 its2.toArray
    have D3 := draws_b (prog := X.prog) (w := X.w) hd b3 i3 c n3 its3.toArray
    obtain ⟨l1, l2, l3, l4⟩ := he
    rw [rv.length] at l1 l4
    rw [rv2.length] at l2 l4
    rw [rv3.length] at l3 l4
    refine wpAny_pyNext_zipD3_end S D1 D2 D3 hz hTI hTO ⟨h1, p⟩ ⟨h2, p2⟩ ⟨h3, p3⟩ (by rw [List.size_toArray]; exact l1) (by rw [List.size_toArray]; exact l2) (by rw [List.size_toArray]; exact l3) (by rw [List.size_toArray, List.size_toArray, List.size_toArray]; exact l4.imp Eq.symm fun h => h.imp Eq.symm Eq.symm) fun h' tk hk => ⟨rfl, ?_⟩
    exact I.turnedL (t' := tk) (ch := [z, TI, TO, i1, i2, i3]) (fun c o hb q => hk c o (fun q' => hb (by simp [q'])) (fun q' => hb (by simp [q'])) (fun q' => hb (by simp [q'])) (fun q' => hb (by simp [q'])) (fun q' => hb (by simp [q'])) q) hf
  self := fun A i s Q E st h => wpAny_pyIter_zip st.1 h
def iZip3 (K : Frag) (ta : TA) : TI := fun σ H R => ta σ H fun vs H1 => ∃ a b c b1 b2 b3 xs ys zs, vs = [.ref a, .ref b, .ref c] ∧ SqB K b1 H1 a xs ∧ SqB K b2 H1 b ys ∧ SqB K b3 H1 c zs ∧ R (Itz3 K b1 b2 b3 a b c) H1
section
variable {X : Cx} {pins : List (Addr × Obj)} {σ : L2.St} {H1 : Hp} {s1 : Shared} {R : It → Hp → Prop} {elts : List Expr} {kk : Nat} {tpos : Pos}
theorem zip3_run {vs : List V} {us : List Value} (I1 : Inv X pins σ H1 s1) (r1 : Vals vs us) (h : ∃ a b c b1 b2 b3 xs ys zs, vs = [.ref a, .ref b, .ref c] ∧ SqB X.K b1 H1 a xs ∧ SqB X.K b2 H1 b ys ∧ SqB X.K b3 H1 c zs ∧ R (Itz3 X.K b1 b2 b3 a b c) H1) :
    wpAny (model X.prog X.w) X.A (call (.type "zip") us) (fun v s => wpAny (model X.prog X.w) X.A (pyIter v) (PIE X pins σ (.Tuple elts kk tpos) R) X.xe s) X.xe s1 := by
  obtain ⟨a, b, c, b1, b2, b3, xs, ys, zs, ex, hqx, hqy, hqz, q⟩ := h
  subst ex
  obtain ⟨its, rv, p1, la⟩ := sqB_at I1 hqx
  obtain ⟨its2, rv2, p2, lb⟩ := sqB_at I1 hqy
  obtain ⟨its3, rv3, p3, lc⟩ := sqB_at I1 hqz
  cases r1 with
  | cons r rr =>
    cases rr with
    | cons r' rr =>
      cases rr with
      | cons r'' rr =>
        cases rr
        cases r
        cases r'
        cases r''
        refine zip_begins3 (begins_b b1 a its.toArray) (begins_b b2 b its2.toArray) (begins_b b3 c its3.toArray) p1 p2 p3 fun h' hz hTI hTO h1 h2 h3 _ hk => wpAny_pyIter_zip hz ?_
        have S : ZipSep3 (s1.heap.objs.size + 5) (s1.heap.objs.size + 3) (s1.heap.objs.size + 4) s1.heap.objs.size (s1.heap.objs.size + 1) (s1.heap.objs.size + 2) [s1.heap.objs.size, a] [s1.heap.objs.size + 1, b] [s1.heap.objs.size + 2, c] :=
          zip_sep3 (fun d hc => by rw [List.mem_singleton.mp hc]; exact la) (fun d hc => by rw [List.mem_singleton.mp hc]; exact lb) (fun d hc => by rw [List.mem_singleton.mp hc]; exact lc)
        refine ⟨s1.heap.objs.size + 5, [s1.heap.objs.size + 5, s1.heap.objs.size + 3, s1.heap.objs.size + 4, s1.heap.objs.size, s1.heap.objs.size + 1, s1.heap.objs.size + 2], _, _, H1, rfl, I1.kept (t' := s1.toks) hk, turn_zip3 b1 b2 b3 S (Nat.ne_of_lt la) (Nat.ne_of_lt (Nat.lt_succ_of_lt lb)) (Nat.ne_of_lt (Nat.lt_of_lt_of_le lc (Nat.le_add_right _ 2))), ⟨hz, hTI, ⟨_, _, _, hTO⟩, itB_new h1, itB_new h2, itB_new h3⟩, fun d hc => ?_, q⟩
        have hle : s1.heap.objs.size ≤ d := by
          rcases (by simpa using hc : d = s1.heap.objs.size + 5 ∨ d = s1.heap.objs.size + 3 ∨ d = s1.heap.objs.size + 4 ∨ d = s1.heap.objs.size ∨ d = s1.heap.objs.size + 1 ∨ d = s1.heap.objs.size + 2) with z | z | z | z | z | z <;> rw [z]
          · exact Nat.le_add_right _ _
          · exact Nat.le_add_right _ _
          · exact Nat.le_add_right _ _
          · exact Nat.le_refl _
          · exact Nat.le_add_right _ _
          · exact Nat.le_add_right _ _
        exact I1.fpOk hle (I1.hok.fresh hle)
end
theorem pi_zip3 {X : Cx} {e e2 e3 : Expr} {ta : TA} {p pos tpos : Pos} {elts : List Expr} {kk : Nat} (hg : Gl X "zip") (hm : X.mg "zip" = none) (ha : PA X [e, e2, e3] ta) (hs : starEach [e, e2, e3] X.env = (false, eval e X.env) :: starEach [e2, e3] X.env := by rfl) (hpl : (backTo pos (starEach [e2, e3] X.env)).any (·.1) = false := by rfl) :
    PI X (.Tuple elts kk tpos) (.Call (.Name "zip" p) [e, e2, e3] [] pos) (iZip3 X.K ta) :=
  ⟨fun pins s σ H R I h => Call_ (ld_blt I hg hm PyProof.Rows.boot_zip (PyProof.Rows.callWith_type1 (thn (ha.run pos pins s σ H _ I h) fun us s1 ⟨vs, H1, I1, r1, q1⟩ => zip3_run I1 r1 q1) hs hpl))⟩
def zipL3 (xs ys zs : List Val) : List Val := (xs.zip (ys.zip zs)).map fun p => Val.tup [p.1, p.2.1, p.2.2]
theorem src_zip3 {K : Frag} {ρ : Rho} {Hf : Hp} {b1 b2 b3 : Bool} {a b c : Addr} {l m n : List Val} {k1 k2 k3 : Sto → Prop}
    (h1 : ∀ (ρ1 : Rho) (st1 : Sto) (H1 : Hp), ρ.1 <+: ρ1.1 → Same Hf (Fz ρ1 st1 H1) → RS K ρ1 st1 H1 → k1 st1 → ∃ xs, SqB K b1 H1 a xs ∧ RVs K ρ1 (Fz ρ1 st1 H1) l xs)
    (h2 : ∀ (ρ1 : Rho) (st1 : Sto) (H1 : Hp), ρ.1 <+: ρ1.1 → Same Hf (Fz ρ1 st1 H1) → RS K ρ1 st1 H1 → k2 st1 → ∃ xs, SqB K b2 H1 b xs ∧ RVs K ρ1 (Fz ρ1 st1 H1) m xs)
    (h3 : ∀ (ρ1 : Rho) (st1 : Sto) (H1 : Hp), ρ.1 <+: ρ1.1 → Same Hf (Fz ρ1 st1 H1) → RS K ρ1 st1 H1 → k3 st1 → ∃ xs, SqB K b3 H1 c xs ∧ RVs K ρ1 (Fz ρ1 st1 H1) n xs) : Src K (Itz3 K b1 b2 b3 a b c) (zipL3 l m n) (fun st => k1 st ∧ k2 st ∧ k3 st) ρ Hf := by
  intro ρ1 st1 H1 e1 e2 rs kp i
  obtain ⟨xs, q1, r1⟩ := h1 ρ1 st1 H1 e1 e2 rs kp.1
  obtain ⟨ys, q2, r2⟩ := h2 ρ1 st1 H1 e1 e2 rs kp.2.1
  obtain ⟨zs, q3, r3⟩ := h3 ρ1 st1 H1 e1 e2 rs kp.2.2
  unfold zipL3
  refine ⟨fun v hv => ?_, fun hn => ?_⟩
  · rw [List.getElem?_map] at hv
    obtain ⟨⟨u1, u2, u3⟩, hu, rfl⟩ := Option.map_eq_some_iff.mp hv
    obtain ⟨hu1, hu23⟩ := List.getElem?_zip_eq_some.mp hu
    obtain ⟨hu2, hu3⟩ := List.getElem?_zip_eq_some.mp hu23
    obtain ⟨x, hx, rx⟩ := r1.get hu1
    obtain ⟨y, hy, ry⟩ := r2.get hu2
    obtain ⟨z, hz, rz⟩ := r3.get hu3
    refine ⟨⟨xs, ys, zs, x, y, z, q1, q2, q3, hx, hy, hz⟩, fun v' H' hh => ?_⟩
    obtain ⟨T, x', y', z', rfl, hT, rfl, ex, ey, ez⟩ := hh
    have e1 := ex _ q1
    rw [hx] at e1
    have e2 := ey _ q2
    rw [hy] at e2
    have e3 := ez _ q3
    rw [hz] at e3
    cases e1
    cases e2
    cases e3
    obtain ⟨f1, f2, f3⟩ := new_fz (o := .tup [x, y, z]) rs hT
    exact ⟨f1, f2, T, [x, y, z], rfl, .inl (.inl f3), x, [y, z], rfl, rx.mono f1.pre f1.fz, y, [z], rfl, ry.mono f1.pre f1.fz, z, [], rfl, rz.mono f1.pre f1.fz, rfl⟩
  · rw [List.length_map, List.length_zip, List.length_zip] at hn
    refine ⟨xs, ys, zs, q1, q2, q3, ?_⟩
    rw [← r1.length, ← r2.length, ← r3.length]
    unfold ends3
    omega
def iZp3 (ma : MA) : MI := fun σ st => (ma σ st).bind fun vs st1 => match vs with
  | [v, w, u] => (match itemsOf st1 v, itemsOf st1 w, itemsOf st1 u with
    | some l, some m, some n => .ok (zipL3 l m n, fun st => keepIt v l st ∧ keepIt w m st ∧ keepIt u n st) st1
    | _, _, _ => .bad)
  | _ => .bad
@[simp] theorem iZp3_s (ma : MA) {σ} {st} : iZp3 ma σ st = ((ma σ st).bind fun vs st1 => match vs with
  | [v, w, u] => (match itemsOf st1 v, itemsOf st1 w, itemsOf st1 u with
    | some l, some m, some n => .ok (zipL3 l m n, fun st => keepIt v l st ∧ keepIt w m st ∧ keepIt u n st) st1
    | _, _, _ => .bad)
  | _ => .bad) := rfl
section
variable {K : Frag} {W : WX} {X : Cx} {e e2 e3 : Expr} {ta : TA} {ma : MA} {p pos tpos : Pos} {elts : List Expr} {kk : Nat}
theorem snd_zip3 (h : SndA K W ta ma) : SndI K W (iZip3 K ta) (iZp3 ma) := by
  intro ρ st H σ τ R rs re q
  refine h ρ st H σ τ _ rs re (After.bind q fun vs st1 ρ1 H1 xs _ e1 rs1 rx h1 => ?_)
  split at h1
  · split at h1
    · rename_i hl hm hn
      obtain ⟨x, y1, rfl, r1, x2⟩ := rx
      obtain ⟨y, y2, rfl, r2, x3⟩ := x2
      obtain ⟨z, y3, rfl, r3, x4⟩ := x3
      cases (show _ = _ from x4)
      obtain ⟨a, b1, xs, rfl, sq, later⟩ := sq_later rs1 r1 hl
      obtain ⟨b, b2, ys, rfl, sq2, later2⟩ := sq_later rs1 r2 hm
      obtain ⟨c, b3, zs, rfl, sq3, later3⟩ := sq_later rs1 r3 hn
      exact ⟨a, b, c, b1, b2, b3, xs, ys, zs, rfl, sq, sq2, sq3, h1.ok .refl rs1 (src_zip3 (fun ρ1 st1 H1 a1 a2 a3 a4 => later ρ1 st1 H1 a1 a2 a3 (keepIt_of hl a4)) (fun ρ1 st1 H1 a1 a2 a3 a4 => later2 ρ1 st1 H1 a1 a2 a3 (keepIt_of hm a4)) (fun ρ1 st1 H1 a1 a2 a3 a4 => later3 ρ1 st1 H1 a1 a2 a3 (keepIt_of hn a4)))⟩
    · exact h1.elim
  · exact h1.elim
theorem si_zip3 (hg : Gl X "zip") (hm : X.mg "zip" = none) (h : SA K W X [e, e2, e3] ta ma) (hK : X.K = K := by rfl) (hs : starEach [e, e2, e3] X.env = (false, eval e X.env) :: starEach [e2, e3] X.env := by rfl) (hpl : (backTo pos (starEach [e2, e3] X.env)).any (·.1) = false := by rfl) :
    SI K W X (.Tuple elts kk tpos) (.Call (.Name "zip" p) [e, e2, e3] [] pos) (iZip3 K ta) (iZp3 ma) := by
  subst hK
  exact ⟨pi_zip3 hg hm h.pa hs hpl, snd_zip3 h.sd⟩
end
end L3
end

section
set_option Elab.async false
set_option linter.all false
set_option maxRecDepth 100000
set_option maxHeartbeats 400000
/-! L3x: x in t, x not in t, t a tuple of nested things. -/
namespace L3
open PySem PySem.Spec PyProof.Rows L2
def rInDT (K : Frag) : R2 := fun x y H Q => ∃ d ds, Dp K H x d ∧ Dp K H y (.tuple ds) ∧ SeqAt.shaped d = true ∧ SeqAt.shaped (.tuple ds) = true ∧ Q (.bl (ds.any fun z => PyData.eqv z d)) H
def rNotInDT (K : Frag) : R2 := fun x y H Q => ∃ d ds, Dp K H x d ∧ Dp K H y (.tuple ds) ∧ SeqAt.shaped d = true ∧ SeqAt.shaped (.tuple ds) = true ∧ Q (.bl (!ds.any fun z => PyData.eqv z d)) H
section
variable {X : Cx}
theorem op_inDT (hu : X.A.units + 65 < cLine) : OpR X (compareOp .In) (rInDT X.K) := by
  intro pins s σ H x y v u Q I rx ry h
  obtain ⟨d, ds, hd, he, sd, se, q⟩ := h
  obtain ⟨as, r1⟩ := Dp.reads I d x v hd rx
  obtain ⟨bs, r2⟩ := Dp.reads I (.tuple ds) y u he ry
  exact SeqAt.in_tuple_reads r2 r1 (SeqAt.canLay_of_shaped se) (SeqAt.canLay_of_shaped sd) (room_in_shaped sd hu) ⟨.bl _, H, I, rfl, q⟩
theorem op_notInDT (hu : X.A.units + 65 < cLine) : OpR X (compareOp .NotIn) (rNotInDT X.K) := by
  intro pins s σ H x y v u Q I rx ry h
  obtain ⟨d, ds, hd, he, sd, se, q⟩ := h
  obtain ⟨as, r1⟩ := Dp.reads I d x v hd rx
  obtain ⟨bs, r2⟩ := Dp.reads I (.tuple ds) y u he ry
  exact SeqAt.notIn_tuple_reads r2 r1 (SeqAt.canLay_of_shaped se) (SeqAt.canLay_of_shaped sd) (room_in_shaped sd hu) ⟨.bl _, H, I, rfl, q⟩
end
def inTW (st : Sto) (v w : Val) : Option Bool := match toDst st v, toDst st w with
  | some d, some (.tuple ds) => if (SeqAt.shaped d && SeqAt.shaped (.tuple ds)) = true then some (ds.any fun z => PyData.eqv z d) else none
  | _, _ => none
def inTM (v w : Val) (st : Sto) : Res Val := match inTW st v w with
  | some b => .ok (.bl b) st
  | none => .bad
def notInTM (v w : Val) (st : Sto) : Res Val := match inTW st v w with
  | some b => .ok (.bl (!b)) st
  | none => .bad
theorem inTW_of {K : Frag} {ρ : Rho} {st : Sto} {H : Hp} {v w : Val} {x y : V} {b : Bool} (rs : RS K ρ st H) (hx : RV K ρ (Fz ρ st H) v x) (hy : RV K ρ (Fz ρ st H) w y) (e : inTW st v w = some b) :
    ∃ d ds, Dp K H x d ∧ Dp K H y (.tuple ds) ∧ SeqAt.shaped d = true ∧ SeqAt.shaped (.tuple ds) = true ∧ (ds.any fun z => PyData.eqv z d) = b := by
  unfold inTW at e
  split at e
  · rename_i d ds h1 h2
    split at e
    · rename_i hs
      cases e
      have hs2 := Bool.and_eq_true_iff.mp hs
      exact ⟨d, ds, dpst_of rs hx h1, dpst_of rs hy h2, hs2.1, hs2.2, rfl⟩
    · cases e
  · cases e
section
variable {K : Frag} {W : WX} {X : Cx} {a b : Expr} {ta tb : TE} {ma mb : ME} {pos : Pos}
theorem snd_inT : SndR2 K (rInDT K) inTM := by
  intro ρ st H v w x y Q E rs rx ry h
  unfold inTM at h
  split at h
  · rename_i b q
    obtain ⟨d, f, h1, h2, h3, h4, h5⟩ := inTW_of rs rx ry q
    exact ⟨d, f, h1, h2, h3, h4, by rw [h5]; exact h.ok .refl rs rfl⟩
  · exact h.elim
theorem snd_notInT : SndR2 K (rNotInDT K) notInTM := by
  intro ρ st H v w x y Q E rs rx ry h
  unfold notInTM at h
  split at h
  · rename_i b q
    obtain ⟨d, f, h1, h2, h3, h4, h5⟩ := inTW_of rs rx ry q
    exact ⟨d, f, h1, h2, h3, h4, by rw [h5]; exact h.ok .refl rs rfl⟩
  · exact h.elim
theorem se_inT (ha : SE K W X a ta ma) (hb : SE K W X b tb mb) {k : Nat} (hr : Room k X.A) (hK : X.K = K := by rfl) (hm : behindInMarks .In b = false := by with_unfolding_all rfl) : SE K W X (.Compare a [.In] [b] pos) (tOp (rInDT K) ta tb) (mOp2 inTM ma mb) := by
  subst hK
  exact se_cmp (op_inDT (by have := hr.un; omega)) snd_inT ha hb hm
theorem se_notInT (ha : SE K W X a ta ma) (hb : SE K W X b tb mb) {k : Nat} (hr : Room k X.A) (hK : X.K = K := by rfl) (hm : behindInMarks .NotIn b = false := by with_unfolding_all rfl) : SE K W X (.Compare a [.NotIn] [b] pos) (tOp (rNotInDT K) ta tb) (mOp2 notInTM ma mb) := by
  subst hK
  exact se_cmp (op_notInDT (by have := hr.un; omega)) snd_notInT ha hb hm
theorem st_inT (ha : SE K W X a ta ma) (hb : SE K W X b tb mb) {k : Nat} (hr : Room k X.A) (hK : X.K = K := by rfl) (hm : behindInMarks .In b = false := by with_unfolding_all rfl) : ST K W X (.Compare a [.In] [b] pos) (L2.tB (tOp (rInDT K) ta tb)) (mTest (mOp2 inTM ma mb)) := by
  subst hK
  exact st_cmp (op_inDT (by have := hr.un; omega)) snd_inT ha hb hm
theorem st_notInT (ha : SE K W X a ta ma) (hb : SE K W X b tb mb) {k : Nat} (hr : Room k X.A) (hK : X.K = K := by rfl) (hm : behindInMarks .NotIn b = false := by with_unfolding_all rfl) : ST K W X (.Compare a [.NotIn] [b] pos) (L2.tB (tOp (rNotInDT K) ta tb)) (mTest (mOp2 notInTM ma mb)) := by
  subst hK
  exact st_cmp (op_notInDT (by have := hr.un; omega)) snd_notInT ha hb hm
end
end L3
end

section
set_option Elab.async false
set_option linter.all false
set_option maxRecDepth 100000
set_option maxHeartbeats 1000000
namespace K35
open PySem PySem.Spec PyProof.Rows L2 L3
def topS (i : Nat) : Stmt := PySem.Challenge.pw_nestloom_k35_whole_vectors_and_recurrenc.main.body.getD i (.Pass ⟨0, 0, 0, 0⟩)
section
variable {P : Program} {w : World} {K : Frag} {mg : Str → Option Value} {base : Heap}
abbrev c_OPS : Val := .tup [.str "add", .str "sub", .str "mul", .str "min", .str "max"]
abbrev c_FORM : Val := .tup [.str "form"]
/-- what the module's names are -/
structure Gs (K : Frag) (mg : Str → Option Value) : Prop where
  b_abs : mg "abs" = none
  b_all : mg "all" = none
  b_bool : mg "bool" = none
  b_dict : mg "dict" = none
  b_enumerate : mg "enumerate" = none
  b_int : mg "int" = none
  b_isinstance : mg "isinstance" = none
  b_len : mg "len" = none
  b_list : mg "list" = none
  b_max : mg "max" = none
  b_min : mg "min" = none
  b_range : mg "range" = none
  b_str : mg "str" = none
  b_sum : mg "sum" = none
  b_tuple : mg "tuple" = none
  b_zip : mg "zip" = none
  c_MOST_LOOPS : ∃ t, mg "MOST_LOOPS" = some (.int 3 t)
  c_MOST_COUNT : ∃ t, mg "MOST_COUNT" = some (.int 6 t)
  c_MOST_PARTS : ∃ t, mg "MOST_PARTS" = some (.int 15 t)
  c_MOST_VARIABLES : ∃ t, mg "MOST_VARIABLES" = some (.int 40 t)
  c_MOST_LETTERS : ∃ t, mg "MOST_LETTERS" = some (.int 6 t)
  c_MOST_SHIFT : ∃ t, mg "MOST_SHIFT" = some (.int 2 t)
  c_MOST_STEP : ∃ t, mg "MOST_STEP" = some (.int 5 t)
  c_MOST_VECTOR : ∃ t, mg "MOST_VECTOR" = some (.int 4 t)
  c_MOST_OFFSET : ∃ t, mg "MOST_OFFSET" = some (.int 99999 t)
  c_WORD : ∃ t, mg "WORD" = some (.int 65536 t)
  c_SMALL : ∃ t, mg "SMALL" = some (.str "abcdefghijklmnopqrstuvwxyz" t)
  c_FIGURES : ∃ t, mg "FIGURES" = some (.str "0123456789" t)
  t_OPS : ∃ a, mg "OPS" = some (.ref a) ∧ Fixed K c_OPS (.ref a)
  t_FORM : ∃ a, mg "FORM" = some (.ref a) ∧ Fixed K c_FORM (.ref a)
  d_is_whole : ∃ f fd, mg "is_whole" = some (.ref f) ∧ FunD K "is_whole" "is_whole" (defArgs (topS 18)) (defBody (topS 18)) (defScope (topS 18)) [] [] f fd
  d_is_word : ∃ f fd, mg "is_word" = some (.ref f) ∧ FunD K "is_word" "is_word" (defArgs (topS 19)) (defBody (topS 19)) (defScope (topS 19)) [] [] f fd
  d_is_of_signs : ∃ f fd, mg "is_of_signs" = some (.ref f) ∧ FunD K "is_of_signs" "is_of_signs" (defArgs (topS 20)) (defBody (topS 20)) (defScope (topS 20)) [] [] f fd
  d_is_name : ∃ f fd, mg "is_name" = some (.ref f) ∧ FunD K "is_name" "is_name" (defArgs (topS 21)) (defBody (topS 21)) (defScope (topS 21)) [] [] f fd
  d_is_variable_name : ∃ f fd, mg "is_variable_name" = some (.ref f) ∧ FunD K "is_variable_name" "is_variable_name" (defArgs (topS 22)) (defBody (topS 22)) (defScope (topS 22)) [] [] f fd
  d_is_tuple_of : ∃ f fd, mg "is_tuple_of" = some (.ref f) ∧ FunD K "is_tuple_of" "is_tuple_of" (defArgs (topS 23)) (defBody (topS 23)) (defScope (topS 23)) [] [] f fd
  d_is_subscripts : ∃ f fd, mg "is_subscripts" = some (.ref f) ∧ FunD K "is_subscripts" "is_subscripts" (defArgs (topS 24)) (defBody (topS 24)) (defScope (topS 24)) [] [("shifted", .bl true)] f fd
  d_leaves_of : ∃ f fd, mg "leaves_of" = some (.ref f) ∧ FunD K "leaves_of" "leaves_of" (defArgs (topS 25)) (defBody (topS 25)) (defScope (topS 25)) [] [] f fd
  d_need_counts : ∃ f fd, mg "need_counts" = some (.ref f) ∧ FunD K "need_counts" "need_counts" (defArgs (topS 26)) (defBody (topS 26)) (defScope (topS 26)) [] [] f fd
  d_is_step : ∃ f fd, mg "is_step" = some (.ref f) ∧ FunD K "is_step" "is_step" (defArgs (topS 28)) (defBody (topS 28)) (defScope (topS 28)) [] [] f fd
  d_is_leaf : ∃ f fd, mg "is_leaf" = some (.ref f) ∧ FunD K "is_leaf" "is_leaf" (defArgs (topS 29)) (defBody (topS 29)) (defScope (topS 29)) [] [] f fd
  d_is_variable : ∃ f fd, mg "is_variable" = some (.ref f) ∧ FunD K "is_variable" "is_variable" (defArgs (topS 30)) (defBody (topS 30)) (defScope (topS 30)) [] [] f fd
  d_uses_in : ∃ f fd, mg "uses_in" = some (.ref f) ∧ FunD K "uses_in" "uses_in" (defArgs (topS 31)) (defBody (topS 31)) (defScope (topS 31)) [] [] f fd
  d_need_recurrences : ∃ f fd, mg "need_recurrences" = some (.ref f) ∧ FunD K "need_recurrences" "need_recurrences" (defArgs (topS 32)) (defBody (topS 32)) (defScope (topS 32)) [] [] f fd
  d_is_row_of : ∃ f fd, mg "is_row_of" = some (.ref f) ∧ FunD K "is_row_of" "is_row_of" (defArgs (topS 35)) (defBody (topS 35)) (defScope (topS 35)) [] [] f fd
  d_summed : ∃ f fd, mg "summed" = some (.ref f) ∧ FunD K "summed" "summed" (defArgs (topS 36)) (defBody (topS 36)) (defScope (topS 36)) [] [] f fd
  d_needs_by : ∃ f fd, mg "needs_by" = some (.ref f) ∧ FunD K "needs_by" "needs_by" (defArgs (topS 37)) (defBody (topS 37)) (defScope (topS 37)) [] [] f fd
  d_needs_of : ∃ f fd, mg "needs_of" = some (.ref f) ∧ FunD K "needs_of" "needs_of" (defArgs (topS 38)) (defBody (topS 38)) (defScope (topS 38)) [] [] f fd
  d_is_vector : ∃ f fd, mg "is_vector" = some (.ref f) ∧ FunD K "is_vector" "is_vector" (defArgs (topS 39)) (defBody (topS 39)) (defScope (topS 39)) [] [] f fd
  d_is_schedule : ∃ f fd, mg "is_schedule" = some (.ref f) ∧ FunD K "is_schedule" "is_schedule" (defArgs (topS 40)) (defBody (topS 40)) (defScope (topS 40)) [] [] f fd
  d_lowest : ∃ f fd, mg "lowest" = some (.ref f) ∧ FunD K "lowest" "lowest" (defArgs (topS 41)) (defBody (topS 41)) (defScope (topS 41)) [] [] f fd
  d_highest : ∃ f fd, mg "highest" = some (.ref f) ∧ FunD K "highest" "highest" (defArgs (topS 42)) (defBody (topS 42)) (defScope (topS 42)) [] [] f fd
  d_wrong_place : ∃ f fd, mg "wrong_place" = some (.ref f) ∧ FunD K "wrong_place" "wrong_place" (defArgs (topS 43)) (defBody (topS 43)) (defScope (topS 43)) [] [] f fd
  d_need_schedule : ∃ f fd, mg "need_schedule" = some (.ref f) ∧ FunD K "need_schedule" "need_schedule" (defArgs (topS 44)) (defBody (topS 44)) (defScope (topS 44)) [] [] f fd
  d_is_legal : ∃ f fd, mg "is_legal" = some (.ref f) ∧ FunD K "is_legal" "is_legal" (defArgs (topS 45)) (defBody (topS 45)) (defScope (topS 45)) [] [] f fd
  d_length_of : ∃ f fd, mg "length_of" = some (.ref f) ∧ FunD K "length_of" "length_of" (defArgs (topS 46)) (defBody (topS 46)) (defScope (topS 46)) [] [] f fd
  d_moved_on : ∃ f fd, mg "moved_on" = some (.ref f) ∧ FunD K "moved_on" "moved_on" (defArgs (topS 47)) (defBody (topS 47)) (defScope (topS 47)) [] [] f fd
  d_earliest_by : ∃ f fd, mg "earliest_by" = some (.ref f) ∧ FunD K "earliest_by" "earliest_by" (defArgs (topS 48)) (defBody (topS 48)) (defScope (topS 48)) [] [] f fd
  d_earliest : ∃ f fd, mg "earliest" = some (.ref f) ∧ FunD K "earliest" "earliest" (defArgs (topS 49)) (defBody (topS 49)) (defScope (topS 49)) [] [] f fd
  d__law_drawn : ∃ f fd, mg "_law_drawn" = some (.ref f) ∧ FunD K "_law_drawn" "_law_drawn" (defArgs (topS 51)) (defBody (topS 51)) (defScope (topS 51)) [] [] f fd
  d__law_called : ∃ f fd, mg "_law_called" = some (.ref f) ∧ FunD K "_law_called" "_law_called" (defArgs (topS 52)) (defBody (topS 52)) (defScope (topS 52)) [] [] f fd
  d__law_step : ∃ f fd, mg "_law_step" = some (.ref f) ∧ FunD K "_law_step" "_law_step" (defArgs (topS 53)) (defBody (topS 53)) (defScope (topS 53)) [] [] f fd
  d__law_use : ∃ f fd, mg "_law_use" = some (.ref f) ∧ FunD K "_law_use" "_law_use" (defArgs (topS 54)) (defBody (topS 54)) (defScope (topS 54)) [] [] f fd
  d__law_body : ∃ f fd, mg "_law_body" = some (.ref f) ∧ FunD K "_law_body" "_law_body" (defArgs (topS 55)) (defBody (topS 55)) (defScope (topS 55)) [] [] f fd
  d__law_made : ∃ f fd, mg "_law_made" = some (.ref f) ∧ FunD K "_law_made" "_law_made" (defArgs (topS 56)) (defBody (topS 56)) (defScope (topS 56)) [] [] f fd
  d__law_vector : ∃ f fd, mg "_law_vector" = some (.ref f) ∧ FunD K "_law_vector" "_law_vector" (defArgs (topS 57)) (defBody (topS 57)) (defScope (topS 57)) [] [] f fd
  d__law_shuffled : ∃ f fd, mg "_law_shuffled" = some (.ref f) ∧ FunD K "_law_shuffled" "_law_shuffled" (defArgs (topS 58)) (defBody (topS 58)) (defScope (topS 58)) [] [] f fd
  d__law_turned_body : ∃ f fd, mg "_law_turned_body" = some (.ref f) ∧ FunD K "_law_turned_body" "_law_turned_body" (defArgs (topS 59)) (defBody (topS 59)) (defScope (topS 59)) [] [] f fd
  d__law_turned : ∃ f fd, mg "_law_turned" = some (.ref f) ∧ FunD K "_law_turned" "_law_turned" (defArgs (topS 60)) (defBody (topS 60)) (defScope (topS 60)) [] [] f fd
  d__law_turned_right : ∃ f fd, mg "_law_turned_right" = some (.ref f) ∧ FunD K "_law_turned_right" "_law_turned_right" (defArgs (topS 61)) (defBody (topS 61)) (defScope (topS 61)) [] [] f fd
  d__law_sum_right : ∃ f fd, mg "_law_sum_right" = some (.ref f) ∧ FunD K "_law_sum_right" "_law_sum_right" (defArgs (topS 62)) (defBody (topS 62)) (defScope (topS 62)) [] [] f fd
  d__law_more_right : ∃ f fd, mg "_law_more_right" = some (.ref f) ∧ FunD K "_law_more_right" "_law_more_right" (defArgs (topS 63)) (defBody (topS 63)) (defScope (topS 63)) [] [] f fd
  d_law : ∃ f fd, mg "law" = some (.ref f) ∧ FunD K "law" "law" (defArgs (topS 64)) (defBody (topS 64)) (defScope (topS 64)) [] [] f fd
/-! is_whole -/
theorem sc_is_whole : FnScope ["thing", "least", "most"] ["thing", "least", "most"] (defScope (topS 18)) := ⟨rfl, rfl, rfl, by decide +kernel, rfl, by decide +kernel, by decide +kernel⟩
noncomputable def m_is_whole (w : World) : MSt := (mRet (mAndV (mOps isiM (aCons (mVar 0) (aCons (mVal (.ty "int")) aNil))) (mAndV (mNotV (mOps isiM (aCons (mVar 0) (aCons (mVal (.ty "bool")) aNil)))) (mChainLe (mVar 1) (mVar 0) (mVar 2)))))
noncomputable def F_is_whole (w : World) : List Val → Sto → Res Val := runB (m_is_whole w) 3 3
theorem fg_is_whole (G : Gs K mg) {f : Addr} {fd : FuncData} (D : FunD K "is_whole" "is_whole" (defArgs (topS 18)) (defBody (topS 18)) (defScope (topS 18)) [] [] f fd) : FnG P w K mg base 1 f fd ["thing", "least", "most"] (spF K (F_is_whole w)) := by
  have sc := sc_is_whole
  exact fnG_mk (m := m_is_whole w) (N := ["thing", "least", "most"]) (k := 0) D sc_is_whole fun cd A fs s H E hr hgd tk hp => ⟨_, (sss_one (ss_ret (se_and (se_isi G.b_isinstance (sa_cons (se_var 0) (sa_cons (se_ty G.b_int rfl rfl) sa_nil))) (se_and (se_not (se_isi G.b_isinstance (sa_cons (se_var 0) (sa_cons (se_ty G.b_bool rfl rfl) sa_nil)))) (se_one (se_chainLe (se_var 1) (se_var 0) (se_var 2)))))))⟩
theorem cal_is_whole (G : Gs K mg) : Cal P w K mg base 1 "is_whole" [] (F_is_whole w) := by
  obtain ⟨f, fd, hm, D⟩ := G.d_is_whole
  exact ⟨f, fd, ["thing", "least", "most"], [], [], hm, D.kp, (fg_is_whole G D), D.bindsN (fun _ _ _ _ _ _ us hl => match us, hl with | [_, _, _], _ => rfl), .nil, rfl⟩
/-! is_word -/
theorem sc_is_word : FnScope ["thing"] ["thing"] (defScope (topS 19)) := ⟨rfl, rfl, rfl, by decide +kernel, rfl, by decide +kernel, by decide +kernel⟩
noncomputable def m_is_word (w : World) : MSt := (mRet (mCall (F_is_whole w) [] (aCons (mVar 0) (aCons (mVal (.int 0)) (aCons (mOp2 subV (mVal (.int 65536)) (mVal (.int 1))) aNil)))))
noncomputable def F_is_word (w : World) : List Val → Sto → Res Val := runB (m_is_word w) 1 1
theorem fg_is_word (G : Gs K mg) {f : Addr} {fd : FuncData} (D : FunD K "is_word" "is_word" (defArgs (topS 19)) (defBody (topS 19)) (defScope (topS 19)) [] [] f fd) : FnG P w K mg base 2 f fd ["thing"] (spF K (F_is_word w)) := by
  have sc := sc_is_word
  exact fnG_mk (m := m_is_word w) (N := ["thing"]) (k := 1) D sc_is_word fun cd A fs s H E hr hgd tk hp => ⟨_, (sss_one (ss_ret (se_call (cal_is_whole G) rfl hr (by decide) hgd tk rfl (sa_cons (se_var 0) (sa_cons se_int (sa_cons (se_sub (se_gint G.c_WORD rfl) se_int) sa_nil))))))⟩
theorem cal_is_word (G : Gs K mg) : Cal P w K mg base 2 "is_word" [] (F_is_word w) := by
  obtain ⟨f, fd, hm, D⟩ := G.d_is_word
  exact ⟨f, fd, ["thing"], [], [], hm, D.kp, (fg_is_word G D), D.bindsN (fun _ _ _ _ _ _ us hl => match us, hl with | [_], _ => rfl), .nil, rfl⟩
/-! is_of_signs -/
theorem sc_is_of_signs : FnScope ["thing", "signs", "sign"] ["thing", "signs"] (defScope (topS 20)) := ⟨rfl, rfl, rfl, by decide +kernel, rfl, by decide +kernel, by decide +kernel⟩
noncomputable def m_is_of_signs (w : World) : MSt := (mRet (mAndV (mOps isiM (aCons (mVar 0) (aCons (mVal (.ty "str")) aNil))) (mAndV (mChainLe (mVal (.int 1)) (mOps lenM (aCons (mVar 0) aNil)) (mVal (.int 6))) (mOps allM (aCons (mLc (iStrM (mVar 0)) (gN 2) mYes (mOp2 inM (mVar 2) (mVar 1)) [2]) aNil)))))
noncomputable def F_is_of_signs (w : World) : List Val → Sto → Res Val := runB (m_is_of_signs w) 3 2
theorem fg_is_of_signs (G : Gs K mg) {f : Addr} {fd : FuncData} (D : FunD K "is_of_signs" "is_of_signs" (defArgs (topS 20)) (defBody (topS 20)) (defScope (topS 20)) [] [] f fd) : FnG P w K mg base 1 f fd ["thing", "signs"] (spF K (F_is_of_signs w)) := by
  have sc := sc_is_of_signs
  exact fnG_mk (m := m_is_of_signs w) (N := ["thing", "signs", "sign"]) (k := 0) D sc_is_of_signs fun cd A fs s H E hr hgd tk hp => ⟨_, (sss_one (ss_ret (se_and (se_isi G.b_isinstance (sa_cons (se_var 0) (sa_cons (se_ty G.b_str rfl rfl) sa_nil))) (se_and (se_chainLe se_int (se_len G.b_len (sa_cons (se_var 0) sa_nil)) (se_gint G.c_MOST_LETTERS rfl)) (se_one (se_all rfl G.b_all (sa_cons (se_lc [("sign", 2)] rfl sc.nd (si_str (se_var 0)) rfl (fun _ _ _ _ _ => (sgw_name 2 sc.nd)) (fun _ _ _ _ _ => sif_nil) (fun _ _ _ _ _ => (se_in (se_var 2) (se_var 1) hr))) sa_nil)))))))⟩
theorem cal_is_of_signs (G : Gs K mg) : Cal P w K mg base 1 "is_of_signs" [] (F_is_of_signs w) := by
  obtain ⟨f, fd, hm, D⟩ := G.d_is_of_signs
  exact ⟨f, fd, ["thing", "signs"], [], [], hm, D.kp, (fg_is_of_signs G D), D.bindsN (fun _ _ _ _ _ _ us hl => match us, hl with | [_, _], _ => rfl), .nil, rfl⟩
/-! is_name -/
theorem sc_is_name : FnScope ["thing"] ["thing"] (defScope (topS 21)) := ⟨rfl, rfl, rfl, by decide +kernel, rfl, by decide +kernel, by decide +kernel⟩
noncomputable def m_is_name (w : World) : MSt := (mRet (mCall (F_is_of_signs w) [] (aCons (mVar 0) (aCons (mVal (.str "abcdefghijklmnopqrstuvwxyz")) aNil))))
noncomputable def F_is_name (w : World) : List Val → Sto → Res Val := runB (m_is_name w) 1 1
theorem fg_is_name (G : Gs K mg) {f : Addr} {fd : FuncData} (D : FunD K "is_name" "is_name" (defArgs (topS 21)) (defBody (topS 21)) (defScope (topS 21)) [] [] f fd) : FnG P w K mg base 2 f fd ["thing"] (spF K (F_is_name w)) := by
  have sc := sc_is_name
  exact fnG_mk (m := m_is_name w) (N := ["thing"]) (k := 1) D sc_is_name fun cd A fs s H E hr hgd tk hp => ⟨_, (sss_one (ss_ret (se_call (cal_is_of_signs G) rfl hr (by decide) hgd tk rfl (sa_cons (se_var 0) (sa_cons (se_gstr G.c_SMALL rfl) sa_nil)))))⟩
theorem cal_is_name (G : Gs K mg) : Cal P w K mg base 2 "is_name" [] (F_is_name w) := by
  obtain ⟨f, fd, hm, D⟩ := G.d_is_name
  exact ⟨f, fd, ["thing"], [], [], hm, D.kp, (fg_is_name G D), D.bindsN (fun _ _ _ _ _ _ us hl => match us, hl with | [_], _ => rfl), .nil, rfl⟩
/-! is_variable_name -/
theorem sc_is_variable_name : FnScope ["thing"] ["thing"] (defScope (topS 22)) := ⟨rfl, rfl, rfl, by decide +kernel, rfl, by decide +kernel, by decide +kernel⟩
noncomputable def m_is_variable_name (w : World) : MSt := (mRet (mAndV (mCall (F_is_of_signs w) [] (aCons (mVar 0) (aCons (mOp2 addV (mVal (.str "abcdefghijklmnopqrstuvwxyz")) (mVal (.str "0123456789"))) aNil))) (mOp2 inM (mOp2 getM (mVar 0) (mVal (.int 0))) (mVal (.str "abcdefghijklmnopqrstuvwxyz")))))
noncomputable def F_is_variable_name (w : World) : List Val → Sto → Res Val := runB (m_is_variable_name w) 1 1
theorem fg_is_variable_name (G : Gs K mg) {f : Addr} {fd : FuncData} (D : FunD K "is_variable_name" "is_variable_name" (defArgs (topS 22)) (defBody (topS 22)) (defScope (topS 22)) [] [] f fd) : FnG P w K mg base 2 f fd ["thing"] (spF K (F_is_variable_name w)) := by
  have sc := sc_is_variable_name
  exact fnG_mk (m := m_is_variable_name w) (N := ["thing"]) (k := 1) D sc_is_variable_name fun cd A fs s H E hr hgd tk hp => ⟨_, (sss_one (ss_ret (se_and (se_call (cal_is_of_signs G) rfl hr (by decide) hgd tk rfl (sa_cons (se_var 0) (sa_cons (se_add (se_gstr G.c_SMALL rfl) (se_gstr G.c_FIGURES rfl)) sa_nil))) (se_one (se_in (se_ix (se_var 0) se_int) (se_gstr G.c_SMALL rfl) hr)))))⟩
theorem cal_is_variable_name (G : Gs K mg) : Cal P w K mg base 2 "is_variable_name" [] (F_is_variable_name w) := by
  obtain ⟨f, fd, hm, D⟩ := G.d_is_variable_name
  exact ⟨f, fd, ["thing"], [], [], hm, D.kp, (fg_is_variable_name G D), D.bindsN (fun _ _ _ _ _ _ us hl => match us, hl with | [_], _ => rfl), .nil, rfl⟩
/-! is_tuple_of -/
theorem sc_is_tuple_of : FnScope ["thing", "least", "most"] ["thing", "least", "most"] (defScope (topS 23)) := ⟨rfl, rfl, rfl, by decide +kernel, rfl, by decide +kernel, by decide +kernel⟩
noncomputable def m_is_tuple_of (w : World) : MSt := (mRet (mAndV (mOps isiM (aCons (mVar 0) (aCons (mVal (.ty "tuple")) aNil))) (mChainLe (mVar 1) (mOps lenM (aCons (mVar 0) aNil)) (mVar 2))))
noncomputable def F_is_tuple_of (w : World) : List Val → Sto → Res Val := runB (m_is_tuple_of w) 3 3
theorem fg_is_tuple_of (G : Gs K mg) {f : Addr} {fd : FuncData} (D : FunD K "is_tuple_of" "is_tuple_of" (defArgs (topS 23)) (defBody (topS 23)) (defScope (topS 23)) [] [] f fd) : FnG P w K mg base 1 f fd ["thing", "least", "most"] (spF K (F_is_tuple_of w)) := by
  have sc := sc_is_tuple_of
  exact fnG_mk (m := m_is_tuple_of w) (N := ["thing", "least", "most"]) (k := 0) D sc_is_tuple_of fun cd A fs s H E hr hgd tk hp => ⟨_, (sss_one (ss_ret (se_and (se_isi G.b_isinstance (sa_cons (se_var 0) (sa_cons (se_ty G.b_tuple rfl rfl) sa_nil))) (se_one (se_chainLe (se_var 1) (se_len G.b_len (sa_cons (se_var 0) sa_nil)) (se_var 2))))))⟩
theorem cal_is_tuple_of (G : Gs K mg) : Cal P w K mg base 1 "is_tuple_of" [] (F_is_tuple_of w) := by
  obtain ⟨f, fd, hm, D⟩ := G.d_is_tuple_of
  exact ⟨f, fd, ["thing", "least", "most"], [], [], hm, D.kp, (fg_is_tuple_of G D), D.bindsN (fun _ _ _ _ _ _ us hl => match us, hl with | [_, _, _], _ => rfl), .nil, rfl⟩
/-! is_subscripts -/
theorem sc_is_subscripts : FnScope ["thing", "loops", "shifted", "pair", "most", "loop", "shift"] ["thing", "loops", "shifted"] (defScope (topS 24)) := ⟨rfl, rfl, rfl, by decide +kernel, rfl, by decide +kernel, by decide +kernel⟩
noncomputable def m_is_subscripts (w : World) : MSt := (mSeq (mIfS (mOrT (mNotT (mTest (mCall (F_is_tuple_of w) [] (aCons (mVar 0) (aCons (mOp2 subV (mVar 1) (mVal (.int 1))) (aCons (mVar 1) aNil)))))) (mNotT (mTest (mOps allM (aCons (mLc (iSq (mVar 0)) (gN 3) mYes (mCall (F_is_tuple_of w) [] (aCons (mVar 3) (aCons (mVal (.int 2)) (aCons (mVal (.int 2)) aNil)))) [3]) aNil))))) (mRet (mVal (.bl false))) mNext)
  (mSeq (mAsg (mIf (mTest (mVar 2)) (mVal (.int 2)) (mVal (.int 0))) (gN 4))
  (mSeq (mIfS (mNotT (mTest (mOps allM (aCons (mLc (iSq (mVar 0)) (gT 2 (gsCons (gN 5) (gsCons (gN 6) gsNil))) mYes (mAndV (mCall (F_is_whole w) [] (aCons (mVar 5) (aCons (mVal (.int 0)) (aCons (mOp2 subV (mVar 1) (mVal (.int 1))) aNil)))) (mCall (F_is_whole w) [] (aCons (mVar 6) (aCons (mOp1 negV (mVar 4)) (aCons (mVar 4) aNil))))) [5, 6]) aNil)))) (mRet (mVal (.bl false))) mNext)
  (mRet (mOp2 eqM (mLenSc (iSq (mVar 0)) (gT 2 (gsCons (gN 5) (gsCons (gN 6) gsNil))) mYes (mVar 5) [5, 6]) (mOps lenM (aCons (mVar 0) aNil)))))))
noncomputable def F_is_subscripts (w : World) : List Val → Sto → Res Val := runB (m_is_subscripts w) 7 3
theorem fg_is_subscripts (G : Gs K mg) {f : Addr} {fd : FuncData} (D : FunD K "is_subscripts" "is_subscripts" (defArgs (topS 24)) (defBody (topS 24)) (defScope (topS 24)) [] [("shifted", .bl true)] f fd) : FnG P w K mg base 2 f fd ["thing", "loops", "shifted"] (spF K (F_is_subscripts w)) := by
  have sc := sc_is_subscripts
  exact fnG_mk (m := m_is_subscripts w) (N := ["thing", "loops", "shifted", "pair", "most", "loop", "shift"]) (k := 1) D sc_is_subscripts fun cd A fs s H E hr hgd tk hp => ⟨_, (sss_cons (ss_if (SW.st (sw_or (st_not (st_val (se_call (cal_is_tuple_of G) rfl hr (by decide) hgd tk rfl (sa_cons (se_var 0) (sa_cons (se_sub (se_var 1) se_int) (sa_cons (se_var 1) sa_nil)))))) (sw_or1 (st_not (st_val (se_all rfl G.b_all (sa_cons (se_lc [("pair", 3)] rfl sc.nd (si_seq (se_var 0)) rfl (fun _ _ _ _ _ => (sgw_name 3 sc.nd)) (fun _ _ _ _ _ => sif_nil) (fun _ _ _ _ _ => (se_call (cal_is_tuple_of G) rfl hr (by decide) hgd takesF rfl (sa_cons (se_var 3) (sa_cons se_int (sa_cons se_int sa_nil)))))) sa_nil))))))) (sss_one (ss_ret se_bl)) sss_nil)
  (sss_cons (ss_set 4 sc.nd (se_if (st_val (se_var 2)) (se_gint G.c_MOST_SHIFT rfl) se_int))
  (sss_cons (ss_if (st_not (st_val (se_all rfl G.b_all (sa_cons (se_lc [("loop", 5), ("shift", 6)] rfl sc.nd (si_seq (se_var 0)) rfl (fun _ _ _ _ _ => (sgw_tup rfl (sgsw_cons (sgw_name 5 sc.nd) (sgsw_cons (sgw_name 6 sc.nd) sgsw_nil)))) (fun _ _ _ _ _ => sif_nil) (fun _ _ _ _ _ => (se_and (se_call (cal_is_whole G) rfl hr (by decide) hgd takesF rfl (sa_cons (se_var 5) (sa_cons se_int (sa_cons (se_sub (se_var 1) se_int) sa_nil)))) (se_one (se_call (cal_is_whole G) rfl hr (by decide) hgd takesF rfl (sa_cons (se_var 6) (sa_cons (se_neg (se_var 4)) (sa_cons (se_var 4) sa_nil)))))))) sa_nil)))) (sss_one (ss_ret se_bl)) sss_nil)
  (sss_one (ss_ret (se_eq (se_lenSc [("loop", 5), ("shift", 6)] rfl sc.nd rfl G.b_len (si_seq (se_var 0)) rfl (fun _ _ _ _ _ => (sgw_tup rfl (sgsw_cons (sgw_name 5 sc.nd) (sgsw_cons (sgw_name 6 sc.nd) sgsw_nil)))) (fun _ _ _ _ _ => sif_nil) (fun _ _ _ _ _ => (se_var 5))) (se_len G.b_len (sa_cons (se_var 0) sa_nil)) hr))))))⟩
theorem cal_is_subscripts (G : Gs K mg) : Cal P w K mg base 2 "is_subscripts" [.bl true] (F_is_subscripts w) := by
  obtain ⟨f, fd, hm, D⟩ := G.d_is_subscripts
  obtain ⟨ds, rd, bd⟩ := D.binds0 (ps := ["thing", "loops", "shifted"]) 2 (by decide) rfl (fun D doc pm an cdv ct us ks h1 h2 => match us, ks, h1, h2 with | [_, _], [_], _, _ => ⟨_, _, _, _, _, _, rfl, rfl, rfl⟩)
  exact ⟨f, fd, ["thing", "loops", "shifted"], ds, [.bl true], hm, D.kp, (fg_is_subscripts G D), bd, rd, ⟨_, _, rfl, rfl, rfl⟩⟩
/-! leaves_of -/
theorem sc_leaves_of : FnScope ["thing", "found", "waiting", "many", "here", "word", "parts"] ["thing"] (defScope (topS 25)) := ⟨rfl, rfl, rfl, by decide +kernel, rfl, by decide +kernel, by decide +kernel⟩
noncomputable def m_leaves_of (w : World) : MSt := (mSeq (mPar3 1 2 3 (aCons (mLoc aNil) (aCons (mLoc (aCons (mVar 0) aNil)) (aCons (mVal (.int 0)) aNil))))
  (mSeq (whileN (mTest (mOp2 neM (mVar 2) (mLst aNil))) (mSeq (mAsg (mMet "list" popM (mVar 2) aNil) (gN 4))
  (mSeq (mAug 3 ipAddM (mVal (.int 1)))
  (mSeq (mIfS (mOrT (mTest (mOp2 (cmpV fun i j => decide (j < i)) (mVar 3) (mVal (.int 15)))) (mOrT (mNotT (mTest (mOps isiM (aCons (mVar 4) (aCons (mVal (.ty "tuple")) aNil))))) (mOrT (mTest (mOp2 eqM (mVar 4) (mTup aNil))) (mNotT (mTest (mOps isiM (aCons (mOp2 getM (mVar 4) (mVal (.int 0))) (aCons (mVal (.ty "str")) aNil)))))))) (mRet (mVal .non)) mNext)
  (mSeq (mAsg (mVar 4) (gTS 2 1 (gsCons (gN 5) (gsCons (gN 6) gsNil))))
  (mIfS (mOrT (mAndT (mTest (mOp2 eqM (mOps lenM (aCons (mVar 6) aNil)) (mVal (.int 2)))) (mTest (mOp2 inM (mVar 5) (mVal c_OPS)))) (mAndT (mTest (mOp2 eqM (mOps lenM (aCons (mVar 6) aNil)) (mVal (.int 3)))) (mTest (mOp2 eqM (mVar 5) (mVal (.str "pick")))))) (mExpr (mMet "list" extendM (mVar 2) (aCons (mOp1 revM (mVar 6)) aNil))) (mExpr (mMet "list" appendM (mVar 1) (aCons (mVar 4) aNil)))))))) 17)
  (mRet (mOp1 frzM (mVar 1)))))
noncomputable def F_leaves_of (w : World) : List Val → Sto → Res Val := runB (m_leaves_of w) 7 1
theorem fg_leaves_of (G : Gs K mg) {f : Addr} {fd : FuncData} (D : FunD K "leaves_of" "leaves_of" (defArgs (topS 25)) (defBody (topS 25)) (defScope (topS 25)) [] [] f fd) : FnG P w K mg base 1 f fd ["thing"] (spF K (F_leaves_of w)) := by
  obtain ⟨a_OPS, h_OPS, f_OPS⟩ := G.t_OPS
  have sc := sc_leaves_of
  exact fnG_mk (m := m_leaves_of w) (N := ["thing", "found", "waiting", "many", "here", "word", "parts"]) (k := 0) D sc_leaves_of fun cd A fs s H E hr hgd tk hp => ⟨_, (sss_cons (ss_par3 1 2 3 rfl sc.nd (sa_cons (se_loc sa_nil) (sa_cons (se_loc (sa_cons (se_var 0) sa_nil)) (sa_cons se_int sa_nil))))
  (sss_cons (ss_while 17 hp (st_ne (se_var 2) (se_lst sa_nil) hr) (sss_cons (ss_set 4 sc.nd (se_met0 PySem.F.plainAttrs_list PySem.F.slot_list_pop PySem.F.type_list_pop mt_pop snd_pop (se_var 2)))
  (sss_cons (ss_aug 3 ip_add snd_ipAddM sc.nd se_int)
  (sss_cons (ss_if (SW.st (sw_or (st_gt (se_var 3) (se_gint G.c_MOST_PARTS rfl)) (sw_or (st_not (st_val (se_isi G.b_isinstance (sa_cons (se_var 4) (sa_cons (se_ty G.b_tuple rfl rfl) sa_nil))))) (sw_or (st_eq (se_var 4) (se_tup sa_nil) hr) (sw_or1 (st_not (st_val (se_isi G.b_isinstance (sa_cons (se_ix (se_var 4) se_int) (sa_cons (se_ty G.b_str rfl rfl) sa_nil)))))))))) (sss_one (ss_ret se_non)) sss_nil)
  (sss_cons (ss_asg (se_var 4) (sg_tupS rfl (sgs_cons (sg_name 5 sc.nd) (sgs_star (sgs_cons (sg_name 6 sc.nd) sgs_nil)))))
  (sss_one (ss_if (SW.st (sw_or (SW.st (sw_and (st_eq (se_len G.b_len (sa_cons (se_var 6) sa_nil)) se_int hr) (sw_and1 (st_in (se_var 5) (se_gref h_OPS f_OPS rfl) hr)))) (sw_or1 (SW.st (sw_and (st_eq (se_len G.b_len (sa_cons (se_var 6) sa_nil)) se_int hr) (sw_and1 (st_eq (se_var 5) se_str hr))))))) (sss_one (ss_expr (se_met PySem.F.plainAttrs_list PySem.F.slot_list_extend PySem.F.type_list_extend mt_extend snd_extend (se_var 2) (sa_cons (se_rev (se_var 6)) sa_nil)))) (sss_one (ss_expr (se_met PySem.F.plainAttrs_list PySem.F.slot_list_append PySem.F.type_list_append mt_append snd_append (se_var 1) (sa_cons (se_var 4) sa_nil)))))))))))
  (sss_one (ss_ret (se_frz (se_var 1))))))⟩
theorem cal_leaves_of (G : Gs K mg) : Cal P w K mg base 1 "leaves_of" [] (F_leaves_of w) := by
  obtain ⟨f, fd, hm, D⟩ := G.d_leaves_of
  exact ⟨f, fd, ["thing"], [], [], hm, D.kp, (fg_leaves_of G D), D.bindsN (fun _ _ _ _ _ _ us hl => match us, hl with | [_], _ => rfl), .nil, rfl⟩
/-! need_counts -/
theorem sc_need_counts : FnScope ["counts", "at", "count"] ["counts"] (defScope (topS 26)) := ⟨rfl, rfl, rfl, by decide +kernel, rfl, by decide +kernel, by decide +kernel⟩
noncomputable def m_need_counts (w : World) : MSt := (mSeq (mFor (iEn (aCons (mVar 0) aNil)) (gT 2 (gsCons (gN 1) (gsCons (gN 2) gsNil))) (mIfS (mNotT (mTest (mCall (F_is_whole w) [] (aCons (mVar 2) (aCons (mVal (.int 1)) (aCons (mVal (.int 6)) aNil)))))) (mRet (mVar 1)) mNext))
  (mRet (mVal .non)))
noncomputable def F_need_counts (w : World) : List Val → Sto → Res Val := runB (m_need_counts w) 3 1
theorem fg_need_counts (G : Gs K mg) {f : Addr} {fd : FuncData} (D : FunD K "need_counts" "need_counts" (defArgs (topS 26)) (defBody (topS 26)) (defScope (topS 26)) [] [] f fd) : FnG P w K mg base 2 f fd ["counts"] (spF K (F_need_counts w)) := by
  have sc := sc_need_counts
  exact fnG_mk (m := m_need_counts w) (N := ["counts", "at", "count"]) (k := 1) D sc_need_counts fun cd A fs s H E hr hgd tk hp => ⟨_, (sss_cons (ss_for hp (si_enum rfl G.b_enumerate (sa_cons (se_var 0) sa_nil)) (sg_tup rfl (sgs_cons (sg_name 1 sc.nd) (sgs_cons (sg_name 2 sc.nd) sgs_nil))) (sss_one (ss_if (st_not (st_val (se_call (cal_is_whole G) rfl hr (by decide) hgd tk rfl (sa_cons (se_var 2) (sa_cons se_int (sa_cons (se_gint G.c_MOST_COUNT rfl) sa_nil)))))) (sss_one (ss_ret (se_var 1))) sss_nil)))
  (sss_one (ss_ret se_non)))⟩
theorem cal_need_counts (G : Gs K mg) : Cal P w K mg base 2 "need_counts" [] (F_need_counts w) := by
  obtain ⟨f, fd, hm, D⟩ := G.d_need_counts
  exact ⟨f, fd, ["counts"], [], [], hm, D.kp, (fg_need_counts G D), D.bindsN (fun _ _ _ _ _ _ us hl => match us, hl with | [_], _ => rfl), .nil, rfl⟩
/-! is_step -/
theorem sc_is_step : FnScope ["thing", "loops", "one"] ["thing", "loops"] (defScope (topS 28)) := ⟨rfl, rfl, rfl, by decide +kernel, rfl, by decide +kernel, by decide +kernel⟩
noncomputable def m_is_step (w : World) : MSt := (mRet (mAndV (mCall (F_is_tuple_of w) [] (aCons (mVar 0) (aCons (mVar 1) (aCons (mVar 1) aNil)))) (mOps allM (aCons (mLc (iSq (mVar 0)) (gN 2) mYes (mCall (F_is_whole w) [] (aCons (mVar 2) (aCons (mOp1 negV (mVal (.int 5))) (aCons (mVal (.int 5)) aNil)))) [2]) aNil))))
noncomputable def F_is_step (w : World) : List Val → Sto → Res Val := runB (m_is_step w) 3 2
theorem fg_is_step (G : Gs K mg) {f : Addr} {fd : FuncData} (D : FunD K "is_step" "is_step" (defArgs (topS 28)) (defBody (topS 28)) (defScope (topS 28)) [] [] f fd) : FnG P w K mg base 2 f fd ["thing", "loops"] (spF K (F_is_step w)) := by
  have sc := sc_is_step
  exact fnG_mk (m := m_is_step w) (N := ["thing", "loops", "one"]) (k := 1) D sc_is_step fun cd A fs s H E hr hgd tk hp => ⟨_, (sss_one (ss_ret (se_and (se_call (cal_is_tuple_of G) rfl hr (by decide) hgd tk rfl (sa_cons (se_var 0) (sa_cons (se_var 1) (sa_cons (se_var 1) sa_nil)))) (se_one (se_all rfl G.b_all (sa_cons (se_lc [("one", 2)] rfl sc.nd (si_seq (se_var 0)) rfl (fun _ _ _ _ _ => (sgw_name 2 sc.nd)) (fun _ _ _ _ _ => sif_nil) (fun _ _ _ _ _ => (se_call (cal_is_whole G) rfl hr (by decide) hgd takesF rfl (sa_cons (se_var 2) (sa_cons (se_neg (se_gint G.c_MOST_STEP rfl)) (sa_cons (se_gint G.c_MOST_STEP rfl) sa_nil)))))) sa_nil))))))⟩
theorem cal_is_step (G : Gs K mg) : Cal P w K mg base 2 "is_step" [] (F_is_step w) := by
  obtain ⟨f, fd, hm, D⟩ := G.d_is_step
  exact ⟨f, fd, ["thing", "loops"], [], [], hm, D.kp, (fg_is_step G D), D.bindsN (fun _ _ _ _ _ _ us hl => match us, hl with | [_, _], _ => rfl), .nil, rfl⟩
/-! is_leaf -/
theorem sc_is_leaf : FnScope ["thing", "loops", "word", "parts"] ["thing", "loops"] (defScope (topS 29)) := ⟨rfl, rfl, rfl, by decide +kernel, rfl, by decide +kernel, by decide +kernel⟩
noncomputable def m_is_leaf (w : World) : MSt := (mSeq (mAsg (mVar 0) (gTS 2 1 (gsCons (gN 2) (gsCons (gN 3) gsNil))))
  (mSeq (mIfS (mTest (mOp2 eqM (mVar 2) (mVal (.str "num")))) (mRet (mAndV (mOp2 eqM (mOps lenM (aCons (mVar 3) aNil)) (mVal (.int 1))) (mCall (F_is_word w) [] (aCons (mOp2 getM (mVar 3) (mVal (.int 0))) aNil)))) mNext)
  (mSeq (mIfS (mTest (mOp2 eqM (mVar 2) (mVal (.str "loop")))) (mRet (mAndV (mOp2 eqM (mOps lenM (aCons (mVar 3) aNil)) (mVal (.int 1))) (mCall (F_is_whole w) [] (aCons (mOp2 getM (mVar 3) (mVal (.int 0))) (aCons (mVal (.int 0)) (aCons (mOp2 subV (mVar 1) (mVal (.int 1))) aNil)))))) mNext)
  (mSeq (mIfS (mTest (mOp2 eqM (mVar 2) (mVal (.str "use")))) (mSeq (mIfS (mOrT (mTest (mOp2 neM (mOps lenM (aCons (mVar 3) aNil)) (mVal (.int 4)))) (mOrT (mNotT (mTest (mCall (F_is_variable_name w) [] (aCons (mOp2 getM (mVar 3) (mVal (.int 0))) aNil)))) (mNotT (mTest (mCall (F_is_step w) [] (aCons (mOp2 getM (mVar 3) (mVal (.int 1))) (aCons (mVar 1) aNil))))))) (mRet (mVal (.bl false))) mNext)
  (mAsg (mCut (mVar 3) (mPart (mVal (.int 2))) mNoPart) (gN 3))) mNext)
  (mRet (mAndV (mOp2 inM (mVar 2) (mTup (aCons (mVal (.str "given")) (aCons (mVal (.str "use")) aNil)))) (mAndV (mOp2 eqM (mOps lenM (aCons (mVar 3) aNil)) (mVal (.int 2))) (mAndV (mCall (F_is_name w) [] (aCons (mOp2 getM (mVar 3) (mVal (.int 0))) aNil)) (mCall (F_is_subscripts w) [.bl true] (aCons (mOp2 getM (mVar 3) (mVal (.int 1))) (aCons (mVar 1) aNil)))))))))))
noncomputable def F_is_leaf (w : World) : List Val → Sto → Res Val := runB (m_is_leaf w) 4 2
theorem fg_is_leaf (G : Gs K mg) {f : Addr} {fd : FuncData} (D : FunD K "is_leaf" "is_leaf" (defArgs (topS 29)) (defBody (topS 29)) (defScope (topS 29)) [] [] f fd) : FnG P w K mg base 3 f fd ["thing", "loops"] (spF K (F_is_leaf w)) := by
  have sc := sc_is_leaf
  exact fnG_mk (m := m_is_leaf w) (N := ["thing", "loops", "word", "parts"]) (k := 2) D sc_is_leaf fun cd A fs s H E hr hgd tk hp => ⟨_, (sss_cons (ss_asg (se_var 0) (sg_tupS rfl (sgs_cons (sg_name 2 sc.nd) (sgs_star (sgs_cons (sg_name 3 sc.nd) sgs_nil)))))
  (sss_cons (ss_if (st_eq (se_var 2) se_str hr) (sss_one (ss_ret (se_and (se_eq (se_len G.b_len (sa_cons (se_var 3) sa_nil)) se_int hr) (se_one (se_call (cal_is_word G) rfl hr (by decide) hgd tk rfl (sa_cons (se_ix (se_var 3) se_int) sa_nil)))))) sss_nil)
  (sss_cons (ss_if (st_eq (se_var 2) se_str hr) (sss_one (ss_ret (se_and (se_eq (se_len G.b_len (sa_cons (se_var 3) sa_nil)) se_int hr) (se_one (se_call (cal_is_whole G) rfl hr (by decide) hgd tk rfl (sa_cons (se_ix (se_var 3) se_int) (sa_cons se_int (sa_cons (se_sub (se_var 1) se_int) sa_nil)))))))) sss_nil)
  (sss_cons (ss_if (st_eq (se_var 2) se_str hr) (sss_cons (ss_if (SW.st (sw_or (st_ne (se_len G.b_len (sa_cons (se_var 3) sa_nil)) se_int hr) (sw_or (st_not (st_val (se_call (cal_is_variable_name G) rfl hr (by decide) hgd tk rfl (sa_cons (se_ix (se_var 3) se_int) sa_nil)))) (sw_or1 (st_not (st_val (se_call (cal_is_step G) rfl hr (by decide) hgd tk rfl (sa_cons (se_ix (se_var 3) se_int) (sa_cons (se_var 1) sa_nil))))))))) (sss_one (ss_ret se_bl)) sss_nil)
  (sss_one (ss_set 3 sc.nd (se_cut (se_var 3) (so_some se_int) so_none)))) sss_nil)
  (sss_one (ss_ret (se_and (se_in (se_var 2) (se_tup (sa_cons se_str (sa_cons se_str sa_nil))) hr) (se_and (se_eq (se_len G.b_len (sa_cons (se_var 3) sa_nil)) se_int hr) (se_and (se_call (cal_is_name G) rfl hr (by decide) hgd tk rfl (sa_cons (se_ix (se_var 3) se_int) sa_nil)) (se_one (se_call (cal_is_subscripts G) rfl hr (by decide) hgd tk rfl (sa_cons (se_ix (se_var 3) se_int) (sa_cons (se_var 1) sa_nil)))))))))))))⟩
theorem cal_is_leaf (G : Gs K mg) : Cal P w K mg base 3 "is_leaf" [] (F_is_leaf w) := by
  obtain ⟨f, fd, hm, D⟩ := G.d_is_leaf
  exact ⟨f, fd, ["thing", "loops"], [], [], hm, D.kp, (fg_is_leaf G D), D.bindsN (fun _ _ _ _ _ _ us hl => match us, hl with | [_, _], _ => rfl), .nil, rfl⟩
/-! is_variable -/
theorem sc_is_variable : FnScope ["thing", "loops", "ahead", "leaves", "leaf"] ["thing", "loops", "ahead"] (defScope (topS 30)) := ⟨rfl, rfl, rfl, by decide +kernel, rfl, by decide +kernel, by decide +kernel⟩
noncomputable def m_is_variable (w : World) : MSt := (mSeq (mIfS (mOrT (mNotT (mTest (mCall (F_is_tuple_of w) [] (aCons (mVar 0) (aCons (mVal (.int 2)) (aCons (mVal (.int 2)) aNil)))))) (mOrT (mNotT (mTest (mCall (F_is_variable_name w) [] (aCons (mOp2 getM (mVar 0) (mVal (.int 0))) aNil)))) (mTest (mOp2 inM (mOp2 getM (mVar 0) (mVal (.int 0))) (mVar 2))))) (mRet (mVal (.bl false))) mNext)
  (mSeq (mAsg (mCall (F_leaves_of w) [] (aCons (mOp2 getM (mVar 0) (mVal (.int 1))) aNil)) (gN 3))
  (mRet (mAndV (mOp2 isNotM (mVar 3) (mVal .non)) (mOps allM (aCons (mLc (iSq (mVar 3)) (gN 4) mYes (mCall (F_is_leaf w) [] (aCons (mVar 4) (aCons (mVar 1) aNil))) [4]) aNil))))))
noncomputable def F_is_variable (w : World) : List Val → Sto → Res Val := runB (m_is_variable w) 5 3
theorem fg_is_variable (G : Gs K mg) {f : Addr} {fd : FuncData} (D : FunD K "is_variable" "is_variable" (defArgs (topS 30)) (defBody (topS 30)) (defScope (topS 30)) [] [] f fd) : FnG P w K mg base 4 f fd ["thing", "loops", "ahead"] (spF K (F_is_variable w)) := by
  have sc := sc_is_variable
  exact fnG_mk (m := m_is_variable w) (N := ["thing", "loops", "ahead", "leaves", "leaf"]) (k := 3) D sc_is_variable fun cd A fs s H E hr hgd tk hp => ⟨_, (sss_cons (ss_if (SW.st (sw_or (st_not (st_val (se_call (cal_is_tuple_of G) rfl hr (by decide) hgd tk rfl (sa_cons (se_var 0) (sa_cons se_int (sa_cons se_int sa_nil)))))) (sw_or (st_not (st_val (se_call (cal_is_variable_name G) rfl hr (by decide) hgd tk rfl (sa_cons (se_ix (se_var 0) se_int) sa_nil)))) (sw_or1 (st_in (se_ix (se_var 0) se_int) (se_var 2) hr))))) (sss_one (ss_ret se_bl)) sss_nil)
  (sss_cons (ss_set 3 sc.nd (se_call (cal_leaves_of G) rfl hr (by decide) hgd tk rfl (sa_cons (se_ix (se_var 0) se_int) sa_nil)))
  (sss_one (ss_ret (se_and (se_isNot (se_var 3) se_non) (se_one (se_all rfl G.b_all (sa_cons (se_lc [("leaf", 4)] rfl sc.nd (si_seq (se_var 3)) rfl (fun _ _ _ _ _ => (sgw_name 4 sc.nd)) (fun _ _ _ _ _ => sif_nil) (fun _ _ _ _ _ => (se_call (cal_is_leaf G) rfl hr (by decide) hgd takesF rfl (sa_cons (se_var 4) (sa_cons (se_var 1) sa_nil))))) sa_nil))))))))⟩
theorem cal_is_variable (G : Gs K mg) : Cal P w K mg base 4 "is_variable" [] (F_is_variable w) := by
  obtain ⟨f, fd, hm, D⟩ := G.d_is_variable
  exact ⟨f, fd, ["thing", "loops", "ahead"], [], [], hm, D.kp, (fg_is_variable G D), D.bindsN (fun _ _ _ _ _ _ us hl => match us, hl with | [_, _, _], _ => rfl), .nil, rfl⟩
/-! uses_in -/
theorem sc_uses_in : FnScope ["body", "leaf"] ["body"] (defScope (topS 31)) := ⟨rfl, rfl, rfl, by decide +kernel, rfl, by decide +kernel, by decide +kernel⟩
noncomputable def m_uses_in (w : World) : MSt := (mRet (mOps tupM (aCons (mLc (iSq (mCall (F_leaves_of w) [] (aCons (mVar 0) aNil))) (gN 1) (mTest (mOp2 eqM (mOp2 getM (mVar 1) (mVal (.int 0))) (mVal (.str "use")))) (mVar 1) [1]) aNil)))
noncomputable def F_uses_in (w : World) : List Val → Sto → Res Val := runB (m_uses_in w) 2 1
theorem fg_uses_in (G : Gs K mg) {f : Addr} {fd : FuncData} (D : FunD K "uses_in" "uses_in" (defArgs (topS 31)) (defBody (topS 31)) (defScope (topS 31)) [] [] f fd) : FnG P w K mg base 2 f fd ["body"] (spF K (F_uses_in w)) := by
  have sc := sc_uses_in
  exact fnG_mk (m := m_uses_in w) (N := ["body", "leaf"]) (k := 1) D sc_uses_in fun cd A fs s H E hr hgd tk hp => ⟨_, (sss_one (ss_ret (se_tupC rfl G.b_tuple (sa_cons (se_lc [("leaf", 1)] rfl sc.nd (si_seq (se_call (cal_leaves_of G) rfl hr (by decide) hgd tk rfl (sa_cons (se_var 0) sa_nil))) rfl (fun _ _ _ _ _ => (sgw_name 1 sc.nd)) (fun _ _ _ _ _ => (sif_one (st_eq (se_ix (se_var 1) se_int) se_str hr))) (fun _ _ _ _ _ => (se_var 1))) sa_nil))))⟩
theorem cal_uses_in (G : Gs K mg) : Cal P w K mg base 2 "uses_in" [] (F_uses_in w) := by
  obtain ⟨f, fd, hm, D⟩ := G.d_uses_in
  exact ⟨f, fd, ["body"], [], [], hm, D.kp, (fg_uses_in G D), D.bindsN (fun _ _ _ _ _ _ us hl => match us, hl with | [_], _ => rfl), .nil, rfl⟩
/-! need_recurrences -/
theorem sc_need_recurrences : FnScope ["recurrences", "counts", "variables", "wrong", "names", "at", "variable", "name", "body", "use"] ["recurrences"] (defScope (topS 32)) := ⟨rfl, rfl, rfl, by decide +kernel, rfl, by decide +kernel, by decide +kernel⟩
noncomputable def m_need_recurrences (w : World) : MSt := (mSeq (mIfS (mOrT (mNotT (mTest (mCall (F_is_tuple_of w) [] (aCons (mVar 0) (aCons (mVal (.int 2)) (aCons (mVal (.int 2)) aNil)))))) (mNotT (mTest (mCall (F_is_tuple_of w) [] (aCons (mOp2 getM (mVar 0) (mVal (.int 0))) (aCons (mVal (.int 1)) (aCons (mVal (.int 3)) aNil))))))) mNever mNext)
  (mSeq (mAsg (mVar 0) (gT 2 (gsCons (gN 1) (gsCons (gN 2) gsNil))))
  (mSeq (mIfS (mNotT (mTest (mCall (F_is_tuple_of w) [] (aCons (mVar 2) (aCons (mVal (.int 1)) (aCons (mVal (.int 40)) aNil)))))) mNever mNext)
  (mSeq (mAsg (mTup (aCons (mCall (F_need_counts w) [] (aCons (mVar 1) aNil)) (aCons (mLoc aNil) aNil))) (gT 2 (gsCons (gN 3) (gsCons (gN 4) gsNil))))
  (mSeq (mIfS (mTest (mOp2 isNotM (mVar 3) (mVal .non))) mNever mNext)
  (mSeq (mFor (iEn (aCons (mVar 2) aNil)) (gT 2 (gsCons (gN 5) (gsCons (gN 6) gsNil))) (mSeq (mIfS (mNotT (mTest (mCall (F_is_variable w) [] (aCons (mVar 6) (aCons (mOps lenM (aCons (mVar 1) aNil)) (aCons (mVar 4) aNil)))))) mNever mNext)
  (mExpr (mMet "list" appendM (mVar 4) (aCons (mOp2 getM (mVar 6) (mVal (.int 0))) aNil)))))
  (mFor (iEn (aCons (mVar 2) aNil)) (gT 2 (gsCons (gN 5) (gsCons (gT 2 (gsCons (gN 7) (gsCons (gN 8) gsNil))) gsNil))) (mIfS (mNotT (mTest (mOps allM (aCons (mLc (iSq (mCall (F_uses_in w) [] (aCons (mVar 8) aNil))) (gN 9) mYes (mOp2 inM (mOp2 getM (mVar 9) (mVal (.int 1))) (mVar 4)) [9]) aNil)))) mNever mNext))))))))
noncomputable def F_need_recurrences (w : World) : List Val → Sto → Res Val := runB (m_need_recurrences w) 10 1
theorem fg_need_recurrences (G : Gs K mg) {f : Addr} {fd : FuncData} (D : FunD K "need_recurrences" "need_recurrences" (defArgs (topS 32)) (defBody (topS 32)) (defScope (topS 32)) [] [] f fd) : FnG P w K mg base 5 f fd ["recurrences"] (spF K (F_need_recurrences w)) := by
  have sc := sc_need_recurrences
  exact fnG_mk (m := m_need_recurrences w) (N := ["recurrences", "counts", "variables", "wrong", "names", "at", "variable", "name", "body", "use"]) (k := 4) D sc_need_recurrences fun cd A fs s H E hr hgd tk hp => ⟨_, (sss_cons (ss_if (SW.st (sw_or (st_not (st_val (se_call (cal_is_tuple_of G) rfl hr (by decide) hgd tk rfl (sa_cons (se_var 0) (sa_cons se_int (sa_cons se_int sa_nil)))))) (sw_or1 (st_not (st_val (se_call (cal_is_tuple_of G) rfl hr (by decide) hgd tk rfl (sa_cons (se_ix (se_var 0) se_int) (sa_cons se_int (sa_cons (se_gint G.c_MOST_LOOPS rfl) sa_nil))))))))) sss_never sss_nil)
  (sss_cons (ss_asg (se_var 0) (sg_tup rfl (sgs_cons (sg_name 1 sc.nd) (sgs_cons (sg_name 2 sc.nd) sgs_nil))))
  (sss_cons (ss_if (st_not (st_val (se_call (cal_is_tuple_of G) rfl hr (by decide) hgd tk rfl (sa_cons (se_var 2) (sa_cons se_int (sa_cons (se_gint G.c_MOST_VARIABLES rfl) sa_nil)))))) sss_never sss_nil)
  (sss_cons (ss_asg (se_tup (sa_cons (se_call (cal_need_counts G) rfl hr (by decide) hgd tk rfl (sa_cons (se_var 1) sa_nil)) (sa_cons (se_loc sa_nil) sa_nil))) (sg_tup rfl (sgs_cons (sg_name 3 sc.nd) (sgs_cons (sg_name 4 sc.nd) sgs_nil))))
  (sss_cons (ss_if (st_isNot (se_var 3) se_non) sss_never sss_nil)
  (sss_cons (ss_for hp (si_enum rfl G.b_enumerate (sa_cons (se_var 2) sa_nil)) (sg_tup rfl (sgs_cons (sg_name 5 sc.nd) (sgs_cons (sg_name 6 sc.nd) sgs_nil))) (sss_cons (ss_if (st_not (st_val (se_call (cal_is_variable G) rfl hr (by decide) hgd tk rfl (sa_cons (se_var 6) (sa_cons (se_len G.b_len (sa_cons (se_var 1) sa_nil)) (sa_cons (se_var 4) sa_nil)))))) sss_never sss_nil)
  (sss_one (ss_expr (se_met PySem.F.plainAttrs_list PySem.F.slot_list_append PySem.F.type_list_append mt_append snd_append (se_var 4) (sa_cons (se_ix (se_var 6) se_int) sa_nil))))))
  (sss_one (ss_for hp (si_enum rfl G.b_enumerate (sa_cons (se_var 2) sa_nil)) (sg_tup rfl (sgs_cons (sg_name 5 sc.nd) (sgs_cons (sg_tup rfl (sgs_cons (sg_name 7 sc.nd) (sgs_cons (sg_name 8 sc.nd) sgs_nil))) sgs_nil))) (sss_one (ss_if (st_not (st_val (se_all rfl G.b_all (sa_cons (se_lc [("use", 9)] rfl sc.nd (si_seq (se_call (cal_uses_in G) rfl hr (by decide) hgd tk rfl (sa_cons (se_var 8) sa_nil))) rfl (fun _ _ _ _ _ => (sgw_name 9 sc.nd)) (fun _ _ _ _ _ => sif_nil) (fun _ _ _ _ _ => (se_in (se_ix (se_var 9) se_int) (se_var 4) hr))) sa_nil)))) sss_never sss_nil))))))))))⟩
theorem cal_need_recurrences (G : Gs K mg) : Cal P w K mg base 5 "need_recurrences" [] (F_need_recurrences w) := by
  obtain ⟨f, fd, hm, D⟩ := G.d_need_recurrences
  exact ⟨f, fd, ["recurrences"], [], [], hm, D.kp, (fg_need_recurrences G D), D.bindsN (fun _ _ _ _ _ _ us hl => match us, hl with | [_], _ => rfl), .nil, rfl⟩
/-! is_row_of -/
theorem sc_is_row_of : FnScope ["thing", "many", "most", "one"] ["thing", "many", "most"] (defScope (topS 35)) := ⟨rfl, rfl, rfl, by decide +kernel, rfl, by decide +kernel, by decide +kernel⟩
noncomputable def m_is_row_of (w : World) : MSt := (mRet (mAndV (mOps isiM (aCons (mVar 0) (aCons (mVal (.ty "tuple")) aNil))) (mAndV (mOp2 eqM (mOps lenM (aCons (mVar 0) aNil)) (mVar 1)) (mOps allM (aCons (mLc (iSq (mVar 0)) (gN 3) mYes (mCall (F_is_whole w) [] (aCons (mVar 3) (aCons (mOp1 negV (mVar 2)) (aCons (mVar 2) aNil)))) [3]) aNil)))))
noncomputable def F_is_row_of (w : World) : List Val → Sto → Res Val := runB (m_is_row_of w) 4 3
theorem fg_is_row_of (G : Gs K mg) {f : Addr} {fd : FuncData} (D : FunD K "is_row_of" "is_row_of" (defArgs (topS 35)) (defBody (topS 35)) (defScope (topS 35)) [] [] f fd) : FnG P w K mg base 2 f fd ["thing", "many", "most"] (spF K (F_is_row_of w)) := by
  have sc := sc_is_row_of
  exact fnG_mk (m := m_is_row_of w) (N := ["thing", "many", "most", "one"]) (k := 1) D sc_is_row_of fun cd A fs s H E hr hgd tk hp => ⟨_, (sss_one (ss_ret (se_and (se_isi G.b_isinstance (sa_cons (se_var 0) (sa_cons (se_ty G.b_tuple rfl rfl) sa_nil))) (se_and (se_eq (se_len G.b_len (sa_cons (se_var 0) sa_nil)) (se_var 1) hr) (se_one (se_all rfl G.b_all (sa_cons (se_lc [("one", 3)] rfl sc.nd (si_seq (se_var 0)) rfl (fun _ _ _ _ _ => (sgw_name 3 sc.nd)) (fun _ _ _ _ _ => sif_nil) (fun _ _ _ _ _ => (se_call (cal_is_whole G) rfl hr (by decide) hgd takesF rfl (sa_cons (se_var 3) (sa_cons (se_neg (se_var 2)) (sa_cons (se_var 2) sa_nil)))))) sa_nil)))))))⟩
abbrev g_is_row_of_0 {α : Type} : List α → List α → List α := fun vs zs => vs ++ zs
theorem calK_is_row_of_0 (G : Gs K mg) : CalK P w K mg base 2 "is_row_of" 2 ["most"] g_is_row_of_0 (F_is_row_of w) := by
  obtain ⟨f, fd, hm, D⟩ := G.d_is_row_of
  exact ⟨f, fd, ["thing", "many", "most"], _, _, hm, D.kp, (fg_is_row_of G D), kbn_plain (ks := ["most"]) (n := 2) D (fun vs zs => vs ++ zs) (fun r1 r2 => r1.append r2) (fun _ _ _ _ _ _ us ws h1 h2 => match us, ws, h1, h2 with | [_, _], [_], _, _ => rfl), fun _ _ _ _ _ _ r1 r2 => r1.append r2⟩
/-! summed -/
theorem sc_summed : FnScope ["vector", "step", "one", "other"] ["vector", "step"] (defScope (topS 36)) := ⟨rfl, rfl, rfl, by decide +kernel, rfl, by decide +kernel, by decide +kernel⟩
noncomputable def m_summed (w : World) : MSt := (mRet (mOps sumM (aCons (mLc (iZp true (aCons (mVar 0) (aCons (mVar 1) aNil))) (gT 2 (gsCons (gN 2) (gsCons (gN 3) gsNil))) mYes (mOp2 mulV (mVar 2) (mVar 3)) [2, 3]) aNil)))
noncomputable def F_summed (w : World) : List Val → Sto → Res Val := runB (m_summed w) 4 2
theorem fg_summed (G : Gs K mg) {f : Addr} {fd : FuncData} (D : FunD K "summed" "summed" (defArgs (topS 36)) (defBody (topS 36)) (defScope (topS 36)) [] [] f fd) : FnG P w K mg base 1 f fd ["vector", "step"] (spF K (F_summed w)) := by
  have sc := sc_summed
  exact fnG_mk (m := m_summed w) (N := ["vector", "step", "one", "other"]) (k := 0) D sc_summed fun cd A fs s H E hr hgd tk hp => ⟨_, (sss_one (ss_ret (se_sum0 rfl G.b_sum (sa_cons (se_lc [("one", 2), ("other", 3)] rfl sc.nd (si_zipS rfl G.b_zip (sa_cons (se_var 0) (sa_cons (se_var 1) sa_nil))) rfl (fun _ _ _ _ _ => (sgw_tup rfl (sgsw_cons (sgw_name 2 sc.nd) (sgsw_cons (sgw_name 3 sc.nd) sgsw_nil)))) (fun _ _ _ _ _ => sif_nil) (fun _ _ _ _ _ => (se_mul (se_var 2) (se_var 3)))) sa_nil) _ _ _)))⟩
theorem cal_summed (G : Gs K mg) : Cal P w K mg base 1 "summed" [] (F_summed w) := by
  obtain ⟨f, fd, hm, D⟩ := G.d_summed
  exact ⟨f, fd, ["vector", "step"], [], [], hm, D.kp, (fg_summed G D), D.bindsN (fun _ _ _ _ _ _ us hl => match us, hl with | [_, _], _ => rfl), .nil, rfl⟩
/-! needs_by -/
theorem sc_needs_by : FnScope ["recurrences", "counts", "variables", "found", "name", "body", "word", "used", "step", "array", "subscripts", "one", "count"] ["recurrences"] (defScope (topS 37)) := ⟨rfl, rfl, rfl, by decide +kernel, rfl, by decide +kernel, by decide +kernel⟩
noncomputable def m_needs_by (w : World) : MSt := (mSeq (mAsg (mVar 0) (gT 2 (gsCons (gN 1) (gsCons (gN 2) gsNil))))
  (mSeq (mAsg (mNewN w) (gN 3))
  (mSeq (mFor (iSq (mVar 2)) (gT 2 (gsCons (gN 4) (gsCons (gN 5) gsNil))) (mFor (iSq (mCall (F_uses_in w) [] (aCons (mVar 5) aNil))) (gT 5 (gsCons (gN 6) (gsCons (gN 7) (gsCons (gN 8) (gsCons (gN 9) (gsCons (gN 10) gsNil)))))) (mIfS (mTest (mOps allM (aCons (mLc (iZp true (aCons (mVar 8) (aCons (mVar 1) aNil))) (gT 2 (gsCons (gN 11) (gsCons (gN 12) gsNil))) mYes (mOp2 (cmpV fun i j => decide (i < j)) (mOps absM (aCons (mVar 11) aNil)) (mVar 12)) [11, 12]) aNil))) (mAsg (mVal (.bl true)) (gIxN w (mVar 3) (mTup (aCons (mVar 4) (aCons (mVar 7) (aCons (mVar 8) aNil)))))) mNext)))
  (mRet (mOps (tupAM w) (aCons (mVar 3) aNil))))))
noncomputable def F_needs_by (w : World) : List Val → Sto → Res Val := runB (m_needs_by w) 13 1
theorem fg_needs_by (G : Gs K mg) {f : Addr} {fd : FuncData} (D : FunD K "needs_by" "needs_by" (defArgs (topS 37)) (defBody (topS 37)) (defScope (topS 37)) [] [] f fd) : FnG P w K mg base 3 f fd ["recurrences"] (spF K (F_needs_by w)) := by
  have sc := sc_needs_by
  exact fnG_mk (m := m_needs_by w) (N := ["recurrences", "counts", "variables", "found", "name", "body", "word", "used", "step", "array", "subscripts", "one", "count"]) (k := 2) D sc_needs_by fun cd A fs s H E hr hgd tk hp => ⟨_, (sss_cons (ss_asg (se_var 0) (sg_tup rfl (sgs_cons (sg_name 1 sc.nd) (sgs_cons (sg_name 2 sc.nd) sgs_nil))))
  (sss_cons (ss_set 3 sc.nd se_newN)
  (sss_cons (ss_for hp (si_seq (se_var 2)) (sg_tup rfl (sgs_cons (sg_name 4 sc.nd) (sgs_cons (sg_name 5 sc.nd) sgs_nil))) (sss_one (ss_for hp (si_seq (se_call (cal_uses_in G) rfl hr (by decide) hgd tk rfl (sa_cons (se_var 5) sa_nil))) (sg_tup rfl (sgs_cons (sg_name 6 sc.nd) (sgs_cons (sg_name 7 sc.nd) (sgs_cons (sg_name 8 sc.nd) (sgs_cons (sg_name 9 sc.nd) (sgs_cons (sg_name 10 sc.nd) sgs_nil)))))) (sss_one (ss_if (st_val (se_all rfl G.b_all (sa_cons (se_lc [("one", 11), ("count", 12)] rfl sc.nd (si_zipS rfl G.b_zip (sa_cons (se_var 8) (sa_cons (se_var 1) sa_nil))) rfl (fun _ _ _ _ _ => (sgw_tup rfl (sgsw_cons (sgw_name 11 sc.nd) (sgsw_cons (sgw_name 12 sc.nd) sgsw_nil)))) (fun _ _ _ _ _ => sif_nil) (fun _ _ _ _ _ => (se_lt (se_abs G.b_abs (sa_cons (se_var 11) sa_nil)) (se_var 12)))) sa_nil))) (sss_one (ss_setN hr se_bl (se_var 3) (se_tup (sa_cons (se_var 4) (sa_cons (se_var 7) (sa_cons (se_var 8) sa_nil)))))) sss_nil)))))
  (sss_one (ss_ret (se_tupD rfl G.b_tuple (sa_cons (se_var 3) sa_nil)))))))⟩
theorem cal_needs_by (G : Gs K mg) : Cal P w K mg base 3 "needs_by" [] (F_needs_by w) := by
  obtain ⟨f, fd, hm, D⟩ := G.d_needs_by
  exact ⟨f, fd, ["recurrences"], [], [], hm, D.kp, (fg_needs_by G D), D.bindsN (fun _ _ _ _ _ _ us hl => match us, hl with | [_], _ => rfl), .nil, rfl⟩
/-! needs_of -/
theorem sc_needs_of : FnScope ["recurrences"] ["recurrences"] (defScope (topS 38)) := ⟨rfl, rfl, rfl, by decide +kernel, rfl, by decide +kernel, by decide +kernel⟩
noncomputable def m_needs_of (w : World) : MSt := (mSeq (mExpr (mCall (F_need_recurrences w) [] (aCons (mVar 0) aNil)))
  (mRet (mCall (F_needs_by w) [] (aCons (mVar 0) aNil))))
noncomputable def F_needs_of (w : World) : List Val → Sto → Res Val := runB (m_needs_of w) 1 1
theorem fg_needs_of (G : Gs K mg) {f : Addr} {fd : FuncData} (D : FunD K "needs_of" "needs_of" (defArgs (topS 38)) (defBody (topS 38)) (defScope (topS 38)) [] [] f fd) : FnG P w K mg base 6 f fd ["recurrences"] (spF K (F_needs_of w)) := by
  have sc := sc_needs_of
  exact fnG_mk (m := m_needs_of w) (N := ["recurrences"]) (k := 5) D sc_needs_of fun cd A fs s H E hr hgd tk hp => ⟨_, (sss_cons (ss_expr (se_call (cal_need_recurrences G) rfl hr (by decide) hgd tk rfl (sa_cons (se_var 0) sa_nil)))
  (sss_one (ss_ret (se_call (cal_needs_by G) rfl hr (by decide) hgd tk rfl (sa_cons (se_var 0) sa_nil)))))⟩
theorem cal_needs_of (G : Gs K mg) : Cal P w K mg base 6 "needs_of" [] (F_needs_of w) := by
  obtain ⟨f, fd, hm, D⟩ := G.d_needs_of
  exact ⟨f, fd, ["recurrences"], [], [], hm, D.kp, (fg_needs_of G D), D.bindsN (fun _ _ _ _ _ _ us hl => match us, hl with | [_], _ => rfl), .nil, rfl⟩
/-! is_vector -/
theorem sc_is_vector : FnScope ["recurrences", "thing"] ["recurrences", "thing"] (defScope (topS 39)) := ⟨rfl, rfl, rfl, by decide +kernel, rfl, by decide +kernel, by decide +kernel⟩
noncomputable def m_is_vector (w : World) : MSt := (mRet (mCallK (F_is_row_of w) 2 1 g_is_row_of_0 (aCons (mVar 1) (aCons (mOps lenM (aCons (mOp2 getM (mVar 0) (mVal (.int 0))) aNil)) aNil)) (aCons (mVal (.int 4)) aNil)))
noncomputable def F_is_vector (w : World) : List Val → Sto → Res Val := runB (m_is_vector w) 2 2
theorem fg_is_vector (G : Gs K mg) {f : Addr} {fd : FuncData} (D : FunD K "is_vector" "is_vector" (defArgs (topS 39)) (defBody (topS 39)) (defScope (topS 39)) [] [] f fd) : FnG P w K mg base 3 f fd ["recurrences", "thing"] (spF K (F_is_vector w)) := by
  have sc := sc_is_vector
  exact fnG_mk (m := m_is_vector w) (N := ["recurrences", "thing"]) (k := 2) D sc_is_vector fun cd A fs s H E hr hgd tk hp => ⟨_, (sss_one (ss_ret (se_callK (calK_is_row_of_0 G) rfl hr (by decide) hgd tk rfl (sa_cons (se_var 1) (sa_cons (se_len G.b_len (sa_cons (se_ix (se_var 0) se_int) sa_nil)) sa_nil)) (sk_cons (se_gint G.c_MOST_VECTOR rfl) sk_nil))))⟩
theorem cal_is_vector (G : Gs K mg) : Cal P w K mg base 3 "is_vector" [] (F_is_vector w) := by
  obtain ⟨f, fd, hm, D⟩ := G.d_is_vector
  exact ⟨f, fd, ["recurrences", "thing"], [], [], hm, D.kp, (fg_is_vector G D), D.bindsN (fun _ _ _ _ _ _ us hl => match us, hl with | [_, _], _ => rfl), .nil, rfl⟩
/-! is_schedule -/
theorem sc_is_schedule : FnScope ["recurrences", "thing"] ["recurrences", "thing"] (defScope (topS 40)) := ⟨rfl, rfl, rfl, by decide +kernel, rfl, by decide +kernel, by decide +kernel⟩
noncomputable def m_is_schedule (w : World) : MSt := (mSeq (mIfS (mOrT (mNotT (mTest (mOps isiM (aCons (mVar 1) (aCons (mVal (.ty "tuple")) aNil))))) (mTest (mOp2 neM (mOps lenM (aCons (mVar 1) aNil)) (mVal (.int 2))))) (mRet (mVal (.bl false))) mNext)
  (mRet (mAndV (mCall (F_is_vector w) [] (aCons (mVar 0) (aCons (mOp2 getM (mVar 1) (mVal (.int 0))) aNil))) (mCallK (F_is_row_of w) 2 1 g_is_row_of_0 (aCons (mOp2 getM (mVar 1) (mVal (.int 1))) (aCons (mOps lenM (aCons (mOp2 getM (mVar 0) (mVal (.int 1))) aNil)) aNil)) (aCons (mVal (.int 99999)) aNil)))))
noncomputable def F_is_schedule (w : World) : List Val → Sto → Res Val := runB (m_is_schedule w) 2 2
theorem fg_is_schedule (G : Gs K mg) {f : Addr} {fd : FuncData} (D : FunD K "is_schedule" "is_schedule" (defArgs (topS 40)) (defBody (topS 40)) (defScope (topS 40)) [] [] f fd) : FnG P w K mg base 4 f fd ["recurrences", "thing"] (spF K (F_is_schedule w)) := by
  have sc := sc_is_schedule
  exact fnG_mk (m := m_is_schedule w) (N := ["recurrences", "thing"]) (k := 3) D sc_is_schedule fun cd A fs s H E hr hgd tk hp => ⟨_, (sss_cons (ss_if (SW.st (sw_or (st_not (st_val (se_isi G.b_isinstance (sa_cons (se_var 1) (sa_cons (se_ty G.b_tuple rfl rfl) sa_nil))))) (sw_or1 (st_ne (se_len G.b_len (sa_cons (se_var 1) sa_nil)) se_int hr)))) (sss_one (ss_ret se_bl)) sss_nil)
  (sss_one (ss_ret (se_and (se_call (cal_is_vector G) rfl hr (by decide) hgd tk rfl (sa_cons (se_var 0) (sa_cons (se_ix (se_var 1) se_int) sa_nil))) (se_one (se_callK (calK_is_row_of_0 G) rfl hr (by decide) hgd tk rfl (sa_cons (se_ix (se_var 1) se_int) (sa_cons (se_len G.b_len (sa_cons (se_ix (se_var 0) se_int) sa_nil)) sa_nil)) (sk_cons (se_gint G.c_MOST_OFFSET rfl) sk_nil)))))))⟩
theorem cal_is_schedule (G : Gs K mg) : Cal P w K mg base 4 "is_schedule" [] (F_is_schedule w) := by
  obtain ⟨f, fd, hm, D⟩ := G.d_is_schedule
  exact ⟨f, fd, ["recurrences", "thing"], [], [], hm, D.kp, (fg_is_schedule G D), D.bindsN (fun _ _ _ _ _ _ us hl => match us, hl with | [_, _], _ => rfl), .nil, rfl⟩
/-! lowest -/
theorem sc_lowest : FnScope ["counts", "vector", "one", "count"] ["counts", "vector"] (defScope (topS 41)) := ⟨rfl, rfl, rfl, by decide +kernel, rfl, by decide +kernel, by decide +kernel⟩
noncomputable def m_lowest (w : World) : MSt := (mRet (mOps sumM (aCons (mLc (iZp true (aCons (mVar 1) (aCons (mVar 0) aNil))) (gT 2 (gsCons (gN 2) (gsCons (gN 3) gsNil))) mYes (mOps min2M (aCons (mVal (.int 0)) (aCons (mOp2 mulV (mVar 2) (mOp2 subV (mVar 3) (mVal (.int 1)))) aNil))) [2, 3]) aNil)))
noncomputable def F_lowest (w : World) : List Val → Sto → Res Val := runB (m_lowest w) 4 2
theorem fg_lowest (G : Gs K mg) {f : Addr} {fd : FuncData} (D : FunD K "lowest" "lowest" (defArgs (topS 41)) (defBody (topS 41)) (defScope (topS 41)) [] [] f fd) : FnG P w K mg base 1 f fd ["counts", "vector"] (spF K (F_lowest w)) := by
  have sc := sc_lowest
  exact fnG_mk (m := m_lowest w) (N := ["counts", "vector", "one", "count"]) (k := 0) D sc_lowest fun cd A fs s H E hr hgd tk hp => ⟨_, (sss_one (ss_ret (se_sum0 rfl G.b_sum (sa_cons (se_lc [("one", 2), ("count", 3)] rfl sc.nd (si_zipS rfl G.b_zip (sa_cons (se_var 1) (sa_cons (se_var 0) sa_nil))) rfl (fun _ _ _ _ _ => (sgw_tup rfl (sgsw_cons (sgw_name 2 sc.nd) (sgsw_cons (sgw_name 3 sc.nd) sgsw_nil)))) (fun _ _ _ _ _ => sif_nil) (fun _ _ _ _ _ => (se_min2 rfl G.b_min (sa_cons se_int (sa_cons (se_mul (se_var 2) (se_sub (se_var 3) se_int)) sa_nil))))) sa_nil) _ _ _)))⟩
theorem cal_lowest (G : Gs K mg) : Cal P w K mg base 1 "lowest" [] (F_lowest w) := by
  obtain ⟨f, fd, hm, D⟩ := G.d_lowest
  exact ⟨f, fd, ["counts", "vector"], [], [], hm, D.kp, (fg_lowest G D), D.bindsN (fun _ _ _ _ _ _ us hl => match us, hl with | [_, _], _ => rfl), .nil, rfl⟩
/-! highest -/
theorem sc_highest : FnScope ["counts", "vector", "one"] ["counts", "vector"] (defScope (topS 42)) := ⟨rfl, rfl, rfl, by decide +kernel, rfl, by decide +kernel, by decide +kernel⟩
noncomputable def m_highest (w : World) : MSt := (mRet (mOp2 subV (mVal (.int 0)) (mCall (F_lowest w) [] (aCons (mVar 0) (aCons (mOps tupM (aCons (mLc (iSq (mVar 1)) (gN 2) mYes (mOp1 negV (mVar 2)) [2]) aNil)) aNil)))))
noncomputable def F_highest (w : World) : List Val → Sto → Res Val := runB (m_highest w) 3 2
theorem fg_highest (G : Gs K mg) {f : Addr} {fd : FuncData} (D : FunD K "highest" "highest" (defArgs (topS 42)) (defBody (topS 42)) (defScope (topS 42)) [] [] f fd) : FnG P w K mg base 2 f fd ["counts", "vector"] (spF K (F_highest w)) := by
  have sc := sc_highest
  exact fnG_mk (m := m_highest w) (N := ["counts", "vector", "one"]) (k := 1) D sc_highest fun cd A fs s H E hr hgd tk hp => ⟨_, (sss_one (ss_ret (se_sub se_int (se_call (cal_lowest G) rfl hr (by decide) hgd tk rfl (sa_cons (se_var 0) (sa_cons (se_tupC rfl G.b_tuple (sa_cons (se_lc [("one", 2)] rfl sc.nd (si_seq (se_var 1)) rfl (fun _ _ _ _ _ => (sgw_name 2 sc.nd)) (fun _ _ _ _ _ => sif_nil) (fun _ _ _ _ _ => (se_neg (se_var 2)))) sa_nil)) sa_nil))))))⟩
theorem cal_highest (G : Gs K mg) : Cal P w K mg base 2 "highest" [] (F_highest w) := by
  obtain ⟨f, fd, hm, D⟩ := G.d_highest
  exact ⟨f, fd, ["counts", "vector"], [], [], hm, D.kp, (fg_highest G D), D.bindsN (fun _ _ _ _ _ _ us hl => match us, hl with | [_, _], _ => rfl), .nil, rfl⟩
/-! wrong_place -/
theorem sc_wrong_place : FnScope ["recurrences", "schedule", "vector", "offsets", "own", "name", "body", "offset", "number", "used", "step", "first"] ["recurrences", "schedule"] (defScope (topS 43)) := ⟨rfl, rfl, rfl, by decide +kernel, rfl, by decide +kernel, by decide +kernel⟩
noncomputable def m_wrong_place (w : World) : MSt := (mSeq (mIfS (mNotT (mTest (mCall (F_is_schedule w) [] (aCons (mVar 0) (aCons (mVar 1) aNil))))) (mRet (mVal c_FORM)) mNext)
  (mSeq (mAsg (mVar 1) (gT 2 (gsCons (gN 2) (gsCons (gN 3) gsNil))))
  (mSeq (mAsg (mDc (iZp true (aCons (mOp2 getM (mVar 0) (mVal (.int 1))) (aCons (mVar 3) aNil))) (gT 2 (gsCons (gT 2 (gsCons (gN 5) (gsCons (gN 6) gsNil))) (gsCons (gN 7) gsNil))) mYes (mVar 5) (mVar 7) [7, 5, 6]) (gN 4))
  (mSeq (mFor (iEn (aCons (mCall (F_needs_by w) [] (aCons (mVar 0) aNil)) aNil)) (gT 2 (gsCons (gN 8) (gsCons (gT 3 (gsCons (gN 5) (gsCons (gN 9) (gsCons (gN 10) gsNil)))) gsNil))) (mIfS (mTest (mOp2 (cmpV fun i j => decide (i < j)) (mOp2 subV (mOp2 addV (mCall (F_summed w) [] (aCons (mVar 2) (aCons (mVar 10) aNil))) (mOp2 dgetM (mVar 4) (mVar 5))) (mOp2 dgetM (mVar 4) (mVar 9))) (mVal (.int 1)))) (mRet (mTup (aCons (mVal (.str "need")) (aCons (mVar 8) aNil)))) mNext))
  (mSeq (mAsg (mOp2 addV (mOps minM (aCons (mVar 3) aNil)) (mCall (F_lowest w) [] (aCons (mOp2 getM (mVar 0) (mVal (.int 0))) (aCons (mVar 2) aNil)))) (gN 11))
  (mRet (mIf (mTest (mOp2 eqM (mVar 11) (mVal (.int 0)))) (mVal .non) (mTup (aCons (mVal (.str "first")) (aCons (mVar 11) aNil))))))))))
noncomputable def F_wrong_place (w : World) : List Val → Sto → Res Val := runB (m_wrong_place w) 12 2
theorem fg_wrong_place (G : Gs K mg) {f : Addr} {fd : FuncData} (D : FunD K "wrong_place" "wrong_place" (defArgs (topS 43)) (defBody (topS 43)) (defScope (topS 43)) [] [] f fd) : FnG P w K mg base 5 f fd ["recurrences", "schedule"] (spF K (F_wrong_place w)) := by
  obtain ⟨a_FORM, h_FORM, f_FORM⟩ := G.t_FORM
  have sc := sc_wrong_place
  exact fnG_mk (m := m_wrong_place w) (N := ["recurrences", "schedule", "vector", "offsets", "own", "name", "body", "offset", "number", "used", "step", "first"]) (k := 4) D sc_wrong_place fun cd A fs s H E hr hgd tk hp => ⟨_, (sss_cons (ss_if (st_not (st_val (se_call (cal_is_schedule G) rfl hr (by decide) hgd tk rfl (sa_cons (se_var 0) (sa_cons (se_var 1) sa_nil))))) (sss_one (ss_ret (se_gref h_FORM f_FORM rfl))) sss_nil)
  (sss_cons (ss_asg (se_var 1) (sg_tup rfl (sgs_cons (sg_name 2 sc.nd) (sgs_cons (sg_name 3 sc.nd) sgs_nil))))
  (sss_cons (ss_setDc 4 [("offset", 7), ("name", 5), ("body", 6)] rfl sc.nd (si_zipS rfl G.b_zip (sa_cons (se_ix (se_var 0) se_int) (sa_cons (se_var 3) sa_nil))) rfl (fun _ _ _ _ _ => (sgw_tup rfl (sgsw_cons (sgw_tup rfl (sgsw_cons (sgw_name 5 sc.nd) (sgsw_cons (sgw_name 6 sc.nd) sgsw_nil))) (sgsw_cons (sgw_name 7 sc.nd) sgsw_nil)))) (fun _ _ _ _ _ => sif_nil) (fun _ _ _ _ _ => (se_var 5)) (fun _ _ _ _ _ => (se_var 7)))
  (sss_cons (ss_for hp (si_enum rfl G.b_enumerate (sa_cons (se_call (cal_needs_by G) rfl hr (by decide) hgd tk rfl (sa_cons (se_var 0) sa_nil)) sa_nil)) (sg_tup rfl (sgs_cons (sg_name 8 sc.nd) (sgs_cons (sg_tup rfl (sgs_cons (sg_name 5 sc.nd) (sgs_cons (sg_name 9 sc.nd) (sgs_cons (sg_name 10 sc.nd) sgs_nil)))) sgs_nil))) (sss_one (ss_if (st_lt (se_sub (se_add (se_call (cal_summed G) rfl hr (by decide) hgd tk rfl (sa_cons (se_var 2) (sa_cons (se_var 10) sa_nil))) (se_dget hr (se_var 4) (se_var 5))) (se_dget hr (se_var 4) (se_var 9))) se_int) (sss_one (ss_ret (se_tup (sa_cons se_str (sa_cons (se_var 8) sa_nil))))) sss_nil)))
  (sss_cons (ss_set 11 sc.nd (se_add (se_min1 rfl G.b_min (sa_cons (se_var 3) sa_nil)) (se_call (cal_lowest G) rfl hr (by decide) hgd tk rfl (sa_cons (se_ix (se_var 0) se_int) (sa_cons (se_var 2) sa_nil)))))
  (sss_one (ss_ret (se_if (st_eq (se_var 11) se_int hr) se_non (se_tup (sa_cons se_str (sa_cons (se_var 11) sa_nil)))))))))))⟩
theorem cal_wrong_place (G : Gs K mg) : Cal P w K mg base 5 "wrong_place" [] (F_wrong_place w) := by
  obtain ⟨f, fd, hm, D⟩ := G.d_wrong_place
  exact ⟨f, fd, ["recurrences", "schedule"], [], [], hm, D.kp, (fg_wrong_place G D), D.bindsN (fun _ _ _ _ _ _ us hl => match us, hl with | [_, _], _ => rfl), .nil, rfl⟩
/-! need_schedule -/
theorem sc_need_schedule : FnScope ["recurrences", "schedule", "place"] ["recurrences", "schedule"] (defScope (topS 44)) := ⟨rfl, rfl, rfl, by decide +kernel, rfl, by decide +kernel, by decide +kernel⟩
noncomputable def m_need_schedule (w : World) : MSt := (mSeq (mExpr (mCall (F_need_recurrences w) [] (aCons (mVar 0) aNil)))
  (mSeq (mAsg (mCall (F_wrong_place w) [] (aCons (mVar 0) (aCons (mVar 1) aNil))) (gN 2))
  (mIfS (mTest (mOp2 isNotM (mVar 2) (mVal .non))) mNever mNext)))
noncomputable def F_need_schedule (w : World) : List Val → Sto → Res Val := runB (m_need_schedule w) 3 2
theorem fg_need_schedule (G : Gs K mg) {f : Addr} {fd : FuncData} (D : FunD K "need_schedule" "need_schedule" (defArgs (topS 44)) (defBody (topS 44)) (defScope (topS 44)) [] [] f fd) : FnG P w K mg base 6 f fd ["recurrences", "schedule"] (spF K (F_need_schedule w)) := by
  have sc := sc_need_schedule
  exact fnG_mk (m := m_need_schedule w) (N := ["recurrences", "schedule", "place"]) (k := 5) D sc_need_schedule fun cd A fs s H E hr hgd tk hp => ⟨_, (sss_cons (ss_expr (se_call (cal_need_recurrences G) rfl hr (by decide) hgd tk rfl (sa_cons (se_var 0) sa_nil)))
  (sss_cons (ss_set 2 sc.nd (se_call (cal_wrong_place G) rfl hr (by decide) hgd tk rfl (sa_cons (se_var 0) (sa_cons (se_var 1) sa_nil))))
  (sss_one (ss_if (st_isNot (se_var 2) se_non) sss_never sss_nil))))⟩
theorem cal_need_schedule (G : Gs K mg) : Cal P w K mg base 6 "need_schedule" [] (F_need_schedule w) := by
  obtain ⟨f, fd, hm, D⟩ := G.d_need_schedule
  exact ⟨f, fd, ["recurrences", "schedule"], [], [], hm, D.kp, (fg_need_schedule G D), D.bindsN (fun _ _ _ _ _ _ us hl => match us, hl with | [_, _], _ => rfl), .nil, rfl⟩
/-! is_legal -/
theorem sc_is_legal : FnScope ["recurrences", "schedule"] ["recurrences", "schedule"] (defScope (topS 45)) := ⟨rfl, rfl, rfl, by decide +kernel, rfl, by decide +kernel, by decide +kernel⟩
noncomputable def m_is_legal (w : World) : MSt := (mSeq (mExpr (mCall (F_need_recurrences w) [] (aCons (mVar 0) aNil)))
  (mRet (mOp2 isM (mCall (F_wrong_place w) [] (aCons (mVar 0) (aCons (mVar 1) aNil))) (mVal .non))))
noncomputable def F_is_legal (w : World) : List Val → Sto → Res Val := runB (m_is_legal w) 2 2
theorem fg_is_legal (G : Gs K mg) {f : Addr} {fd : FuncData} (D : FunD K "is_legal" "is_legal" (defArgs (topS 45)) (defBody (topS 45)) (defScope (topS 45)) [] [] f fd) : FnG P w K mg base 6 f fd ["recurrences", "schedule"] (spF K (F_is_legal w)) := by
  have sc := sc_is_legal
  exact fnG_mk (m := m_is_legal w) (N := ["recurrences", "schedule"]) (k := 5) D sc_is_legal fun cd A fs s H E hr hgd tk hp => ⟨_, (sss_cons (ss_expr (se_call (cal_need_recurrences G) rfl hr (by decide) hgd tk rfl (sa_cons (se_var 0) sa_nil)))
  (sss_one (ss_ret (se_is (se_call (cal_wrong_place G) rfl hr (by decide) hgd tk rfl (sa_cons (se_var 0) (sa_cons (se_var 1) sa_nil))) se_non))))⟩
theorem cal_is_legal (G : Gs K mg) : Cal P w K mg base 6 "is_legal" [] (F_is_legal w) := by
  obtain ⟨f, fd, hm, D⟩ := G.d_is_legal
  exact ⟨f, fd, ["recurrences", "schedule"], [], [], hm, D.kp, (fg_is_legal G D), D.bindsN (fun _ _ _ _ _ _ us hl => match us, hl with | [_, _], _ => rfl), .nil, rfl⟩
/-! length_of -/
theorem sc_length_of : FnScope ["recurrences", "schedule", "vector", "offsets"] ["recurrences", "schedule"] (defScope (topS 46)) := ⟨rfl, rfl, rfl, by decide +kernel, rfl, by decide +kernel, by decide +kernel⟩
noncomputable def m_length_of (w : World) : MSt := (mSeq (mExpr (mCall (F_need_schedule w) [] (aCons (mVar 0) (aCons (mVar 1) aNil))))
  (mSeq (mAsg (mVar 1) (gT 2 (gsCons (gN 2) (gsCons (gN 3) gsNil))))
  (mRet (mOp2 addV (mOp2 addV (mOps maxM (aCons (mVar 3) aNil)) (mCall (F_highest w) [] (aCons (mOp2 getM (mVar 0) (mVal (.int 0))) (aCons (mVar 2) aNil)))) (mVal (.int 1))))))
noncomputable def F_length_of (w : World) : List Val → Sto → Res Val := runB (m_length_of w) 4 2
theorem fg_length_of (G : Gs K mg) {f : Addr} {fd : FuncData} (D : FunD K "length_of" "length_of" (defArgs (topS 46)) (defBody (topS 46)) (defScope (topS 46)) [] [] f fd) : FnG P w K mg base 7 f fd ["recurrences", "schedule"] (spF K (F_length_of w)) := by
  have sc := sc_length_of
  exact fnG_mk (m := m_length_of w) (N := ["recurrences", "schedule", "vector", "offsets"]) (k := 6) D sc_length_of fun cd A fs s H E hr hgd tk hp => ⟨_, (sss_cons (ss_expr (se_call (cal_need_schedule G) rfl hr (by decide) hgd tk rfl (sa_cons (se_var 0) (sa_cons (se_var 1) sa_nil))))
  (sss_cons (ss_asg (se_var 1) (sg_tup rfl (sgs_cons (sg_name 2 sc.nd) (sgs_cons (sg_name 3 sc.nd) sgs_nil))))
  (sss_one (ss_ret (se_add (se_add (se_max1 rfl G.b_max (sa_cons (se_var 3) sa_nil)) (se_call (cal_highest G) rfl hr (by decide) hgd tk rfl (sa_cons (se_ix (se_var 0) se_int) (sa_cons (se_var 2) sa_nil)))) se_int)))))⟩
theorem cal_length_of (G : Gs K mg) : Cal P w K mg base 7 "length_of" [] (F_length_of w) := by
  obtain ⟨f, fd, hm, D⟩ := G.d_length_of
  exact ⟨f, fd, ["recurrences", "schedule"], [], [], hm, D.kp, (fg_length_of G D), D.bindsN (fun _ _ _ _ _ _ us hl => match us, hl with | [_, _], _ => rfl), .nil, rfl⟩
/-! moved_on -/
theorem sc_moved_on : FnScope ["own", "needs", "vector", "found", "name", "used", "step"] ["own", "needs", "vector"] (defScope (topS 47)) := ⟨rfl, rfl, rfl, by decide +kernel, rfl, by decide +kernel, by decide +kernel⟩
noncomputable def m_moved_on (w : World) : MSt := (mSeq (mAsg (mOps dictDM (aCons (mVar 0) aNil)) (gN 3))
  (mSeq (mFor (iSq (mVar 1)) (gT 3 (gsCons (gN 4) (gsCons (gN 5) (gsCons (gN 6) gsNil)))) (mAsg (mOps max2M (aCons (mOp2 dgetM (mVar 3) (mVar 4)) (aCons (mOp2 subV (mOp2 addV (mOp2 dgetM (mVar 0) (mVar 5)) (mVal (.int 1))) (mCall (F_summed w) [] (aCons (mVar 2) (aCons (mVar 6) aNil)))) aNil))) (gIxK (mVar 3) (mVar 4))))
  (mRet (mVar 3))))
noncomputable def F_moved_on (w : World) : List Val → Sto → Res Val := runB (m_moved_on w) 7 3
theorem fg_moved_on (G : Gs K mg) {f : Addr} {fd : FuncData} (D : FunD K "moved_on" "moved_on" (defArgs (topS 47)) (defBody (topS 47)) (defScope (topS 47)) [] [] f fd) : FnG P w K mg base 2 f fd ["own", "needs", "vector"] (spF K (F_moved_on w)) := by
  have sc := sc_moved_on
  exact fnG_mk (m := m_moved_on w) (N := ["own", "needs", "vector", "found", "name", "used", "step"]) (k := 1) D sc_moved_on fun cd A fs s H E hr hgd tk hp => ⟨_, (sss_cons (ss_set 3 sc.nd (se_dictD G.b_dict (sa_cons (se_var 0) sa_nil)))
  (sss_cons (ss_for hp (si_seq (se_var 1)) (sg_tup rfl (sgs_cons (sg_name 4 sc.nd) (sgs_cons (sg_name 5 sc.nd) (sgs_cons (sg_name 6 sc.nd) sgs_nil)))) (sss_one (ss_asg (se_max2 rfl G.b_max (sa_cons (se_dget hr (se_var 3) (se_var 4)) (sa_cons (se_sub (se_add (se_dget hr (se_var 0) (se_var 5)) se_int) (se_call (cal_summed G) rfl hr (by decide) hgd tk rfl (sa_cons (se_var 2) (sa_cons (se_var 6) sa_nil)))) sa_nil))) (sg_ixK hr (fun _ => (se_var 3)) (fun _ => (se_var 4))))))
  (sss_one (ss_ret (se_var 3)))))⟩
theorem cal_moved_on (G : Gs K mg) : Cal P w K mg base 2 "moved_on" [] (F_moved_on w) := by
  obtain ⟨f, fd, hm, D⟩ := G.d_moved_on
  exact ⟨f, fd, ["own", "needs", "vector"], [], [], hm, D.kp, (fg_moved_on G D), D.bindsN (fun _ _ _ _ _ _ us hl => match us, hl with | [_, _, _], _ => rfl), .nil, rfl⟩
/-! earliest_by -/
theorem sc_earliest_by : FnScope ["recurrences", "vector", "names", "needs", "name", "body", "own", "turn", "later"] ["recurrences", "vector"] (defScope (topS 48)) := ⟨rfl, rfl, rfl, by decide +kernel, rfl, by decide +kernel, by decide +kernel⟩
noncomputable def m_earliest_by (w : World) : MSt := (mSeq (mPar 2 3 (aCons (mLc (iSq (mOp2 getM (mVar 0) (mVal (.int 1)))) (gT 2 (gsCons (gN 4) (gsCons (gN 5) gsNil))) mYes (mVar 4) [4, 5]) (aCons (mCall (F_needs_by w) [] (aCons (mVar 0) aNil)) aNil)))
  (mSeq (mAsg (mDc (iSq (mVar 2)) (gN 4) mYes (mVar 4) (mOp2 subV (mVal (.int 0)) (mCall (F_lowest w) [] (aCons (mOp2 getM (mVar 0) (mVal (.int 0))) (aCons (mVar 1) aNil)))) [4]) (gN 6))
  (mSeq (mFor (iR1 (aCons (mOp2 addV (mOps lenM (aCons (mVar 2) aNil)) (mVal (.int 1))) aNil)) (gN 7) (mSeq (mAsg (mCall (F_moved_on w) [] (aCons (mVar 6) (aCons (mVar 3) (aCons (mVar 1) aNil)))) (gN 8))
  (mSeq (mIfS (mTest (mOp2 eqDM (mVar 8) (mVar 6))) (mRet (mTup (aCons (mVar 1) (aCons (mOps tupM (aCons (mLc (iSq (mVar 2)) (gN 4) mYes (mOp2 dgetM (mVar 6) (mVar 4)) [4]) aNil)) aNil)))) mNext)
  (mAsg (mVar 8) (gN 6)))))
  (mRet (mVal .non)))))
noncomputable def F_earliest_by (w : World) : List Val → Sto → Res Val := runB (m_earliest_by w) 9 2
theorem fg_earliest_by (G : Gs K mg) {f : Addr} {fd : FuncData} (D : FunD K "earliest_by" "earliest_by" (defArgs (topS 48)) (defBody (topS 48)) (defScope (topS 48)) [] [] f fd) : FnG P w K mg base 4 f fd ["recurrences", "vector"] (spF K (F_earliest_by w)) := by
  have sc := sc_earliest_by
  exact fnG_mk (m := m_earliest_by w) (N := ["recurrences", "vector", "names", "needs", "name", "body", "own", "turn", "later"]) (k := 3) D sc_earliest_by fun cd A fs s H E hr hgd tk hp => ⟨_, (sss_cons (ss_par 2 3 rfl sc.nd (sa_cons (se_lc [("name", 4), ("body", 5)] rfl sc.nd (si_seq (se_ix (se_var 0) se_int)) rfl (fun _ _ _ _ _ => (sgw_tup rfl (sgsw_cons (sgw_name 4 sc.nd) (sgsw_cons (sgw_name 5 sc.nd) sgsw_nil)))) (fun _ _ _ _ _ => sif_nil) (fun _ _ _ _ _ => (se_var 4))) (sa_cons (se_call (cal_needs_by G) rfl hr (by decide) hgd tk rfl (sa_cons (se_var 0) sa_nil)) sa_nil)))
  (sss_cons (ss_set 6 sc.nd (se_dc [("name", 4)] rfl sc.nd (si_seq (se_var 2)) rfl (fun _ _ _ _ _ => (sgw_name 4 sc.nd)) (fun _ _ _ _ _ => sif_nil) (fun _ _ _ _ _ => (se_var 4)) (fun _ _ _ _ _ => (se_sub se_int (se_call (cal_lowest G) rfl hr (by decide) hgd takesF rfl (sa_cons (se_ix (se_var 0) se_int) (sa_cons (se_var 1) sa_nil)))))))
  (sss_cons (ss_for hp (si_range1 rfl G.b_range (sa_cons (se_add (se_len G.b_len (sa_cons (se_var 2) sa_nil)) se_int) sa_nil)) (sg_name 7 sc.nd) (sss_cons (ss_set 8 sc.nd (se_call (cal_moved_on G) rfl hr (by decide) hgd tk rfl (sa_cons (se_var 6) (sa_cons (se_var 3) (sa_cons (se_var 1) sa_nil)))))
  (sss_cons (ss_if (st_eqD (se_var 8) (se_var 6) hr) (sss_one (ss_ret (se_tup (sa_cons (se_var 1) (sa_cons (se_tupC rfl G.b_tuple (sa_cons (se_lc [("name", 4)] rfl sc.nd (si_seq (se_var 2)) rfl (fun _ _ _ _ _ => (sgw_name 4 sc.nd)) (fun _ _ _ _ _ => sif_nil) (fun _ _ _ _ _ => (se_dget hr (se_var 6) (se_var 4)))) sa_nil)) sa_nil))))) sss_nil)
  (sss_one (ss_set 6 sc.nd (se_var 8))))))
  (sss_one (ss_ret se_non)))))⟩
theorem cal_earliest_by (G : Gs K mg) : Cal P w K mg base 4 "earliest_by" [] (F_earliest_by w) := by
  obtain ⟨f, fd, hm, D⟩ := G.d_earliest_by
  exact ⟨f, fd, ["recurrences", "vector"], [], [], hm, D.kp, (fg_earliest_by G D), D.bindsN (fun _ _ _ _ _ _ us hl => match us, hl with | [_, _], _ => rfl), .nil, rfl⟩
/-! earliest -/
theorem sc_earliest : FnScope ["recurrences", "vector"] ["recurrences", "vector"] (defScope (topS 49)) := ⟨rfl, rfl, rfl, by decide +kernel, rfl, by decide +kernel, by decide +kernel⟩
noncomputable def m_earliest (w : World) : MSt := (mSeq (mExpr (mCall (F_need_recurrences w) [] (aCons (mVar 0) aNil)))
  (mSeq (mIfS (mNotT (mTest (mCall (F_is_vector w) [] (aCons (mVar 0) (aCons (mVar 1) aNil))))) mNever mNext)
  (mRet (mCall (F_earliest_by w) [] (aCons (mVar 0) (aCons (mVar 1) aNil))))))
noncomputable def F_earliest (w : World) : List Val → Sto → Res Val := runB (m_earliest w) 2 2
theorem fg_earliest (G : Gs K mg) {f : Addr} {fd : FuncData} (D : FunD K "earliest" "earliest" (defArgs (topS 49)) (defBody (topS 49)) (defScope (topS 49)) [] [] f fd) : FnG P w K mg base 6 f fd ["recurrences", "vector"] (spF K (F_earliest w)) := by
  have sc := sc_earliest
  exact fnG_mk (m := m_earliest w) (N := ["recurrences", "vector"]) (k := 5) D sc_earliest fun cd A fs s H E hr hgd tk hp => ⟨_, (sss_cons (ss_expr (se_call (cal_need_recurrences G) rfl hr (by decide) hgd tk rfl (sa_cons (se_var 0) sa_nil)))
  (sss_cons (ss_if (st_not (st_val (se_call (cal_is_vector G) rfl hr (by decide) hgd tk rfl (sa_cons (se_var 0) (sa_cons (se_var 1) sa_nil))))) sss_never sss_nil)
  (sss_one (ss_ret (se_call (cal_earliest_by G) rfl hr (by decide) hgd tk rfl (sa_cons (se_var 0) (sa_cons (se_var 1) sa_nil)))))))⟩
theorem cal_earliest (G : Gs K mg) : Cal P w K mg base 6 "earliest" [] (F_earliest w) := by
  obtain ⟨f, fd, hm, D⟩ := G.d_earliest
  exact ⟨f, fd, ["recurrences", "vector"], [], [], hm, D.kp, (fg_earliest G D), D.bindsN (fun _ _ _ _ _ _ us hl => match us, hl with | [_, _], _ => rfl), .nil, rfl⟩
/-! _law_drawn -/
theorem sc__law_drawn : FnScope ["_law_script", "_law_at", "_law_below", "_law_turn", "_law_cell", "_law_left", "_law_k", "_law_mixed"] ["_law_script", "_law_at", "_law_below"] (defScope (topS 51)) := ⟨rfl, rfl, rfl, by decide +kernel, rfl, by decide +kernel, by decide +kernel⟩
noncomputable def m__law_drawn (w : World) : MSt := (mSeq (mAsg (mOp2 addV (mOp2 getM (mVar 1) (mVal (.int 0))) (mVal (.int 1))) (gIx (mVar 1) (mVal (.int 0))))
  (mSeq (mAsg (mOp2 getM (mVar 1) (mVal (.int 0))) (gN 3))
  (mSeq (mAsg (mIf (mTest (mOp2 neM (mVar 0) (mLst aNil))) (mOp2 getM (mVar 0) (mOp2 modV (mVar 3) (mOps lenM (aCons (mVar 0) aNil)))) (mVal (.int 0))) (gN 4))
  (mSeq (mIfS (mAndT (mTest (mOp2 (cmpV fun i j => decide (j ≤ i)) (mVar 4) (mOp2 powV (mVal (.int 10)) (mVal (.int 18))))) (mTest (mOp2 (cmpV fun i j => decide (i < j)) (mOp2 fdivV (mVar 3) (mOps lenM (aCons (mVar 0) aNil))) (mVal (.int 200))))) (mSeq (mAsg (mVar 4) (gN 5))
  (mSeq (mFor (iR1 (aCons (mOp2 fdivV (mVar 3) (mOps lenM (aCons (mVar 0) aNil))) aNil)) (gN 6) (mAsg (mOp2 fdivV (mVar 5) (mVal (.int 1009))) (gN 5)))
  (mIfS (mTest (mOp2 (cmpV fun i j => decide (j < i)) (mVar 5) (mVal (.int 0)))) (mRet (mOp2 modV (mOp2 modV (mVar 5) (mVal (.int 1009))) (mVar 2))) mNext))) mNext)
  (mSeq (mAsg (mOp2 powV (mOp2 addV (mOp2 addV (mOp2 modV (mVar 4) (mVal (.int 2305843009213693951))) (mOp2 mulV (mOp2 mulV (mVal (.int 7919)) (mVar 3)) (mVar 3))) (mVal (.int 11))) (mVal (.int 5))) (gN 7))
  (mRet (mOp2 modV (mOp2 fdivV (mOp2 modV (mVar 7) (mVal (.int 170141183460469231731687303715884105727))) (mVal (.int 7))) (mVar 2))))))))
noncomputable def F__law_drawn (w : World) : List Val → Sto → Res Val := runB (m__law_drawn w) 8 3
theorem fg__law_drawn (G : Gs K mg) {f : Addr} {fd : FuncData} (D : FunD K "_law_drawn" "_law_drawn" (defArgs (topS 51)) (defBody (topS 51)) (defScope (topS 51)) [] [] f fd) : FnG P w K mg base 1 f fd ["_law_script", "_law_at", "_law_below"] (spF K (F__law_drawn w)) := by
  have sc := sc__law_drawn
  exact fnG_mk (m := m__law_drawn w) (N := ["_law_script", "_law_at", "_law_below", "_law_turn", "_law_cell", "_law_left", "_law_k", "_law_mixed"]) (k := 0) D sc__law_drawn fun cd A fs s H E hr hgd tk hp => ⟨_, (sss_cons (ss_setIx (se_add (se_ix (se_var 1) se_int) se_int) (se_var 1) se_int)
  (sss_cons (ss_set 3 sc.nd (se_ix (se_var 1) se_int))
  (sss_cons (ss_set 4 sc.nd (se_if (st_ne (se_var 0) (se_lst sa_nil) hr) (se_ix (se_var 0) (se_mod (se_var 3) (se_len G.b_len (sa_cons (se_var 0) sa_nil)))) se_int))
  (sss_cons (ss_if (SW.st (sw_and (st_ge (se_var 4) (se_pow se_int se_int)) (sw_and1 (st_lt (se_fdiv (se_var 3) (se_len G.b_len (sa_cons (se_var 0) sa_nil))) se_int)))) (sss_cons (ss_set 5 sc.nd (se_var 4))
  (sss_cons (ss_for hp (si_range1 rfl G.b_range (sa_cons (se_fdiv (se_var 3) (se_len G.b_len (sa_cons (se_var 0) sa_nil))) sa_nil)) (sg_name 6 sc.nd) (sss_one (ss_set 5 sc.nd (se_fdiv (se_var 5) se_int))))
  (sss_one (ss_if (st_gt (se_var 5) se_int) (sss_one (ss_ret (se_mod (se_mod (se_var 5) se_int) (se_var 2)))) sss_nil)))) sss_nil)
  (sss_cons (ss_set 7 sc.nd (se_pow (se_add (se_add (se_mod (se_var 4) se_int) (se_mul (se_mul se_int (se_var 3)) (se_var 3))) se_int) se_int))
  (sss_one (ss_ret (se_mod (se_fdiv (se_mod (se_var 7) se_int) se_int) (se_var 2)))))))))⟩
theorem cal__law_drawn (G : Gs K mg) : Cal P w K mg base 1 "_law_drawn" [] (F__law_drawn w) := by
  obtain ⟨f, fd, hm, D⟩ := G.d__law_drawn
  exact ⟨f, fd, ["_law_script", "_law_at", "_law_below"], [], [], hm, D.kp, (fg__law_drawn G D), D.bindsN (fun _ _ _ _ _ _ us hl => match us, hl with | [_, _, _], _ => rfl), .nil, rfl⟩
/-! _law_called -/
theorem sc__law_called : FnScope ["_law_script", "_law_at", "_law_number", "_law_letters", "_law_found", "_law_pool", "_law_k", "_law_kind", "_law_word", "_law_more"] ["_law_script", "_law_at", "_law_number"] (defScope (topS 52)) := ⟨rfl, rfl, rfl, by decide +kernel, rfl, by decide +kernel, by decide +kernel⟩
noncomputable def m__law_called (w : World) : MSt := (mSeq (mPar 3 4 (aCons (mVal (.str "abcdefghijklmnopqrstuvwxyz")) (aCons (mLoc aNil) aNil)))
  (mSeq (mAsg (mLoc (aCons (mVal (.str "a")) (aCons (mVal (.str "b")) (aCons (mVal (.str "c")) (aCons (mVal (.str "c0")) (aCons (mVal (.str "c1")) (aCons (mVal (.str "use")) (aCons (mVal (.str "given")) (aCons (mVal (.str "num")) (aCons (mVal (.str "loop")) (aCons (mVal (.str "add")) (aCons (mVal (.str "need")) (aCons (mVal (.str "x1")) (aCons (mVal (.str "x")) (aCons (mVal (.str "first")) (aCons (mVal (.str "form")) (aCons (mVal (.str "v9")) aNil))))))))))))))))) (gN 5))
  (mSeq (mFor (iR1 (aCons (mVar 2) aNil)) (gN 6) (mSeq (mAsg (mCall (F__law_drawn w) [] (aCons (mVar 0) (aCons (mVar 1) (aCons (mVal (.int 3)) aNil)))) (gN 7))
  (mSeq (mAsg (mIf (mAndT (mTest (mOp2 (cmpV fun i j => decide (j < i)) (mVar 7) (mVal (.int 0)))) (mTest (mOp2 neM (mVar 5) (mLst aNil)))) (mMet "list" popAtM (mVar 5) (aCons (mCall (F__law_drawn w) [] (aCons (mVar 0) (aCons (mVar 1) (aCons (mOps lenM (aCons (mVar 5) aNil)) aNil)))) aNil)) (mOp2 addV (mVal (.str "q")) (mOps strM (aCons (mVar 6) aNil)))) (gN 8))
  (mSeq (mFor (iR1 (aCons (mIf (mTest (mOp2 eqM (mVar 7) (mVal (.int 0)))) (mCall (F__law_drawn w) [] (aCons (mVar 0) (aCons (mVar 1) (aCons (mVal (.int 4)) aNil)))) (mVal (.int 0))) aNil)) (gN 9) (mAsg (mOp2 addV (mOp2 getM (mVar 3) (mCall (F__law_drawn w) [] (aCons (mVar 0) (aCons (mVar 1) (aCons (mVal (.int 26)) aNil))))) (mVar 8)) (gN 8)))
  (mExpr (mMet "list" appendM (mVar 4) (aCons (mVar 8) aNil)))))))
  (mRet (mOp1 frzM (mVar 4))))))
noncomputable def F__law_called (w : World) : List Val → Sto → Res Val := runB (m__law_called w) 10 3
theorem fg__law_called (G : Gs K mg) {f : Addr} {fd : FuncData} (D : FunD K "_law_called" "_law_called" (defArgs (topS 52)) (defBody (topS 52)) (defScope (topS 52)) [] [] f fd) : FnG P w K mg base 2 f fd ["_law_script", "_law_at", "_law_number"] (spF K (F__law_called w)) := by
  have sc := sc__law_called
  exact fnG_mk (m := m__law_called w) (N := ["_law_script", "_law_at", "_law_number", "_law_letters", "_law_found", "_law_pool", "_law_k", "_law_kind", "_law_word", "_law_more"]) (k := 1) D sc__law_called fun cd A fs s H E hr hgd tk hp => ⟨_, (sss_cons (ss_par 3 4 rfl sc.nd (sa_cons se_str (sa_cons (se_loc sa_nil) sa_nil)))
  (sss_cons (ss_set 5 sc.nd (se_loc (sa_cons se_str (sa_cons se_str (sa_cons se_str (sa_cons se_str (sa_cons se_str (sa_cons se_str (sa_cons se_str (sa_cons se_str (sa_cons se_str (sa_cons se_str (sa_cons se_str (sa_cons se_str (sa_cons se_str (sa_cons se_str (sa_cons se_str (sa_cons se_str sa_nil))))))))))))))))))
  (sss_cons (ss_for hp (si_range1 rfl G.b_range (sa_cons (se_var 2) sa_nil)) (sg_name 6 sc.nd) (sss_cons (ss_set 7 sc.nd (se_call (cal__law_drawn G) rfl hr (by decide) hgd tk rfl (sa_cons (se_var 0) (sa_cons (se_var 1) (sa_cons se_int sa_nil)))))
  (sss_cons (ss_set 8 sc.nd (se_if (SW.st (sw_and (st_gt (se_var 7) se_int) (sw_and1 (st_ne (se_var 5) (se_lst sa_nil) hr)))) (se_met PySem.F.plainAttrs_list PySem.F.slot_list_pop PySem.F.type_list_pop mt_popAt snd_popAt (se_var 5) (sa_cons (se_call (cal__law_drawn G) rfl hr (by decide) hgd tk rfl (sa_cons (se_var 0) (sa_cons (se_var 1) (sa_cons (se_len G.b_len (sa_cons (se_var 5) sa_nil)) sa_nil)))) sa_nil)) (se_add se_str (se_strI G.b_str (sa_cons (se_var 6) sa_nil)))))
  (sss_cons (ss_for hp (si_range1 rfl G.b_range (sa_cons (se_if (st_eq (se_var 7) se_int hr) (se_call (cal__law_drawn G) rfl hr (by decide) hgd tk rfl (sa_cons (se_var 0) (sa_cons (se_var 1) (sa_cons se_int sa_nil)))) se_int) sa_nil)) (sg_name 9 sc.nd) (sss_one (ss_set 8 sc.nd (se_add (se_ix (se_var 3) (se_call (cal__law_drawn G) rfl hr (by decide) hgd tk rfl (sa_cons (se_var 0) (sa_cons (se_var 1) (sa_cons se_int sa_nil))))) (se_var 8)))))
  (sss_one (ss_expr (se_met PySem.F.plainAttrs_list PySem.F.slot_list_append PySem.F.type_list_append mt_append snd_append (se_var 4) (sa_cons (se_var 8) sa_nil))))))))
  (sss_one (ss_ret (se_frz (se_var 4)))))))⟩
theorem cal__law_called (G : Gs K mg) : Cal P w K mg base 2 "_law_called" [] (F__law_called w) := by
  obtain ⟨f, fd, hm, D⟩ := G.d__law_called
  exact ⟨f, fd, ["_law_script", "_law_at", "_law_number"], [], [], hm, D.kp, (fg__law_called G D), D.bindsN (fun _ _ _ _ _ _ us hl => match us, hl with | [_, _, _], _ => rfl), .nil, rfl⟩
/-! _law_step -/
theorem sc__law_step : FnScope ["_law_script", "_law_at", "_law_counts", "_law_kind", "_law_loop", "_law_size", "_law_unit", "_law_k", "_law_near", "_law_far", "_law_forth"] ["_law_script", "_law_at", "_law_counts", "_law_kind"] (defScope (topS 53)) := ⟨rfl, rfl, rfl, by decide +kernel, rfl, by decide +kernel, by decide +kernel⟩
noncomputable def m__law_step (w : World) : MSt := (mSeq (mAsg (mTup (aCons (mCall (F__law_drawn w) [] (aCons (mVar 0) (aCons (mVar 1) (aCons (mOps lenM (aCons (mVar 2) aNil)) aNil)))) (aCons (mOps lenM (aCons (mVar 2) aNil)) aNil))) (gT 2 (gsCons (gN 4) (gsCons (gN 5) gsNil))))
  (mSeq (mAsg (mLc (iR1 (aCons (mVar 5) aNil)) (gN 7) mYes (mOps intM (aCons (mOp2 eqM (mVar 7) (mVar 4)) aNil)) [7]) (gN 6))
  (mSeq (mAsg (mLc (iR1 (aCons (mVar 5) aNil)) (gN 7) mYes (mOp2 subV (mCall (F__law_drawn w) [] (aCons (mVar 0) (aCons (mVar 1) (aCons (mVal (.int 3)) aNil)))) (mCall (F__law_drawn w) [] (aCons (mVar 0) (aCons (mVar 1) (aCons (mVal (.int 2)) aNil))))) [7]) (gN 8))
  (mSeq (mAsg (mLc (iR1 (aCons (mVar 5) aNil)) (gN 7) mYes (mOp2 subV (mCall (F__law_drawn w) [] (aCons (mVar 0) (aCons (mVar 1) (aCons (mVal (.int 11)) aNil)))) (mVal (.int 5))) [7]) (gN 9))
  (mSeq (mAsg (mLc (iR1 (aCons (mVar 5) aNil)) (gN 7) mYes (mCall (F__law_drawn w) [] (aCons (mVar 0) (aCons (mVar 1) (aCons (mVal (.int 3)) aNil)))) [7]) (gN 10))
  (mRet (mOps tupM (aCons (mOp2 getM (mLst (aCons (mOp2 mulV (mLst (aCons (mVal (.int 0)) aNil)) (mVar 5)) (aCons (mVar 6) (aCons (mVar 6) (aCons (mVar 10) (aCons (mVar 8) (aCons (mVar 9) aNil))))))) (mVar 3)) aNil))))))))
noncomputable def F__law_step (w : World) : List Val → Sto → Res Val := runB (m__law_step w) 11 4
theorem fg__law_step (G : Gs K mg) {f : Addr} {fd : FuncData} (D : FunD K "_law_step" "_law_step" (defArgs (topS 53)) (defBody (topS 53)) (defScope (topS 53)) [] [] f fd) : FnG P w K mg base 2 f fd ["_law_script", "_law_at", "_law_counts", "_law_kind"] (spF K (F__law_step w)) := by
  have sc := sc__law_step
  exact fnG_mk (m := m__law_step w) (N := ["_law_script", "_law_at", "_law_counts", "_law_kind", "_law_loop", "_law_size", "_law_unit", "_law_k", "_law_near", "_law_far", "_law_forth"]) (k := 1) D sc__law_step fun cd A fs s H E hr hgd tk hp => ⟨_, (sss_cons (ss_asg (se_tup (sa_cons (se_call (cal__law_drawn G) rfl hr (by decide) hgd tk rfl (sa_cons (se_var 0) (sa_cons (se_var 1) (sa_cons (se_len G.b_len (sa_cons (se_var 2) sa_nil)) sa_nil)))) (sa_cons (se_len G.b_len (sa_cons (se_var 2) sa_nil)) sa_nil))) (sg_tup rfl (sgs_cons (sg_name 4 sc.nd) (sgs_cons (sg_name 5 sc.nd) sgs_nil))))
  (sss_cons (ss_setLc 6 [("_law_k", 7)] rfl sc.nd (si_range1 rfl G.b_range (sa_cons (se_var 5) sa_nil)) rfl (fun _ _ _ _ _ => (sgw_name 7 sc.nd)) (fun _ _ _ _ _ => sif_nil) (fun _ _ _ _ _ => (se_intB G.b_int (sa_cons (se_eq (se_var 7) (se_var 4) hr) sa_nil))))
  (sss_cons (ss_setLc 8 [("_law_k", 7)] rfl sc.nd (si_range1 rfl G.b_range (sa_cons (se_var 5) sa_nil)) rfl (fun _ _ _ _ _ => (sgw_name 7 sc.nd)) (fun _ _ _ _ _ => sif_nil) (fun _ _ _ _ _ => (se_sub (se_call (cal__law_drawn G) rfl hr (by decide) hgd takesF rfl (sa_cons (se_var 0) (sa_cons (se_var 1) (sa_cons se_int sa_nil)))) (se_call (cal__law_drawn G) rfl hr (by decide) hgd takesF rfl (sa_cons (se_var 0) (sa_cons (se_var 1) (sa_cons se_int sa_nil)))))))
  (sss_cons (ss_setLc 9 [("_law_k", 7)] rfl sc.nd (si_range1 rfl G.b_range (sa_cons (se_var 5) sa_nil)) rfl (fun _ _ _ _ _ => (sgw_name 7 sc.nd)) (fun _ _ _ _ _ => sif_nil) (fun _ _ _ _ _ => (se_sub (se_call (cal__law_drawn G) rfl hr (by decide) hgd takesF rfl (sa_cons (se_var 0) (sa_cons (se_var 1) (sa_cons se_int sa_nil)))) se_int)))
  (sss_cons (ss_setLc 10 [("_law_k", 7)] rfl sc.nd (si_range1 rfl G.b_range (sa_cons (se_var 5) sa_nil)) rfl (fun _ _ _ _ _ => (sgw_name 7 sc.nd)) (fun _ _ _ _ _ => sif_nil) (fun _ _ _ _ _ => (se_call (cal__law_drawn G) rfl hr (by decide) hgd takesF rfl (sa_cons (se_var 0) (sa_cons (se_var 1) (sa_cons se_int sa_nil))))))
  (sss_one (ss_ret (se_tupC rfl G.b_tuple (sa_cons (se_ix (se_lst (sa_cons (se_mul (se_lst (sa_cons se_int sa_nil)) (se_var 5)) (sa_cons (se_var 6) (sa_cons (se_var 6) (sa_cons (se_var 10) (sa_cons (se_var 8) (sa_cons (se_var 9) sa_nil))))))) (se_var 3)) sa_nil)))))))))⟩
theorem cal__law_step (G : Gs K mg) : Cal P w K mg base 2 "_law_step" [] (F__law_step w) := by
  obtain ⟨f, fd, hm, D⟩ := G.d__law_step
  exact ⟨f, fd, ["_law_script", "_law_at", "_law_counts", "_law_kind"], [], [], hm, D.kp, (fg__law_step G D), D.bindsN (fun _ _ _ _ _ _ us hl => match us, hl with | [_, _, _, _], _ => rfl), .nil, rfl⟩
/-! _law_use -/
theorem sc__law_use : FnScope ["_law_script", "_law_at", "_law_counts", "_law_names", "_law_own", "_law_wild", "_law_place", "_law_kind", "_law_word", "_law_step_here", "_law_where", "_law_loop"] ["_law_script", "_law_at", "_law_counts", "_law_names", "_law_own", "_law_wild"] (defScope (topS 54)) := ⟨rfl, rfl, rfl, by decide +kernel, rfl, by decide +kernel, by decide +kernel⟩
noncomputable def m__law_use (w : World) : MSt := (mSeq (mAsg (mMet "list" indexM (mVar 3) (aCons (mVar 4) aNil)) (gN 6))
  (mSeq (mAsg (mCall (F__law_drawn w) [] (aCons (mVar 0) (aCons (mVar 1) (aCons (mOp2 getM (mLst (aCons (mVal (.int 5)) (aCons (mVal (.int 9)) aNil))) (mOps intM (aCons (mVar 5) aNil))) aNil)))) (gN 7))
  (mSeq (mIfS (mAndT (mTest (mOp2 (cmpV fun i j => decide (i < j)) (mVar 7) (mVal (.int 3)))) (mTest (mOp2 (cmpV fun i j => decide (j < i)) (mVar 6) (mVal (.int 0))))) (mPar 8 9 (aCons (mOp2 getM (mVar 3) (mCall (F__law_drawn w) [] (aCons (mVar 0) (aCons (mVar 1) (aCons (mVar 6) aNil))))) (aCons (mCall (F__law_step w) [] (aCons (mVar 0) (aCons (mVar 1) (aCons (mVar 2) (aCons (mOp2 getM (mLst (aCons (mVal (.int 0)) (aCons (mVal (.int 1)) (aCons (mVal (.int 3)) aNil)))) (mVar 7)) aNil))))) aNil))) (mIfS (mTest (mOp2 (cmpV fun i j => decide (i < j)) (mVar 7) (mVal (.int 5)))) (mPar 8 9 (aCons (mVar 4) (aCons (mCall (F__law_step w) [] (aCons (mVar 0) (aCons (mVar 1) (aCons (mVar 2) (aCons (mVal (.int 1)) aNil))))) aNil))) (mPar 8 9 (aCons (mOp2 getM (mVar 3) (mCall (F__law_drawn w) [] (aCons (mVar 0) (aCons (mVar 1) (aCons (mOps lenM (aCons (mVar 3) aNil)) aNil))))) (aCons (mCall (F__law_step w) [] (aCons (mVar 0) (aCons (mVar 1) (aCons (mVar 2) (aCons (mOp2 subV (mVar 7) (mVal (.int 3))) aNil))))) aNil)))))
  (mSeq (mAsg (mOps tupM (aCons (mLc (iR1 (aCons (mOps lenM (aCons (mVar 2) aNil)) aNil)) (gN 11) mYes (mTup (aCons (mVar 11) (aCons (mOp2 subV (mCall (F__law_drawn w) [] (aCons (mVar 0) (aCons (mVar 1) (aCons (mVal (.int 5)) aNil)))) (mVal (.int 2))) aNil))) [11]) aNil)) (gN 10))
  (mRet (mTup (aCons (mVal (.str "use")) (aCons (mVar 8) (aCons (mVar 9) (aCons (mOp2 getM (mLst (aCons (mVal (.str "in")) (aCons (mVal (.str "other")) aNil))) (mCall (F__law_drawn w) [] (aCons (mVar 0) (aCons (mVar 1) (aCons (mVal (.int 2)) aNil))))) (aCons (mVar 10) aNil)))))))))))
noncomputable def F__law_use (w : World) : List Val → Sto → Res Val := runB (m__law_use w) 12 6
theorem fg__law_use (G : Gs K mg) {f : Addr} {fd : FuncData} (D : FunD K "_law_use" "_law_use" (defArgs (topS 54)) (defBody (topS 54)) (defScope (topS 54)) [] [] f fd) : FnG P w K mg base 3 f fd ["_law_script", "_law_at", "_law_counts", "_law_names", "_law_own", "_law_wild"] (spF K (F__law_use w)) := by
  have sc := sc__law_use
  exact fnG_mk (m := m__law_use w) (N := ["_law_script", "_law_at", "_law_counts", "_law_names", "_law_own", "_law_wild", "_law_place", "_law_kind", "_law_word", "_law_step_here", "_law_where", "_law_loop"]) (k := 2) D sc__law_use fun cd A fs s H E hr hgd tk hp => ⟨_, (sss_cons (ss_set 6 sc.nd (se_met PySem.F.plainAttrs_list PySem.F.slot_list_index PySem.F.type_list_index mt_index snd_index (se_var 3) (sa_cons (se_var 4) sa_nil)))
  (sss_cons (ss_set 7 sc.nd (se_call (cal__law_drawn G) rfl hr (by decide) hgd tk rfl (sa_cons (se_var 0) (sa_cons (se_var 1) (sa_cons (se_ix (se_lst (sa_cons se_int (sa_cons se_int sa_nil))) (se_intB G.b_int (sa_cons (se_var 5) sa_nil))) sa_nil)))))
  (sss_cons (ss_if (SW.st (sw_and (st_lt (se_var 7) se_int) (sw_and1 (st_gt (se_var 6) se_int)))) (sss_one (ss_par 8 9 rfl sc.nd (sa_cons (se_ix (se_var 3) (se_call (cal__law_drawn G) rfl hr (by decide) hgd tk rfl (sa_cons (se_var 0) (sa_cons (se_var 1) (sa_cons (se_var 6) sa_nil))))) (sa_cons (se_call (cal__law_step G) rfl hr (by decide) hgd tk rfl (sa_cons (se_var 0) (sa_cons (se_var 1) (sa_cons (se_var 2) (sa_cons (se_ix (se_lst (sa_cons se_int (sa_cons se_int (sa_cons se_int sa_nil)))) (se_var 7)) sa_nil))))) sa_nil)))) (sss_one (ss_if (st_lt (se_var 7) se_int) (sss_one (ss_par 8 9 rfl sc.nd (sa_cons (se_var 4) (sa_cons (se_call (cal__law_step G) rfl hr (by decide) hgd tk rfl (sa_cons (se_var 0) (sa_cons (se_var 1) (sa_cons (se_var 2) (sa_cons se_int sa_nil))))) sa_nil)))) (sss_one (ss_par 8 9 rfl sc.nd (sa_cons (se_ix (se_var 3) (se_call (cal__law_drawn G) rfl hr (by decide) hgd tk rfl (sa_cons (se_var 0) (sa_cons (se_var 1) (sa_cons (se_len G.b_len (sa_cons (se_var 3) sa_nil)) sa_nil))))) (sa_cons (se_call (cal__law_step G) rfl hr (by decide) hgd tk rfl (sa_cons (se_var 0) (sa_cons (se_var 1) (sa_cons (se_var 2) (sa_cons (se_sub (se_var 7) se_int) sa_nil))))) sa_nil)))))))
  (sss_cons (ss_set 10 sc.nd (se_tupC rfl G.b_tuple (sa_cons (se_lc [("_law_loop", 11)] rfl sc.nd (si_range1 rfl G.b_range (sa_cons (se_len G.b_len (sa_cons (se_var 2) sa_nil)) sa_nil)) rfl (fun _ _ _ _ _ => (sgw_name 11 sc.nd)) (fun _ _ _ _ _ => sif_nil) (fun _ _ _ _ _ => (se_tup (sa_cons (se_var 11) (sa_cons (se_sub (se_call (cal__law_drawn G) rfl hr (by decide) hgd takesF rfl (sa_cons (se_var 0) (sa_cons (se_var 1) (sa_cons se_int sa_nil)))) se_int) sa_nil))))) sa_nil)))
  (sss_one (ss_ret (se_tup (sa_cons se_str (sa_cons (se_var 8) (sa_cons (se_var 9) (sa_cons (se_ix (se_lst (sa_cons se_str (sa_cons se_str sa_nil))) (se_call (cal__law_drawn G) rfl hr (by decide) hgd tk rfl (sa_cons (se_var 0) (sa_cons (se_var 1) (sa_cons se_int sa_nil))))) (sa_cons (se_var 10) sa_nil))))))))))))⟩
theorem cal__law_use (G : Gs K mg) : Cal P w K mg base 3 "_law_use" [] (F__law_use w) := by
  obtain ⟨f, fd, hm, D⟩ := G.d__law_use
  exact ⟨f, fd, ["_law_script", "_law_at", "_law_counts", "_law_names", "_law_own", "_law_wild"], [], [], hm, D.kp, (fg__law_use G D), D.bindsN (fun _ _ _ _ _ _ us hl => match us, hl with | [_, _, _, _, _, _], _ => rfl), .nil, rfl⟩
/-! _law_body -/
theorem sc__law_body : FnScope ["_law_script", "_law_at", "_law_counts", "_law_names", "_law_own", "_law_deep", "_law_wild", "_law_kind", "_law_op", "_law_k", "_law_where", "_law_loop", "_law_some"] ["_law_script", "_law_at", "_law_counts", "_law_names", "_law_own", "_law_deep", "_law_wild"] (defScope (topS 55)) := ⟨rfl, rfl, rfl, by decide +kernel, rfl, by decide +kernel, by decide +kernel⟩
noncomputable def m__law_body (w : World) (rec : List Val → Sto → Res Val) : MSt := (mSeq (mAsg (mIf (mTest (mOp2 (cmpV fun i j => decide (j < i)) (mVar 5) (mVal (.int 0)))) (mCall (F__law_drawn w) [] (aCons (mVar 0) (aCons (mVar 1) (aCons (mVal (.int 9)) aNil)))) (mOp2 addV (mVal (.int 3)) (mCall (F__law_drawn w) [] (aCons (mVar 0) (aCons (mVar 1) (aCons (mVal (.int 6)) aNil)))))) (gN 7))
  (mSeq (mIfS (mTest (mOp2 (cmpV fun i j => decide (i < j)) (mVar 7) (mVal (.int 2)))) (mSeq (mAsg (mOp2 getM (mLst (aCons (mVal (.str "add")) (aCons (mVal (.str "sub")) (aCons (mVal (.str "mul")) (aCons (mVal (.str "min")) (aCons (mVal (.str "max")) aNil)))))) (mCall (F__law_drawn w) [] (aCons (mVar 0) (aCons (mVar 1) (aCons (mVal (.int 5)) aNil))))) (gN 8))
  (mRet (mOp2 addV (mTup (aCons (mVar 8) aNil)) (mOps tupM (aCons (mLc (iR1 (aCons (mVal (.int 2)) aNil)) (gN 9) mYes (mCall rec [] (aCons (mVar 0) (aCons (mVar 1) (aCons (mVar 2) (aCons (mVar 3) (aCons (mVar 4) (aCons (mOp2 subV (mVar 5) (mVal (.int 1))) (aCons (mVar 6) aNil)))))))) [9]) aNil))))) mNext)
  (mSeq (mIfS (mTest (mOp2 eqM (mVar 7) (mVal (.int 2)))) (mRet (mOp2 addV (mTup (aCons (mVal (.str "pick")) aNil)) (mOps tupM (aCons (mLc (iR1 (aCons (mVal (.int 3)) aNil)) (gN 9) mYes (mCall rec [] (aCons (mVar 0) (aCons (mVar 1) (aCons (mVar 2) (aCons (mVar 3) (aCons (mVar 4) (aCons (mOp2 subV (mVar 5) (mVal (.int 1))) (aCons (mVar 6) aNil)))))))) [9]) aNil)))) mNext)
  (mSeq (mIfS (mTest (mOp2 (cmpV fun i j => decide (j < i)) (mVar 7) (mVal (.int 4)))) (mRet (mCall (F__law_use w) [] (aCons (mVar 0) (aCons (mVar 1) (aCons (mVar 2) (aCons (mVar 3) (aCons (mVar 4) (aCons (mVar 6) aNil)))))))) mNext)
  (mSeq (mAsg (mOps tupM (aCons (mLc (iR1 (aCons (mOps lenM (aCons (mVar 2) aNil)) aNil)) (gN 11) mYes (mTup (aCons (mVar 11) (aCons (mOp2 subV (mCall (F__law_drawn w) [] (aCons (mVar 0) (aCons (mVar 1) (aCons (mVal (.int 5)) aNil)))) (mVal (.int 2))) aNil))) [11]) aNil)) (gN 10))
  (mSeq (mAsg (mLst (aCons (mTup (aCons (mVal (.str "num")) (aCons (mOp2 mulV (mCall (F__law_drawn w) [] (aCons (mVar 0) (aCons (mVar 1) (aCons (mVal (.int 1000)) aNil)))) (mVal (.int 65))) aNil))) (aCons (mTup (aCons (mVal (.str "loop")) (aCons (mCall (F__law_drawn w) [] (aCons (mVar 0) (aCons (mVar 1) (aCons (mOps lenM (aCons (mVar 2) aNil)) aNil)))) aNil))) aNil))) (gN 12))
  (mRet (mOp2 getM (mOp2 addV (mLst (aCons (mTup (aCons (mVal (.str "given")) (aCons (mVal (.str "in")) (aCons (mVar 10) aNil)))) aNil)) (mVar 12)) (mOp2 getM (mLst (aCons (mVal (.int 0)) (aCons (mCall (F__law_drawn w) [] (aCons (mVar 0) (aCons (mVar 1) (aCons (mVal (.int 3)) aNil)))) aNil))) (mOp2 subV (mVar 7) (mVal (.int 3))))))))))))
noncomputable def F__law_body (w : World) : Nat → List Val → Sto → Res Val
  | 0 => fun _ _ => .bad
  | n + 1 => runB (m__law_body w (F__law_body w n)) 13 7
theorem fg__law_body (G : Gs K mg) {f : Addr} {fd : FuncData} (hm : mg "_law_body" = some (.ref f)) (D : FunD K "_law_body" "_law_body" (defArgs (topS 55)) (defBody (topS 55)) (defScope (topS 55)) [] [] f fd) : ∀ n : Nat, FnG P w K mg base (3 + n) f fd ["_law_script", "_law_at", "_law_counts", "_law_names", "_law_own", "_law_deep", "_law_wild"] (spF K (F__law_body w n))
  | 0 => ⟨fun vs H Q E h => (by obtain ⟨_, _, _, _, _, h⟩ := h; exact h.elim), fun A fs s H as us vs Q E _ _ _ _ _ h => (by obtain ⟨_, _, _, _, _, h⟩ := h; exact h.elim)⟩
  | n + 1 => by
    have calR : Cal P w K mg base (3 + n) "_law_body" [] (F__law_body w n) := ⟨f, fd, ["_law_script", "_law_at", "_law_counts", "_law_names", "_law_own", "_law_deep", "_law_wild"], [], [], hm, D.kp, fg__law_body G hm D n, D.bindsN (fun _ _ _ _ _ _ us hl => match us, hl with | [_, _, _, _, _, _, _], _ => rfl), .nil, rfl⟩
    have sc := sc__law_body
    exact fnG_mk (m := m__law_body w (F__law_body w n)) (N := ["_law_script", "_law_at", "_law_counts", "_law_names", "_law_own", "_law_deep", "_law_wild", "_law_kind", "_law_op", "_law_k", "_law_where", "_law_loop", "_law_some"]) (k := 3 + n) D sc__law_body fun cd A fs s H E hr hgd tk hp => ⟨_, (sss_cons (ss_set 7 sc.nd (se_if (st_gt (se_var 5) se_int) (se_call (cal__law_drawn G) rfl hr (by omega) hgd tk rfl (sa_cons (se_var 0) (sa_cons (se_var 1) (sa_cons se_int sa_nil)))) (se_add se_int (se_call (cal__law_drawn G) rfl hr (by omega) hgd tk rfl (sa_cons (se_var 0) (sa_cons (se_var 1) (sa_cons se_int sa_nil)))))))
  (sss_cons (ss_if (st_lt (se_var 7) se_int) (sss_cons (ss_set 8 sc.nd (se_ix (se_lst (sa_cons se_str (sa_cons se_str (sa_cons se_str (sa_cons se_str (sa_cons se_str sa_nil)))))) (se_call (cal__law_drawn G) rfl hr (by omega) hgd tk rfl (sa_cons (se_var 0) (sa_cons (se_var 1) (sa_cons se_int sa_nil))))))
  (sss_one (ss_ret (se_add (se_tup (sa_cons (se_var 8) sa_nil)) (se_tupC rfl G.b_tuple (sa_cons (se_lc [("_law_k", 9)] rfl sc.nd (si_range1 rfl G.b_range (sa_cons se_int sa_nil)) rfl (fun _ _ _ _ _ => (sgw_name 9 sc.nd)) (fun _ _ _ _ _ => sif_nil) (fun _ _ _ _ _ => (se_call calR rfl hr (by omega) hgd takesF rfl (sa_cons (se_var 0) (sa_cons (se_var 1) (sa_cons (se_var 2) (sa_cons (se_var 3) (sa_cons (se_var 4) (sa_cons (se_sub (se_var 5) se_int) (sa_cons (se_var 6) sa_nil)))))))))) sa_nil)))))) sss_nil)
  (sss_cons (ss_if (st_eq (se_var 7) se_int hr) (sss_one (ss_ret (se_add (se_tup (sa_cons se_str sa_nil)) (se_tupC rfl G.b_tuple (sa_cons (se_lc [("_law_k", 9)] rfl sc.nd (si_range1 rfl G.b_range (sa_cons se_int sa_nil)) rfl (fun _ _ _ _ _ => (sgw_name 9 sc.nd)) (fun _ _ _ _ _ => sif_nil) (fun _ _ _ _ _ => (se_call calR rfl hr (by omega) hgd takesF rfl (sa_cons (se_var 0) (sa_cons (se_var 1) (sa_cons (se_var 2) (sa_cons (se_var 3) (sa_cons (se_var 4) (sa_cons (se_sub (se_var 5) se_int) (sa_cons (se_var 6) sa_nil)))))))))) sa_nil))))) sss_nil)
  (sss_cons (ss_if (st_gt (se_var 7) se_int) (sss_one (ss_ret (se_call (cal__law_use G) rfl hr (by omega) hgd tk rfl (sa_cons (se_var 0) (sa_cons (se_var 1) (sa_cons (se_var 2) (sa_cons (se_var 3) (sa_cons (se_var 4) (sa_cons (se_var 6) sa_nil))))))))) sss_nil)
  (sss_cons (ss_set 10 sc.nd (se_tupC rfl G.b_tuple (sa_cons (se_lc [("_law_loop", 11)] rfl sc.nd (si_range1 rfl G.b_range (sa_cons (se_len G.b_len (sa_cons (se_var 2) sa_nil)) sa_nil)) rfl (fun _ _ _ _ _ => (sgw_name 11 sc.nd)) (fun _ _ _ _ _ => sif_nil) (fun _ _ _ _ _ => (se_tup (sa_cons (se_var 11) (sa_cons (se_sub (se_call (cal__law_drawn G) rfl hr (by omega) hgd takesF rfl (sa_cons (se_var 0) (sa_cons (se_var 1) (sa_cons se_int sa_nil)))) se_int) sa_nil))))) sa_nil)))
  (sss_cons (ss_set 12 sc.nd (se_lst (sa_cons (se_tup (sa_cons se_str (sa_cons (se_mul (se_call (cal__law_drawn G) rfl hr (by omega) hgd tk rfl (sa_cons (se_var 0) (sa_cons (se_var 1) (sa_cons se_int sa_nil)))) se_int) sa_nil))) (sa_cons (se_tup (sa_cons se_str (sa_cons (se_call (cal__law_drawn G) rfl hr (by omega) hgd tk rfl (sa_cons (se_var 0) (sa_cons (se_var 1) (sa_cons (se_len G.b_len (sa_cons (se_var 2) sa_nil)) sa_nil)))) sa_nil))) sa_nil))))
  (sss_one (ss_ret (se_ix (se_add (se_lst (sa_cons (se_tup (sa_cons se_str (sa_cons se_str (sa_cons (se_var 10) sa_nil)))) sa_nil)) (se_var 12)) (se_ix (se_lst (sa_cons se_int (sa_cons (se_call (cal__law_drawn G) rfl hr (by omega) hgd tk rfl (sa_cons (se_var 0) (sa_cons (se_var 1) (sa_cons se_int sa_nil)))) sa_nil))) (se_sub (se_var 7) se_int)))))))))))⟩
theorem cal__law_body (G : Gs K mg) : Cal P w K mg base 19 "_law_body" [] (F__law_body w 16) := by
  obtain ⟨f, fd, hm, D⟩ := G.d__law_body
  exact ⟨f, fd, ["_law_script", "_law_at", "_law_counts", "_law_names", "_law_own", "_law_deep", "_law_wild"], [], [], hm, D.kp, (fg__law_body G hm D 16), D.bindsN (fun _ _ _ _ _ _ us hl => match us, hl with | [_, _, _, _, _, _, _], _ => rfl), .nil, rfl⟩
/-! _law_made -/
theorem sc__law_made : FnScope ["_law_script", "_law_at", "_law_most", "_law_wild", "_law_counts", "_law_k", "_law_names", "_law_found", "_law_own"] ["_law_script", "_law_at", "_law_most", "_law_wild"] (defScope (topS 56)) := ⟨rfl, rfl, rfl, by decide +kernel, rfl, by decide +kernel, by decide +kernel⟩
noncomputable def m__law_made (w : World) : MSt := (mSeq (mAsg (mOps tupM (aCons (mLc (iR1 (aCons (mOp2 addV (mVal (.int 1)) (mCall (F__law_drawn w) [] (aCons (mVar 0) (aCons (mVar 1) (aCons (mVal (.int 3)) aNil))))) aNil)) (gN 5) mYes (mOp2 addV (mVal (.int 1)) (mCall (F__law_drawn w) [] (aCons (mVar 0) (aCons (mVar 1) (aCons (mVal (.int 6)) aNil))))) [5]) aNil)) (gN 4))
  (mSeq (mAsg (mCall (F__law_called w) [] (aCons (mVar 0) (aCons (mVar 1) (aCons (mOp2 addV (mVal (.int 1)) (mCall (F__law_drawn w) [] (aCons (mVar 0) (aCons (mVar 1) (aCons (mVar 2) aNil))))) aNil)))) (gN 6))
  (mSeq (mAsg (mLoc aNil) (gN 7))
  (mSeq (mFor (iSq (mVar 6)) (gN 8) (mExpr (mMet "list" appendM (mVar 7) (aCons (mTup (aCons (mVar 8) (aCons (mCall (F__law_body w 16) [] (aCons (mVar 0) (aCons (mVar 1) (aCons (mVar 4) (aCons (mVar 6) (aCons (mVar 8) (aCons (mOp2 getM (mLst (aCons (mVal (.int 1)) (aCons (mVal (.int 2)) (aCons (mVal (.int 0)) aNil)))) (mCall (F__law_drawn w) [] (aCons (mVar 0) (aCons (mVar 1) (aCons (mVal (.int 3)) aNil))))) (aCons (mVar 3) aNil)))))))) aNil))) aNil))))
  (mRet (mTup (aCons (mVar 4) (aCons (mOps tupM (aCons (mVar 7) aNil)) aNil))))))))
noncomputable def F__law_made (w : World) : List Val → Sto → Res Val := runB (m__law_made w) 9 4
theorem fg__law_made (G : Gs K mg) {f : Addr} {fd : FuncData} (D : FunD K "_law_made" "_law_made" (defArgs (topS 56)) (defBody (topS 56)) (defScope (topS 56)) [] [] f fd) : FnG P w K mg base 20 f fd ["_law_script", "_law_at", "_law_most", "_law_wild"] (spF K (F__law_made w)) := by
  have sc := sc__law_made
  exact fnG_mk (m := m__law_made w) (N := ["_law_script", "_law_at", "_law_most", "_law_wild", "_law_counts", "_law_k", "_law_names", "_law_found", "_law_own"]) (k := 19) D sc__law_made fun cd A fs s H E hr hgd tk hp => ⟨_, (sss_cons (ss_set 4 sc.nd (se_tupC rfl G.b_tuple (sa_cons (se_lc [("_law_k", 5)] rfl sc.nd (si_range1 rfl G.b_range (sa_cons (se_add se_int (se_call (cal__law_drawn G) rfl hr (by decide) hgd tk rfl (sa_cons (se_var 0) (sa_cons (se_var 1) (sa_cons se_int sa_nil))))) sa_nil)) rfl (fun _ _ _ _ _ => (sgw_name 5 sc.nd)) (fun _ _ _ _ _ => sif_nil) (fun _ _ _ _ _ => (se_add se_int (se_call (cal__law_drawn G) rfl hr (by decide) hgd takesF rfl (sa_cons (se_var 0) (sa_cons (se_var 1) (sa_cons se_int sa_nil))))))) sa_nil)))
  (sss_cons (ss_set 6 sc.nd (se_call (cal__law_called G) rfl hr (by decide) hgd tk rfl (sa_cons (se_var 0) (sa_cons (se_var 1) (sa_cons (se_add se_int (se_call (cal__law_drawn G) rfl hr (by decide) hgd tk rfl (sa_cons (se_var 0) (sa_cons (se_var 1) (sa_cons (se_var 2) sa_nil))))) sa_nil)))))
  (sss_cons (ss_set 7 sc.nd (se_loc sa_nil))
  (sss_cons (ss_for hp (si_seq (se_var 6)) (sg_name 8 sc.nd) (sss_one (ss_expr (se_met PySem.F.plainAttrs_list PySem.F.slot_list_append PySem.F.type_list_append mt_append snd_append (se_var 7) (sa_cons (se_tup (sa_cons (se_var 8) (sa_cons (se_call (cal__law_body G) rfl hr (by decide) hgd tk rfl (sa_cons (se_var 0) (sa_cons (se_var 1) (sa_cons (se_var 4) (sa_cons (se_var 6) (sa_cons (se_var 8) (sa_cons (se_ix (se_lst (sa_cons se_int (sa_cons se_int (sa_cons se_int sa_nil)))) (se_call (cal__law_drawn G) rfl hr (by decide) hgd tk rfl (sa_cons (se_var 0) (sa_cons (se_var 1) (sa_cons se_int sa_nil))))) (sa_cons (se_var 3) sa_nil)))))))) sa_nil))) sa_nil)))))
  (sss_one (ss_ret (se_tup (sa_cons (se_var 4) (sa_cons (se_tupC rfl G.b_tuple (sa_cons (se_var 7) sa_nil)) sa_nil)))))))))⟩
theorem cal__law_made (G : Gs K mg) : Cal P w K mg base 20 "_law_made" [] (F__law_made w) := by
  obtain ⟨f, fd, hm, D⟩ := G.d__law_made
  exact ⟨f, fd, ["_law_script", "_law_at", "_law_most", "_law_wild"], [], [], hm, D.kp, (fg__law_made G D), D.bindsN (fun _ _ _ _ _ _ us hl => match us, hl with | [_, _, _, _], _ => rfl), .nil, rfl⟩
/-! _law_vector -/
theorem sc__law_vector : FnScope ["_law_script", "_law_at", "_law_size", "_law_some", "_law_k"] ["_law_script", "_law_at", "_law_size"] (defScope (topS 57)) := ⟨rfl, rfl, rfl, by decide +kernel, rfl, by decide +kernel, by decide +kernel⟩
noncomputable def m__law_vector (w : World) : MSt := (mSeq (mAsg (mLst (aCons (mLc (iR1 (aCons (mVar 2) aNil)) (gN 4) mYes (mOp2 addV (mVal (.int 1)) (mCall (F__law_drawn w) [] (aCons (mVar 0) (aCons (mVar 1) (aCons (mVal (.int 4)) aNil))))) [4]) (aCons (mLc (iR1 (aCons (mVar 2) aNil)) (gN 4) mYes (mOp2 subV (mCall (F__law_drawn w) [] (aCons (mVar 0) (aCons (mVar 1) (aCons (mVal (.int 9)) aNil)))) (mVal (.int 4))) [4]) aNil))) (gN 3))
  (mSeq (mAsg (mOp2 addV (mVar 3) (mLst (aCons (mOp2 mulV (mLst (aCons (mVal (.int 1)) aNil)) (mVar 2)) (aCons (mLc (iR1 (aCons (mVar 2) aNil)) (gN 4) mYes (mCall (F__law_drawn w) [] (aCons (mVar 0) (aCons (mVar 1) (aCons (mVal (.int 3)) aNil)))) [4]) (aCons (mOp2 mulV (mLst (aCons (mVal (.int 0)) aNil)) (mVar 2)) aNil))))) (gN 3))
  (mRet (mOps tupM (aCons (mOp2 getM (mVar 3) (mOp2 getM (mLst (aCons (mVal (.int 0)) (aCons (mVal (.int 0)) (aCons (mVal (.int 1)) (aCons (mVal (.int 2)) (aCons (mVal (.int 3)) (aCons (mVal (.int 0)) (aCons (mVal (.int 1)) (aCons (mVal (.int 4)) aNil))))))))) (mCall (F__law_drawn w) [] (aCons (mVar 0) (aCons (mVar 1) (aCons (mVal (.int 8)) aNil)))))) aNil)))))
noncomputable def F__law_vector (w : World) : List Val → Sto → Res Val := runB (m__law_vector w) 5 3
theorem fg__law_vector (G : Gs K mg) {f : Addr} {fd : FuncData} (D : FunD K "_law_vector" "_law_vector" (defArgs (topS 57)) (defBody (topS 57)) (defScope (topS 57)) [] [] f fd) : FnG P w K mg base 2 f fd ["_law_script", "_law_at", "_law_size"] (spF K (F__law_vector w)) := by
  have sc := sc__law_vector
  exact fnG_mk (m := m__law_vector w) (N := ["_law_script", "_law_at", "_law_size", "_law_some", "_law_k"]) (k := 1) D sc__law_vector fun cd A fs s H E hr hgd tk hp => ⟨_, (sss_cons (ss_set 3 sc.nd (se_lst (sa_cons (se_lc [("_law_k", 4)] rfl sc.nd (si_range1 rfl G.b_range (sa_cons (se_var 2) sa_nil)) rfl (fun _ _ _ _ _ => (sgw_name 4 sc.nd)) (fun _ _ _ _ _ => sif_nil) (fun _ _ _ _ _ => (se_add se_int (se_call (cal__law_drawn G) rfl hr (by decide) hgd takesF rfl (sa_cons (se_var 0) (sa_cons (se_var 1) (sa_cons se_int sa_nil))))))) (sa_cons (se_lc [("_law_k", 4)] rfl sc.nd (si_range1 rfl G.b_range (sa_cons (se_var 2) sa_nil)) rfl (fun _ _ _ _ _ => (sgw_name 4 sc.nd)) (fun _ _ _ _ _ => sif_nil) (fun _ _ _ _ _ => (se_sub (se_call (cal__law_drawn G) rfl hr (by decide) hgd takesF rfl (sa_cons (se_var 0) (sa_cons (se_var 1) (sa_cons se_int sa_nil)))) se_int))) sa_nil))))
  (sss_cons (ss_set 3 sc.nd (se_add (se_var 3) (se_lst (sa_cons (se_mul (se_lst (sa_cons se_int sa_nil)) (se_var 2)) (sa_cons (se_lc [("_law_k", 4)] rfl sc.nd (si_range1 rfl G.b_range (sa_cons (se_var 2) sa_nil)) rfl (fun _ _ _ _ _ => (sgw_name 4 sc.nd)) (fun _ _ _ _ _ => sif_nil) (fun _ _ _ _ _ => (se_call (cal__law_drawn G) rfl hr (by decide) hgd takesF rfl (sa_cons (se_var 0) (sa_cons (se_var 1) (sa_cons se_int sa_nil)))))) (sa_cons (se_mul (se_lst (sa_cons se_int sa_nil)) (se_var 2)) sa_nil))))))
  (sss_one (ss_ret (se_tupC rfl G.b_tuple (sa_cons (se_ix (se_var 3) (se_ix (se_lst (sa_cons se_int (sa_cons se_int (sa_cons se_int (sa_cons se_int (sa_cons se_int (sa_cons se_int (sa_cons se_int (sa_cons se_int sa_nil))))))))) (se_call (cal__law_drawn G) rfl hr (by decide) hgd tk rfl (sa_cons (se_var 0) (sa_cons (se_var 1) (sa_cons se_int sa_nil)))))) sa_nil))))))⟩
theorem cal__law_vector (G : Gs K mg) : Cal P w K mg base 2 "_law_vector" [] (F__law_vector w) := by
  obtain ⟨f, fd, hm, D⟩ := G.d__law_vector
  exact ⟨f, fd, ["_law_script", "_law_at", "_law_size"], [], [], hm, D.kp, (fg__law_vector G D), D.bindsN (fun _ _ _ _ _ _ us hl => match us, hl with | [_, _, _], _ => rfl), .nil, rfl⟩
/-! _law_shuffled -/
theorem sc__law_shuffled : FnScope ["_law_script", "_law_at", "_law_some", "_law_left", "_law_found"] ["_law_script", "_law_at", "_law_some"] (defScope (topS 58)) := ⟨rfl, rfl, rfl, by decide +kernel, rfl, by decide +kernel, by decide +kernel⟩
noncomputable def m__law_shuffled (w : World) : MSt := (mSeq (mPar 3 4 (aCons (mOps lstLM (aCons (mVar 2) aNil)) (aCons (mLoc aNil) aNil)))
  (mSeq (whileN (mTest (mOp2 neM (mVar 3) (mLst aNil))) (mExpr (mMet "list" appendM (mVar 4) (aCons (mMet "list" popAtM (mVar 3) (aCons (mCall (F__law_drawn w) [] (aCons (mVar 0) (aCons (mVar 1) (aCons (mOps lenM (aCons (mVar 3) aNil)) aNil)))) aNil)) aNil))) 41)
  (mRet (mOp1 frzM (mVar 4)))))
noncomputable def F__law_shuffled (w : World) : List Val → Sto → Res Val := runB (m__law_shuffled w) 5 3
theorem fg__law_shuffled (G : Gs K mg) {f : Addr} {fd : FuncData} (D : FunD K "_law_shuffled" "_law_shuffled" (defArgs (topS 58)) (defBody (topS 58)) (defScope (topS 58)) [] [] f fd) : FnG P w K mg base 2 f fd ["_law_script", "_law_at", "_law_some"] (spF K (F__law_shuffled w)) := by
  have sc := sc__law_shuffled
  exact fnG_mk (m := m__law_shuffled w) (N := ["_law_script", "_law_at", "_law_some", "_law_left", "_law_found"]) (k := 1) D sc__law_shuffled fun cd A fs s H E hr hgd tk hp => ⟨_, (sss_cons (ss_par 3 4 rfl sc.nd (sa_cons (se_lstL G.b_list (sa_cons (se_var 2) sa_nil)) (sa_cons (se_loc sa_nil) sa_nil)))
  (sss_cons (ss_while 41 hp (st_ne (se_var 3) (se_lst sa_nil) hr) (sss_one (ss_expr (se_met PySem.F.plainAttrs_list PySem.F.slot_list_append PySem.F.type_list_append mt_append snd_append (se_var 4) (sa_cons (se_met PySem.F.plainAttrs_list PySem.F.slot_list_pop PySem.F.type_list_pop mt_popAt snd_popAt (se_var 3) (sa_cons (se_call (cal__law_drawn G) rfl hr (by decide) hgd tk rfl (sa_cons (se_var 0) (sa_cons (se_var 1) (sa_cons (se_len G.b_len (sa_cons (se_var 3) sa_nil)) sa_nil)))) sa_nil)) sa_nil)))))
  (sss_one (ss_ret (se_frz (se_var 4))))))⟩
theorem cal__law_shuffled (G : Gs K mg) : Cal P w K mg base 2 "_law_shuffled" [] (F__law_shuffled w) := by
  obtain ⟨f, fd, hm, D⟩ := G.d__law_shuffled
  exact ⟨f, fd, ["_law_script", "_law_at", "_law_some"], [], [], hm, D.kp, (fg__law_shuffled G D), D.bindsN (fun _ _ _ _ _ _ us hl => match us, hl with | [_, _, _], _ => rfl), .nil, rfl⟩
/-! _law_turned_body -/
theorem sc__law_turned_body : FnScope ["_law_body_here", "_law_order", "_law_words", "_law_word", "_law_where", "_law_loop", "_law_shift", "_law_part"] ["_law_body_here", "_law_order", "_law_words"] (defScope (topS 59)) := ⟨rfl, rfl, rfl, by decide +kernel, rfl, by decide +kernel, by decide +kernel⟩
noncomputable def m__law_turned_body (w : World) (rec : List Val → Sto → Res Val) : MSt := (mSeq (mAsg (mOp2 getM (mVar 0) (mVal (.int 0))) (gN 3))
  (mSeq (mIfS (mTest (mOp2 eqM (mVar 3) (mVal (.str "num")))) (mRet (mVar 0)) mNext)
  (mSeq (mIfS (mTest (mOp2 eqM (mVar 3) (mVal (.str "loop")))) (mRet (mTup (aCons (mVar 3) (aCons (mMet "list" indexM (mVar 1) (aCons (mOp2 getM (mVar 0) (mVal (.int 1))) aNil)) aNil)))) mNext)
  (mSeq (mIfS (mTest (mOp2 inM (mVar 3) (mTup (aCons (mVal (.str "given")) (aCons (mVal (.str "use")) aNil))))) (mSeq (mAsg (mOps tupM (aCons (mLc (iSq (mOp2 getM (mVar 0) (mOp1 negV (mVal (.int 1))))) (gT 2 (gsCons (gN 5) (gsCons (gN 6) gsNil))) mYes (mTup (aCons (mMet "list" indexM (mVar 1) (aCons (mVar 5) aNil)) (aCons (mVar 6) aNil))) [5, 6]) aNil)) (gN 4))
  (mSeq (mIfS (mTest (mOp2 eqM (mVar 3) (mVal (.str "given")))) (mRet (mTup (aCons (mVar 3) (aCons (mOp2 getM (mVar 0) (mVal (.int 1))) (aCons (mVar 4) aNil))))) mNext)
  (mRet (mTup (aCons (mVar 3) (aCons (mOp2 dgetM (mVar 2) (mOp2 getM (mVar 0) (mVal (.int 1)))) (aCons (mOps tupM (aCons (mLc (iSq (mVar 1)) (gN 5) mYes (mOp2 getM (mOp2 getM (mVar 0) (mVal (.int 2))) (mVar 5)) [5]) aNil)) (aCons (mOp2 getM (mVar 0) (mVal (.int 3))) (aCons (mVar 4) aNil))))))))) mNext)
  (mRet (mOp2 addV (mTup (aCons (mVar 3) aNil)) (mOps tupM (aCons (mLc (iSq (mCut (mVar 0) (mPart (mVal (.int 1))) mNoPart)) (gN 7) mYes (mCall rec [] (aCons (mVar 7) (aCons (mVar 1) (aCons (mVar 2) aNil)))) [7]) aNil))))))))
noncomputable def F__law_turned_body (w : World) : Nat → List Val → Sto → Res Val
  | 0 => fun _ _ => .bad
  | n + 1 => runB (m__law_turned_body w (F__law_turned_body w n)) 8 3
theorem fg__law_turned_body (G : Gs K mg) {f : Addr} {fd : FuncData} (hm : mg "_law_turned_body" = some (.ref f)) (D : FunD K "_law_turned_body" "_law_turned_body" (defArgs (topS 59)) (defBody (topS 59)) (defScope (topS 59)) [] [] f fd) : ∀ n : Nat, FnG P w K mg base (0 + n) f fd ["_law_body_here", "_law_order", "_law_words"] (spF K (F__law_turned_body w n))
  | 0 => ⟨fun vs H Q E h => (by obtain ⟨_, _, _, _, _, h⟩ := h; exact h.elim), fun A fs s H as us vs Q E _ _ _ _ _ h => (by obtain ⟨_, _, _, _, _, h⟩ := h; exact h.elim)⟩
  | n + 1 => by
    have calR : Cal P w K mg base (0 + n) "_law_turned_body" [] (F__law_turned_body w n) := ⟨f, fd, ["_law_body_here", "_law_order", "_law_words"], [], [], hm, D.kp, fg__law_turned_body G hm D n, D.bindsN (fun _ _ _ _ _ _ us hl => match us, hl with | [_, _, _], _ => rfl), .nil, rfl⟩
    have sc := sc__law_turned_body
    exact fnG_mk (m := m__law_turned_body w (F__law_turned_body w n)) (N := ["_law_body_here", "_law_order", "_law_words", "_law_word", "_law_where", "_law_loop", "_law_shift", "_law_part"]) (k := 0 + n) D sc__law_turned_body fun cd A fs s H E hr hgd tk hp => ⟨_, (sss_cons (ss_set 3 sc.nd (se_ix (se_var 0) se_int))
  (sss_cons (ss_if (st_eq (se_var 3) se_str hr) (sss_one (ss_ret (se_var 0))) sss_nil)
  (sss_cons (ss_if (st_eq (se_var 3) se_str hr) (sss_one (ss_ret (se_tup (sa_cons (se_var 3) (sa_cons (se_met PySem.F.plainAttrs_list PySem.F.slot_list_index PySem.F.type_list_index mt_index snd_index (se_var 1) (sa_cons (se_ix (se_var 0) se_int) sa_nil)) sa_nil))))) sss_nil)
  (sss_cons (ss_if (st_in (se_var 3) (se_tup (sa_cons se_str (sa_cons se_str sa_nil))) hr) (sss_cons (ss_set 4 sc.nd (se_tupC rfl G.b_tuple (sa_cons (se_lc [("_law_loop", 5), ("_law_shift", 6)] rfl sc.nd (si_seq (se_ix (se_var 0) (se_neg se_int))) rfl (fun _ _ _ _ _ => (sgw_tup rfl (sgsw_cons (sgw_name 5 sc.nd) (sgsw_cons (sgw_name 6 sc.nd) sgsw_nil)))) (fun _ _ _ _ _ => sif_nil) (fun _ _ _ _ _ => (se_tup (sa_cons (se_met PySem.F.plainAttrs_list PySem.F.slot_list_index PySem.F.type_list_index mt_index snd_index (se_var 1) (sa_cons (se_var 5) sa_nil)) (sa_cons (se_var 6) sa_nil))))) sa_nil)))
  (sss_cons (ss_if (st_eq (se_var 3) se_str hr) (sss_one (ss_ret (se_tup (sa_cons (se_var 3) (sa_cons (se_ix (se_var 0) se_int) (sa_cons (se_var 4) sa_nil)))))) sss_nil)
  (sss_one (ss_ret (se_tup (sa_cons (se_var 3) (sa_cons (se_dget hr (se_var 2) (se_ix (se_var 0) se_int)) (sa_cons (se_tupC rfl G.b_tuple (sa_cons (se_lc [("_law_loop", 5)] rfl sc.nd (si_seq (se_var 1)) rfl (fun _ _ _ _ _ => (sgw_name 5 sc.nd)) (fun _ _ _ _ _ => sif_nil) (fun _ _ _ _ _ => (se_ix (se_ix (se_var 0) se_int) (se_var 5)))) sa_nil)) (sa_cons (se_ix (se_var 0) se_int) (sa_cons (se_var 4) sa_nil)))))))))) sss_nil)
  (sss_one (ss_ret (se_add (se_tup (sa_cons (se_var 3) sa_nil)) (se_tupC rfl G.b_tuple (sa_cons (se_lc [("_law_part", 7)] rfl sc.nd (si_seq (se_cut (se_var 0) (so_some se_int) so_none)) rfl (fun _ _ _ _ _ => (sgw_name 7 sc.nd)) (fun _ _ _ _ _ => sif_nil) (fun _ _ _ _ _ => (se_call calR rfl hr (by omega) hgd takesF rfl (sa_cons (se_var 7) (sa_cons (se_var 1) (sa_cons (se_var 2) sa_nil)))))) sa_nil)))))))))⟩
theorem cal__law_turned_body (G : Gs K mg) : Cal P w K mg base 16 "_law_turned_body" [] (F__law_turned_body w 16) := by
  obtain ⟨f, fd, hm, D⟩ := G.d__law_turned_body
  exact ⟨f, fd, ["_law_body_here", "_law_order", "_law_words"], [], [], hm, D.kp, (fg__law_turned_body G hm D 16), D.bindsN (fun _ _ _ _ _ _ us hl => match us, hl with | [_, _, _], _ => rfl), .nil, rfl⟩
/-! _law_turned -/
theorem sc__law_turned : FnScope ["_law_script", "_law_at", "_law_made_here", "_law_order", "_law_queue", "_law_fresh", "_law_words", "_law_row", "_law_other", "_law_rows", "_law_k", "_law_loop"] ["_law_script", "_law_at", "_law_made_here"] (defScope (topS 60)) := ⟨rfl, rfl, rfl, by decide +kernel, rfl, by decide +kernel, by decide +kernel⟩
noncomputable def m__law_turned (w : World) : MSt := (mSeq (mAsg (mCall (F__law_shuffled w) [] (aCons (mVar 0) (aCons (mVar 1) (aCons (mLstRg (mOps lenM (aCons (mOp2 getM (mVar 2) (mVal (.int 0))) aNil))) aNil)))) (gN 3))
  (mSeq (mAsg (mCall (F__law_shuffled w) [] (aCons (mVar 0) (aCons (mVar 1) (aCons (mLstRg (mOps lenM (aCons (mOp2 getM (mVar 2) (mVal (.int 1))) aNil))) aNil)))) (gN 4))
  (mSeq (mAsg (mCall (F__law_called w) [] (aCons (mVar 0) (aCons (mVar 1) (aCons (mOps lenM (aCons (mVar 4) aNil)) aNil)))) (gN 5))
  (mSeq (mAsg (mOps dictPM (aCons (mLc (iZp false (aCons (mOp2 getM (mVar 2) (mVal (.int 1))) (aCons (mVar 5) aNil))) (gT 2 (gsCons (gN 7) (gsCons (gN 8) gsNil))) mYes (mTup (aCons (mOp2 getM (mVar 7) (mVal (.int 0))) (aCons (mVar 8) aNil))) [7, 8]) aNil)) (gN 6))
  (mSeq (mAsg (mLc (iSq (mVar 4)) (gN 10) mYes (mTup (aCons (mOp2 dgetM (mVar 6) (mOp2 getM (mOp2 getM (mOp2 getM (mVar 2) (mVal (.int 1))) (mVar 10)) (mVal (.int 0)))) (aCons (mCall (F__law_turned_body w 16) [] (aCons (mOp2 getM (mOp2 getM (mOp2 getM (mVar 2) (mVal (.int 1))) (mVar 10)) (mVal (.int 1))) (aCons (mVar 3) (aCons (mVar 6) aNil)))) aNil))) [10]) (gN 9))
  (mRet (mTup (aCons (mTup (aCons (mOps tupM (aCons (mLc (iSq (mVar 3)) (gN 11) mYes (mOp2 getM (mOp2 getM (mVar 2) (mVal (.int 0))) (mVar 11)) [11]) aNil)) (aCons (mOps tupM (aCons (mVar 9) aNil)) aNil))) (aCons (mVar 3) (aCons (mVar 4) aNil))))))))))
noncomputable def F__law_turned (w : World) : List Val → Sto → Res Val := runB (m__law_turned w) 12 3
theorem fg__law_turned (G : Gs K mg) {f : Addr} {fd : FuncData} (D : FunD K "_law_turned" "_law_turned" (defArgs (topS 60)) (defBody (topS 60)) (defScope (topS 60)) [] [] f fd) : FnG P w K mg base 17 f fd ["_law_script", "_law_at", "_law_made_here"] (spF K (F__law_turned w)) := by
  have sc := sc__law_turned
  exact fnG_mk (m := m__law_turned w) (N := ["_law_script", "_law_at", "_law_made_here", "_law_order", "_law_queue", "_law_fresh", "_law_words", "_law_row", "_law_other", "_law_rows", "_law_k", "_law_loop"]) (k := 16) D sc__law_turned fun cd A fs s H E hr hgd tk hp => ⟨_, (sss_cons (ss_set 3 sc.nd (se_call (cal__law_shuffled G) rfl hr (by decide) hgd tk rfl (sa_cons (se_var 0) (sa_cons (se_var 1) (sa_cons (se_listRg rfl rfl G.b_list rfl G.b_range (se_len G.b_len (sa_cons (se_ix (se_var 2) se_int) sa_nil))) sa_nil)))))
  (sss_cons (ss_set 4 sc.nd (se_call (cal__law_shuffled G) rfl hr (by decide) hgd tk rfl (sa_cons (se_var 0) (sa_cons (se_var 1) (sa_cons (se_listRg rfl rfl G.b_list rfl G.b_range (se_len G.b_len (sa_cons (se_ix (se_var 2) se_int) sa_nil))) sa_nil)))))
  (sss_cons (ss_set 5 sc.nd (se_call (cal__law_called G) rfl hr (by decide) hgd tk rfl (sa_cons (se_var 0) (sa_cons (se_var 1) (sa_cons (se_len G.b_len (sa_cons (se_var 4) sa_nil)) sa_nil)))))
  (sss_cons (ss_set 6 sc.nd (se_dictP rfl G.b_dict (sa_cons (se_lc [("_law_row", 7), ("_law_other", 8)] rfl sc.nd (si_zip rfl G.b_zip (sa_cons (se_ix (se_var 2) se_int) (sa_cons (se_var 5) sa_nil))) rfl (fun _ _ _ _ _ => (sgw_tup rfl (sgsw_cons (sgw_name 7 sc.nd) (sgsw_cons (sgw_name 8 sc.nd) sgsw_nil)))) (fun _ _ _ _ _ => sif_nil) (fun _ _ _ _ _ => (se_tup (sa_cons (se_ix (se_var 7) se_int) (sa_cons (se_var 8) sa_nil))))) sa_nil)))
  (sss_cons (ss_setLc 9 [("_law_k", 10)] rfl sc.nd (si_seq (se_var 4)) rfl (fun _ _ _ _ _ => (sgw_name 10 sc.nd)) (fun _ _ _ _ _ => sif_nil) (fun _ _ _ _ _ => (se_tup (sa_cons (se_dget hr (se_var 6) (se_ix (se_ix (se_ix (se_var 2) se_int) (se_var 10)) se_int)) (sa_cons (se_call (cal__law_turned_body G) rfl hr (by decide) hgd takesF rfl (sa_cons (se_ix (se_ix (se_ix (se_var 2) se_int) (se_var 10)) se_int) (sa_cons (se_var 3) (sa_cons (se_var 6) sa_nil)))) sa_nil)))))
  (sss_one (ss_ret (se_tup (sa_cons (se_tup (sa_cons (se_tupC rfl G.b_tuple (sa_cons (se_lc [("_law_loop", 11)] rfl sc.nd (si_seq (se_var 3)) rfl (fun _ _ _ _ _ => (sgw_name 11 sc.nd)) (fun _ _ _ _ _ => sif_nil) (fun _ _ _ _ _ => (se_ix (se_ix (se_var 2) se_int) (se_var 11)))) sa_nil)) (sa_cons (se_tupC rfl G.b_tuple (sa_cons (se_var 9) sa_nil)) sa_nil))) (sa_cons (se_var 3) (sa_cons (se_var 4) sa_nil)))))))))))⟩
theorem cal__law_turned (G : Gs K mg) : Cal P w K mg base 17 "_law_turned" [] (F__law_turned w) := by
  obtain ⟨f, fd, hm, D⟩ := G.d__law_turned
  exact ⟨f, fd, ["_law_script", "_law_at", "_law_made_here"], [], [], hm, D.kp, (fg__law_turned G D), D.bindsN (fun _ _ _ _ _ _ us hl => match us, hl with | [_, _, _], _ => rfl), .nil, rfl⟩
/-! _law_turned_right -/
theorem sc__law_turned_right : FnScope ["_law_script", "_law_at", "_law_made_here", "_law_w", "_law_other", "_law_order", "_law_queue", "_law_plan", "_law_turned_here", "_law_loop", "_law_k"] ["_law_script", "_law_at", "_law_made_here", "_law_w"] (defScope (topS 61)) := ⟨rfl, rfl, rfl, by decide +kernel, rfl, by decide +kernel, by decide +kernel⟩
noncomputable def m__law_turned_right (w : World) : MSt := (mSeq (mAsg (mCall (F__law_turned w) [] (aCons (mVar 0) (aCons (mVar 1) (aCons (mVar 2) aNil)))) (gT 3 (gsCons (gN 4) (gsCons (gN 5) (gsCons (gN 6) gsNil)))))
  (mSeq (mAsg (mTup (aCons (mCall (F_earliest w) [] (aCons (mVar 2) (aCons (mVar 3) aNil))) (aCons (mCall (F_earliest w) [] (aCons (mVar 4) (aCons (mOps tupM (aCons (mLc (iSq (mVar 5)) (gN 9) mYes (mOp2 getM (mVar 3) (mVar 9)) [9]) aNil)) aNil))) aNil))) (gT 2 (gsCons (gN 7) (gsCons (gN 8) gsNil))))
  (mSeq (mIfS (mTest (mOp2 neM (mOps lenM (aCons (mCall (F_needs_of w) [] (aCons (mVar 4) aNil)) aNil)) (mOps lenM (aCons (mCall (F_needs_of w) [] (aCons (mVar 2) aNil)) aNil)))) (mRet (mVal (.bl false))) mNext)
  (mSeq (mIfS (mOrT (mTest (mOp2 isM (mVar 7) (mVal .non))) (mTest (mOp2 isM (mVar 8) (mVal .non)))) (mRet (mAndV (mOp2 isM (mVar 7) (mVal .non)) (mOp2 isM (mVar 8) (mVal .non)))) mNext)
  (mSeq (mIfS (mTest (mOp2 neM (mCall (F_length_of w) [] (aCons (mVar 4) (aCons (mVar 8) aNil))) (mCall (F_length_of w) [] (aCons (mVar 2) (aCons (mVar 7) aNil))))) (mRet (mVal (.bl false))) mNext)
  (mRet (mOp2 eqM (mOp2 getM (mVar 8) (mVal (.int 1))) (mOps tupM (aCons (mLc (iSq (mVar 6)) (gN 10) mYes (mOp2 getM (mOp2 getM (mVar 7) (mVal (.int 1))) (mVar 10)) [10]) aNil)))))))))
noncomputable def F__law_turned_right (w : World) : List Val → Sto → Res Val := runB (m__law_turned_right w) 11 4
theorem fg__law_turned_right (G : Gs K mg) {f : Addr} {fd : FuncData} (D : FunD K "_law_turned_right" "_law_turned_right" (defArgs (topS 61)) (defBody (topS 61)) (defScope (topS 61)) [] [] f fd) : FnG P w K mg base 18 f fd ["_law_script", "_law_at", "_law_made_here", "_law_w"] (spF K (F__law_turned_right w)) := by
  have sc := sc__law_turned_right
  exact fnG_mk (m := m__law_turned_right w) (N := ["_law_script", "_law_at", "_law_made_here", "_law_w", "_law_other", "_law_order", "_law_queue", "_law_plan", "_law_turned_here", "_law_loop", "_law_k"]) (k := 17) D sc__law_turned_right fun cd A fs s H E hr hgd tk hp => ⟨_, (sss_cons (ss_asg (se_call (cal__law_turned G) rfl hr (by decide) hgd tk rfl (sa_cons (se_var 0) (sa_cons (se_var 1) (sa_cons (se_var 2) sa_nil)))) (sg_tup rfl (sgs_cons (sg_name 4 sc.nd) (sgs_cons (sg_name 5 sc.nd) (sgs_cons (sg_name 6 sc.nd) sgs_nil)))))
  (sss_cons (ss_asg (se_tup (sa_cons (se_call (cal_earliest G) rfl hr (by decide) hgd tk rfl (sa_cons (se_var 2) (sa_cons (se_var 3) sa_nil))) (sa_cons (se_call (cal_earliest G) rfl hr (by decide) hgd tk rfl (sa_cons (se_var 4) (sa_cons (se_tupC rfl G.b_tuple (sa_cons (se_lc [("_law_loop", 9)] rfl sc.nd (si_seq (se_var 5)) rfl (fun _ _ _ _ _ => (sgw_name 9 sc.nd)) (fun _ _ _ _ _ => sif_nil) (fun _ _ _ _ _ => (se_ix (se_var 3) (se_var 9)))) sa_nil)) sa_nil))) sa_nil))) (sg_tup rfl (sgs_cons (sg_name 7 sc.nd) (sgs_cons (sg_name 8 sc.nd) sgs_nil))))
  (sss_cons (ss_if (st_ne (se_len G.b_len (sa_cons (se_call (cal_needs_of G) rfl hr (by decide) hgd tk rfl (sa_cons (se_var 4) sa_nil)) sa_nil)) (se_len G.b_len (sa_cons (se_call (cal_needs_of G) rfl hr (by decide) hgd tk rfl (sa_cons (se_var 2) sa_nil)) sa_nil)) hr) (sss_one (ss_ret se_bl)) sss_nil)
  (sss_cons (ss_if (SW.st (sw_or (st_is (se_var 7) se_non) (sw_or1 (st_is (se_var 8) se_non)))) (sss_one (ss_ret (se_and (se_is (se_var 7) se_non) (se_one (se_is (se_var 8) se_non))))) sss_nil)
  (sss_cons (ss_if (st_ne (se_call (cal_length_of G) rfl hr (by decide) hgd tk rfl (sa_cons (se_var 4) (sa_cons (se_var 8) sa_nil))) (se_call (cal_length_of G) rfl hr (by decide) hgd tk rfl (sa_cons (se_var 2) (sa_cons (se_var 7) sa_nil))) hr) (sss_one (ss_ret se_bl)) sss_nil)
  (sss_one (ss_ret (se_eq (se_ix (se_var 8) se_int) (se_tupC rfl G.b_tuple (sa_cons (se_lc [("_law_k", 10)] rfl sc.nd (si_seq (se_var 6)) rfl (fun _ _ _ _ _ => (sgw_name 10 sc.nd)) (fun _ _ _ _ _ => sif_nil) (fun _ _ _ _ _ => (se_ix (se_ix (se_var 7) se_int) (se_var 10)))) sa_nil)) hr))))))))⟩
theorem cal__law_turned_right (G : Gs K mg) : Cal P w K mg base 18 "_law_turned_right" [] (F__law_turned_right w) := by
  obtain ⟨f, fd, hm, D⟩ := G.d__law_turned_right
  exact ⟨f, fd, ["_law_script", "_law_at", "_law_made_here", "_law_w"], [], [], hm, D.kp, (fg__law_turned_right G D), D.bindsN (fun _ _ _ _ _ _ us hl => match us, hl with | [_, _, _, _], _ => rfl), .nil, rfl⟩
/-! _law_sum_right -/
theorem sc__law_sum_right : FnScope ["_law_made_here", "_law_w", "_law_far", "_law_plan", "_law_other", "_law_both", "_law_one", "_law_two", "_law_found", "_law_later", "_law_three", "_law_together"] ["_law_made_here", "_law_w", "_law_far"] (defScope (topS 62)) := ⟨rfl, rfl, rfl, by decide +kernel, rfl, by decide +kernel, by decide +kernel⟩
noncomputable def m__law_sum_right (w : World) : MSt := (mSeq (mPar3 3 4 5 (aCons (mCall (F_earliest w) [] (aCons (mVar 0) (aCons (mVar 1) aNil))) (aCons (mCall (F_earliest w) [] (aCons (mVar 0) (aCons (mVar 2) aNil))) (aCons (mOps tupM (aCons (mLc (iZp false (aCons (mVar 1) (aCons (mVar 2) aNil))) (gT 2 (gsCons (gN 6) (gsCons (gN 7) gsNil))) mYes (mOp2 addV (mVar 6) (mVar 7)) [6, 7]) aNil)) aNil))))
  (mSeq (mIfS (mOrT (mTest (mOp2 isM (mVar 3) (mVal .non))) (mOrT (mTest (mOp2 isM (mVar 4) (mVal .non))) (mTest (mOp2 (cmpV fun i j => decide (j < i)) (mOps maxM (aCons (mLc (iSq (mVar 5)) (gN 6) mYes (mOps absM (aCons (mVar 6) aNil)) [6]) aNil)) (mVal (.int 4)))))) (mRet (mVal (.bl true))) mNext)
  (mSeq (mAsg (mCall (F_earliest w) [] (aCons (mVar 0) (aCons (mVar 5) aNil))) (gN 8))
  (mSeq (mIfS (mOrT (mTest (mOp2 isM (mVar 8) (mVal .non))) (mTest (mOp2 isNotM (mCall (F_is_legal w) [] (aCons (mVar 0) (aCons (mVar 8) aNil))) (mVal (.bl true))))) (mRet (mVal (.bl false))) mNext)
  (mSeq (mAsg (mLc (iZp3 (aCons (mOp2 getM (mVar 8) (mVal (.int 1))) (aCons (mOp2 getM (mVar 3) (mVal (.int 1))) (aCons (mOp2 getM (mVar 4) (mVal (.int 1))) aNil)))) (gT 3 (gsCons (gN 6) (gsCons (gN 7) (gsCons (gN 10) gsNil)))) (mTest (mOp2 (cmpV fun i j => decide (j < i)) (mVar 6) (mOp2 addV (mVar 7) (mVar 10)))) (mVal (.int 1)) [6, 7, 10]) (gN 9))
  (mSeq (mAsg (mOp2 addV (mCall (F_length_of w) [] (aCons (mVar 0) (aCons (mVar 3) aNil))) (mCall (F_length_of w) [] (aCons (mVar 0) (aCons (mVar 4) aNil)))) (gN 11))
  (mRet (mAndV (mOp2 eqM (mVar 9) (mLst aNil)) (mOp2 (cmpV fun i j => decide (i < j)) (mCall (F_length_of w) [] (aCons (mVar 0) (aCons (mVar 8) aNil))) (mVar 11))))))))))
noncomputable def F__law_sum_right (w : World) : List Val → Sto → Res Val := runB (m__law_sum_right w) 12 3
theorem fg__law_sum_right (G : Gs K mg) {f : Addr} {fd : FuncData} (D : FunD K "_law_sum_right" "_law_sum_right" (defArgs (topS 62)) (defBody (topS 62)) (defScope (topS 62)) [] [] f fd) : FnG P w K mg base 8 f fd ["_law_made_here", "_law_w", "_law_far"] (spF K (F__law_sum_right w)) := by
  have sc := sc__law_sum_right
  exact fnG_mk (m := m__law_sum_right w) (N := ["_law_made_here", "_law_w", "_law_far", "_law_plan", "_law_other", "_law_both", "_law_one", "_law_two", "_law_found", "_law_later", "_law_three", "_law_together"]) (k := 7) D sc__law_sum_right fun cd A fs s H E hr hgd tk hp => ⟨_, (sss_cons (ss_par3 3 4 5 rfl sc.nd (sa_cons (se_call (cal_earliest G) rfl hr (by decide) hgd tk rfl (sa_cons (se_var 0) (sa_cons (se_var 1) sa_nil))) (sa_cons (se_call (cal_earliest G) rfl hr (by decide) hgd tk rfl (sa_cons (se_var 0) (sa_cons (se_var 2) sa_nil))) (sa_cons (se_tupC rfl G.b_tuple (sa_cons (se_lc [("_law_one", 6), ("_law_two", 7)] rfl sc.nd (si_zip rfl G.b_zip (sa_cons (se_var 1) (sa_cons (se_var 2) sa_nil))) rfl (fun _ _ _ _ _ => (sgw_tup rfl (sgsw_cons (sgw_name 6 sc.nd) (sgsw_cons (sgw_name 7 sc.nd) sgsw_nil)))) (fun _ _ _ _ _ => sif_nil) (fun _ _ _ _ _ => (se_add (se_var 6) (se_var 7)))) sa_nil)) sa_nil))))
  (sss_cons (ss_if (SW.st (sw_or (st_is (se_var 3) se_non) (sw_or (st_is (se_var 4) se_non) (sw_or1 (st_gt (se_max1 rfl G.b_max (sa_cons (se_lc [("_law_one", 6)] rfl sc.nd (si_seq (se_var 5)) rfl (fun _ _ _ _ _ => (sgw_name 6 sc.nd)) (fun _ _ _ _ _ => sif_nil) (fun _ _ _ _ _ => (se_abs G.b_abs (sa_cons (se_var 6) sa_nil)))) sa_nil)) se_int))))) (sss_one (ss_ret se_bl)) sss_nil)
  (sss_cons (ss_set 8 sc.nd (se_call (cal_earliest G) rfl hr (by decide) hgd tk rfl (sa_cons (se_var 0) (sa_cons (se_var 5) sa_nil))))
  (sss_cons (ss_if (SW.st (sw_or (st_is (se_var 8) se_non) (sw_or1 (st_isNot (se_call (cal_is_legal G) rfl hr (by decide) hgd tk rfl (sa_cons (se_var 0) (sa_cons (se_var 8) sa_nil))) se_bl)))) (sss_one (ss_ret se_bl)) sss_nil)
  (sss_cons (ss_setLc 9 [("_law_one", 6), ("_law_two", 7), ("_law_three", 10)] rfl sc.nd (si_zip3 rfl G.b_zip (sa_cons (se_ix (se_var 8) se_int) (sa_cons (se_ix (se_var 3) se_int) (sa_cons (se_ix (se_var 4) se_int) sa_nil)))) rfl (fun _ _ _ _ _ => (sgw_tup rfl (sgsw_cons (sgw_name 6 sc.nd) (sgsw_cons (sgw_name 7 sc.nd) (sgsw_cons (sgw_name 10 sc.nd) sgsw_nil))))) (fun _ _ _ _ _ => (sif_one (st_gt (se_var 6) (se_add (se_var 7) (se_var 10))))) (fun _ _ _ _ _ => se_int))
  (sss_cons (ss_set 11 sc.nd (se_add (se_call (cal_length_of G) rfl hr (by decide) hgd tk rfl (sa_cons (se_var 0) (sa_cons (se_var 3) sa_nil))) (se_call (cal_length_of G) rfl hr (by decide) hgd tk rfl (sa_cons (se_var 0) (sa_cons (se_var 4) sa_nil)))))
  (sss_one (ss_ret (se_and (se_eq (se_var 9) (se_lst sa_nil) hr) (se_one (se_lt (se_call (cal_length_of G) rfl hr (by decide) hgd tk rfl (sa_cons (se_var 0) (sa_cons (se_var 8) sa_nil))) (se_var 11))))))))))))⟩
theorem cal__law_sum_right (G : Gs K mg) : Cal P w K mg base 8 "_law_sum_right" [] (F__law_sum_right w) := by
  obtain ⟨f, fd, hm, D⟩ := G.d__law_sum_right
  exact ⟨f, fd, ["_law_made_here", "_law_w", "_law_far"], [], [], hm, D.kp, (fg__law_sum_right G D), D.bindsN (fun _ _ _ _ _ _ us hl => match us, hl with | [_, _, _], _ => rfl), .nil, rfl⟩
/-! _law_more_right -/
theorem sc__law_more_right : FnScope ["_law_script", "_law_at", "_law_made_here", "_law_w", "_law_place", "_law_names", "_law_word", "_law_body_here", "_law_own", "_law_use_here", "_law_later", "_law_plan", "_law_found", "_law_need", "_law_one", "_law_two"] ["_law_script", "_law_at", "_law_made_here", "_law_w"] (defScope (topS 63)) := ⟨rfl, rfl, rfl, by decide +kernel, rfl, by decide +kernel, by decide +kernel⟩
noncomputable def m__law_more_right (w : World) : MSt := (mSeq (mPar 4 5 (aCons (mCall (F__law_drawn w) [] (aCons (mVar 0) (aCons (mVar 1) (aCons (mOps lenM (aCons (mOp2 getM (mVar 2) (mVal (.int 1))) aNil)) aNil)))) (aCons (mLc (iSq (mOp2 getM (mVar 2) (mVal (.int 1)))) (gT 2 (gsCons (gN 6) (gsCons (gN 7) gsNil))) mYes (mVar 6) [6, 7]) aNil)))
  (mSeq (mAsg (mOp2 getM (mOp2 getM (mVar 2) (mVal (.int 1))) (mVar 4)) (gT 2 (gsCons (gN 8) (gsCons (gN 7) gsNil))))
  (mSeq (mAsg (mCall (F__law_use w) [] (aCons (mVar 0) (aCons (mVar 1) (aCons (mOp2 getM (mVar 2) (mVal (.int 0))) (aCons (mVar 5) (aCons (mVar 8) (aCons (mOp2 eqM (mCall (F__law_drawn w) [] (aCons (mVar 0) (aCons (mVar 1) (aCons (mVal (.int 2)) aNil)))) (mVal (.int 1))) aNil))))))) (gN 9))
  (mSeq (mAsg (mTup (aCons (mOp2 getM (mVar 2) (mVal (.int 0))) (aCons (mOp2 addV (mOp2 addV (mCut (mOp2 getM (mVar 2) (mVal (.int 1))) mNoPart (mPart (mVar 4))) (mTup (aCons (mTup (aCons (mVar 8) (aCons (mTup (aCons (mVal (.str "max")) (aCons (mVar 7) (aCons (mVar 9) aNil)))) aNil))) aNil))) (mCut (mOp2 getM (mVar 2) (mVal (.int 1))) (mPart (mOp2 addV (mVar 4) (mVal (.int 1)))) mNoPart)) aNil))) (gN 10))
  (mSeq (mPar 11 12 (aCons (mCall (F_earliest w) [] (aCons (mVar 2) (aCons (mVar 3) aNil))) (aCons (mCall (F_earliest w) [] (aCons (mVar 10) (aCons (mVar 3) aNil))) aNil)))
  (mSeq (mIfS (mTest (mOp2 neM (mLc (iSq (mCall (F_needs_of w) [] (aCons (mVar 2) aNil))) (gN 13) (mTest (mOp2 notInTM (mVar 13) (mCall (F_needs_of w) [] (aCons (mVar 10) aNil)))) (mVal (.int 1)) [13]) (mLst aNil))) (mRet (mVal (.bl false))) mNext)
  (mSeq (mIfS (mTest (mOp2 isM (mVar 12) (mVal .non))) (mRet (mOrV (mOp2 isM (mVar 11) (mVal .non)) (mOp2 notInTM (mTup (aCons (mVar 8) (aCons (mOp2 getM (mVar 9) (mVal (.int 1))) (aCons (mOp2 getM (mVar 9) (mVal (.int 2))) aNil)))) (mCall (F_needs_of w) [] (aCons (mVar 2) aNil))))) mNext)
  (mRet (mAndV (mOp2 isNotM (mVar 11) (mVal .non)) (mOp2 eqM (mLc (iZp false (aCons (mOp2 getM (mVar 11) (mVal (.int 1))) (aCons (mOp2 getM (mVar 12) (mVal (.int 1))) aNil))) (gT 2 (gsCons (gN 14) (gsCons (gN 15) gsNil))) (mTest (mOp2 (cmpV fun i j => decide (i < j)) (mVar 15) (mVar 14))) (mVal (.int 1)) [14, 15]) (mLst aNil)))))))))))
noncomputable def F__law_more_right (w : World) : List Val → Sto → Res Val := runB (m__law_more_right w) 16 4
theorem fg__law_more_right (G : Gs K mg) {f : Addr} {fd : FuncData} (D : FunD K "_law_more_right" "_law_more_right" (defArgs (topS 63)) (defBody (topS 63)) (defScope (topS 63)) [] [] f fd) : FnG P w K mg base 7 f fd ["_law_script", "_law_at", "_law_made_here", "_law_w"] (spF K (F__law_more_right w)) := by
  have sc := sc__law_more_right
  exact fnG_mk (m := m__law_more_right w) (N := ["_law_script", "_law_at", "_law_made_here", "_law_w", "_law_place", "_law_names", "_law_word", "_law_body_here", "_law_own", "_law_use_here", "_law_later", "_law_plan", "_law_found", "_law_need", "_law_one", "_law_two"]) (k := 6) D sc__law_more_right fun cd A fs s H E hr hgd tk hp => ⟨_, (sss_cons (ss_par 4 5 rfl sc.nd (sa_cons (se_call (cal__law_drawn G) rfl hr (by decide) hgd tk rfl (sa_cons (se_var 0) (sa_cons (se_var 1) (sa_cons (se_len G.b_len (sa_cons (se_ix (se_var 2) se_int) sa_nil)) sa_nil)))) (sa_cons (se_lc [("_law_word", 6), ("_law_body_here", 7)] rfl sc.nd (si_seq (se_ix (se_var 2) se_int)) rfl (fun _ _ _ _ _ => (sgw_tup rfl (sgsw_cons (sgw_name 6 sc.nd) (sgsw_cons (sgw_name 7 sc.nd) sgsw_nil)))) (fun _ _ _ _ _ => sif_nil) (fun _ _ _ _ _ => (se_var 6))) sa_nil)))
  (sss_cons (ss_asg (se_ix (se_ix (se_var 2) se_int) (se_var 4)) (sg_tup rfl (sgs_cons (sg_name 8 sc.nd) (sgs_cons (sg_name 7 sc.nd) sgs_nil))))
  (sss_cons (ss_set 9 sc.nd (se_call (cal__law_use G) rfl hr (by decide) hgd tk rfl (sa_cons (se_var 0) (sa_cons (se_var 1) (sa_cons (se_ix (se_var 2) se_int) (sa_cons (se_var 5) (sa_cons (se_var 8) (sa_cons (se_eq (se_call (cal__law_drawn G) rfl hr (by decide) hgd tk rfl (sa_cons (se_var 0) (sa_cons (se_var 1) (sa_cons se_int sa_nil)))) se_int hr) sa_nil))))))))
  (sss_cons (ss_set 10 sc.nd (se_tup (sa_cons (se_ix (se_var 2) se_int) (sa_cons (se_add (se_add (se_cut (se_ix (se_var 2) se_int) so_none (so_some (se_var 4))) (se_tup (sa_cons (se_tup (sa_cons (se_var 8) (sa_cons (se_tup (sa_cons se_str (sa_cons (se_var 7) (sa_cons (se_var 9) sa_nil)))) sa_nil))) sa_nil))) (se_cut (se_ix (se_var 2) se_int) (so_some (se_add (se_var 4) se_int)) so_none)) sa_nil))))
  (sss_cons (ss_par 11 12 rfl sc.nd (sa_cons (se_call (cal_earliest G) rfl hr (by decide) hgd tk rfl (sa_cons (se_var 2) (sa_cons (se_var 3) sa_nil))) (sa_cons (se_call (cal_earliest G) rfl hr (by decide) hgd tk rfl (sa_cons (se_var 10) (sa_cons (se_var 3) sa_nil))) sa_nil)))
  (sss_cons (ss_if (st_ne (se_lc [("_law_need", 13)] rfl sc.nd (si_seq (se_call (cal_needs_of G) rfl hr (by decide) hgd tk rfl (sa_cons (se_var 2) sa_nil))) rfl (fun _ _ _ _ _ => (sgw_name 13 sc.nd)) (fun _ _ _ _ _ => (sif_one (st_notInT (se_var 13) (se_call (cal_needs_of G) rfl hr (by decide) hgd takesF rfl (sa_cons (se_var 10) sa_nil)) hr))) (fun _ _ _ _ _ => se_int)) (se_lst sa_nil) hr) (sss_one (ss_ret se_bl)) sss_nil)
  (sss_cons (ss_if (st_is (se_var 12) se_non) (sss_one (ss_ret (se_or (se_is (se_var 11) se_non) (se_one (se_notInT (se_tup (sa_cons (se_var 8) (sa_cons (se_ix (se_var 9) se_int) (sa_cons (se_ix (se_var 9) se_int) sa_nil)))) (se_call (cal_needs_of G) rfl hr (by decide) hgd tk rfl (sa_cons (se_var 2) sa_nil)) hr))))) sss_nil)
  (sss_one (ss_ret (se_and (se_isNot (se_var 11) se_non) (se_one (se_eq (se_lc [("_law_one", 14), ("_law_two", 15)] rfl sc.nd (si_zip rfl G.b_zip (sa_cons (se_ix (se_var 11) se_int) (sa_cons (se_ix (se_var 12) se_int) sa_nil))) rfl (fun _ _ _ _ _ => (sgw_tup rfl (sgsw_cons (sgw_name 14 sc.nd) (sgsw_cons (sgw_name 15 sc.nd) sgsw_nil)))) (fun _ _ _ _ _ => (sif_one (st_lt (se_var 15) (se_var 14)))) (fun _ _ _ _ _ => se_int)) (se_lst sa_nil) hr))))))))))))⟩
theorem cal__law_more_right (G : Gs K mg) : Cal P w K mg base 7 "_law_more_right" [] (F__law_more_right w) := by
  obtain ⟨f, fd, hm, D⟩ := G.d__law_more_right
  exact ⟨f, fd, ["_law_script", "_law_at", "_law_made_here", "_law_w"], [], [], hm, D.kp, (fg__law_more_right G D), D.bindsN (fun _ _ _ _ _ _ us hl => match us, hl with | [_, _, _, _], _ => rfl), .nil, rfl⟩
/-! law -/
theorem sc_law : FnScope ["_law_script", "_law_at", "_law_turn", "_law_made_here", "_law_size", "_law_k", "_law_w", "_law_far"] ["_law_script"] (defScope (topS 64)) := ⟨rfl, rfl, rfl, by decide +kernel, rfl, by decide +kernel, by decide +kernel⟩
noncomputable def m_law (w : World) : MSt := (mSeq (mAsg (mLoc (aCons (mVal (.int 0)) aNil)) (gN 1))
  (mSeq (mFor (iR1 (aCons (mOp2 addV (mVal (.int 2)) (mOps min2M (aCons (mVal (.int 5)) (aCons (mOp2 fdivV (mOps lenM (aCons (mVar 0) aNil)) (mVal (.int 8))) aNil)))) aNil)) (gN 2) (mSeq (mAsg (mCall (F__law_made w) [] (aCons (mVar 0) (aCons (mVar 1) (aCons (mVal (.int 6)) (aCons (mOp2 eqM (mCall (F__law_drawn w) [] (aCons (mVar 0) (aCons (mVar 1) (aCons (mVal (.int 4)) aNil)))) (mVal (.int 0))) aNil))))) (gN 3))
  (mSeq (mAsg (mOps lenM (aCons (mOp2 getM (mVar 3) (mVal (.int 0))) aNil)) (gN 4))
  (mFor (iR1 (aCons (mVal (.int 3)) aNil)) (gN 5) (mSeq (mPar 6 7 (aCons (mCall (F__law_vector w) [] (aCons (mVar 0) (aCons (mVar 1) (aCons (mVar 4) aNil)))) (aCons (mCall (F__law_vector w) [] (aCons (mVar 0) (aCons (mVar 1) (aCons (mVar 4) aNil)))) aNil)))
  (mSeq (mIfS (mOrT (mNotT (mTest (mCall (F__law_turned_right w) [] (aCons (mVar 0) (aCons (mVar 1) (aCons (mVar 3) (aCons (mVar 6) aNil))))))) (mNotT (mTest (mCall (F__law_sum_right w) [] (aCons (mVar 3) (aCons (mVar 6) (aCons (mVar 7) aNil))))))) (mRet (mVal (.bl false))) mNext)
  (mIfS (mOrT (mNotT (mTest (mCall (F__law_sum_right w) [] (aCons (mVar 3) (aCons (mVar 6) (aCons (mVar 6) aNil)))))) (mNotT (mTest (mCall (F__law_more_right w) [] (aCons (mVar 0) (aCons (mVar 1) (aCons (mVar 3) (aCons (mVar 6) aNil)))))))) (mRet (mVal (.bl false))) mNext)))))))
  (mRet (mVal (.bl true)))))
noncomputable def F_law (w : World) : List Val → Sto → Res Val := runB (m_law w) 8 1
theorem fg_law (G : Gs K mg) {f : Addr} {fd : FuncData} (D : FunD K "law" "law" (defArgs (topS 64)) (defBody (topS 64)) (defScope (topS 64)) [] [] f fd) : FnG P w K mg base 21 f fd ["_law_script"] (spF K (F_law w)) := by
  have sc := sc_law
  exact fnG_mk (m := m_law w) (N := ["_law_script", "_law_at", "_law_turn", "_law_made_here", "_law_size", "_law_k", "_law_w", "_law_far"]) (k := 20) D sc_law fun cd A fs s H E hr hgd tk hp => ⟨_, (sss_cons (ss_set 1 sc.nd (se_loc (sa_cons se_int sa_nil)))
  (sss_cons (ss_for hp (si_range1 rfl G.b_range (sa_cons (se_add se_int (se_min2 rfl G.b_min (sa_cons se_int (sa_cons (se_fdiv (se_len G.b_len (sa_cons (se_var 0) sa_nil)) se_int) sa_nil)))) sa_nil)) (sg_name 2 sc.nd) (sss_cons (ss_set 3 sc.nd (se_call (cal__law_made G) rfl hr (by decide) hgd tk rfl (sa_cons (se_var 0) (sa_cons (se_var 1) (sa_cons se_int (sa_cons (se_eq (se_call (cal__law_drawn G) rfl hr (by decide) hgd tk rfl (sa_cons (se_var 0) (sa_cons (se_var 1) (sa_cons se_int sa_nil)))) se_int hr) sa_nil))))))
  (sss_cons (ss_set 4 sc.nd (se_len G.b_len (sa_cons (se_ix (se_var 3) se_int) sa_nil)))
  (sss_one (ss_for hp (si_range1 rfl G.b_range (sa_cons se_int sa_nil)) (sg_name 5 sc.nd) (sss_cons (ss_par 6 7 rfl sc.nd (sa_cons (se_call (cal__law_vector G) rfl hr (by decide) hgd tk rfl (sa_cons (se_var 0) (sa_cons (se_var 1) (sa_cons (se_var 4) sa_nil)))) (sa_cons (se_call (cal__law_vector G) rfl hr (by decide) hgd tk rfl (sa_cons (se_var 0) (sa_cons (se_var 1) (sa_cons (se_var 4) sa_nil)))) sa_nil)))
  (sss_cons (ss_if (SW.st (sw_or (st_not (st_val (se_call (cal__law_turned_right G) rfl hr (by decide) hgd tk rfl (sa_cons (se_var 0) (sa_cons (se_var 1) (sa_cons (se_var 3) (sa_cons (se_var 6) sa_nil))))))) (sw_or1 (st_not (st_val (se_call (cal__law_sum_right G) rfl hr (by decide) hgd tk rfl (sa_cons (se_var 3) (sa_cons (se_var 6) (sa_cons (se_var 7) sa_nil))))))))) (sss_one (ss_ret se_bl)) sss_nil)
  (sss_one (ss_if (SW.st (sw_or (st_not (st_val (se_call (cal__law_sum_right G) rfl hr (by decide) hgd tk rfl (sa_cons (se_var 3) (sa_cons (se_var 6) (sa_cons (se_var 6) sa_nil)))))) (sw_or1 (st_not (st_val (se_call (cal__law_more_right G) rfl hr (by decide) hgd tk rfl (sa_cons (se_var 0) (sa_cons (se_var 1) (sa_cons (se_var 3) (sa_cons (se_var 6) sa_nil)))))))))) (sss_one (ss_ret se_bl)) sss_nil)))))))))
  (sss_one (ss_ret se_bl))))⟩
theorem cal_law (G : Gs K mg) : Cal P w K mg base 21 "law" [] (F_law w) := by
  obtain ⟨f, fd, hm, D⟩ := G.d_law
  exact ⟨f, fd, ["_law_script"], [], [], hm, D.kp, (fg_law G D), D.bindsN (fun _ _ _ _ _ _ us hl => match us, hl with | [_], _ => rfl), .nil, rfl⟩
end
end K35
end

section
set_option Elab.async false
set_option linter.all false
set_option maxRecDepth 100000
set_option maxHeartbeats 400000
namespace K35
open PySem PySem.Spec PyProof.Rows L2 L3
theorem is_whole_int (w : World) (i a b : Int) (st : Sto) : F_is_whole w [.int i, .int a, .int b] st = .ok (.bl (decide (a ≤ i) && decide (i ≤ b))) st := by
  simp [F_is_whole, m_is_whole, runB, isiM, tyOf, isiT, Ty.isInt, Ty.isBool, cmpV]
  by_cases h : a ≤ i <;> simp [h]
theorem is_tuple_tup (w : World) (l : List Val) (a b : Int) (st : Sto) : F_is_tuple_of w [.tup l, .int a, .int b] st = .ok (.bl (decide (a ≤ (l.length : Int)) && decide ((l.length : Int) ≤ b))) st := by
  simp [F_is_tuple_of, m_is_tuple_of, runB, isiM, tyOf, isiT, Ty.isTuple, cmpV, lenM, itemsOf]
  by_cases h : a ≤ (l.length : Int) <;> simp [h]
theorem is_word_int (w : World) (i : Int) (st : Sto) : F_is_word w [.int i] st = .ok (.bl (decide (0 ≤ i) && decide (i ≤ 65535))) st := by
  simp [F_is_word, m_is_word, runB, is_whole_int, subV]
end K35
end

section
set_option Elab.async false
set_option linter.all false
set_option maxRecDepth 100000
set_option maxHeartbeats 400000
namespace L3
open PySem PySem.Spec PyProof.Rows L2
@[simp] theorem always_s (st : Sto) : always st = True := rfl
/-- a block that changes nothing: what passes its test, made over -/
theorem lcGo_pure {keep : Sto → Prop} {g : MG} {c : MT} {me : ME} {σ0 : Env} {st : Sto} (p : Val → Bool) (f : Val → Val) (hk : keep st) : ∀ (l acc : List Val), (∀ v ∈ l, ∃ σ1, g v σ0 st = .ok σ1 st ∧ c σ1 st = .ok (p v) st ∧ (p v = true → me σ1 st = .ok (f v) st)) →
    acc.length + l.length ≤ sizeLine → lcGo keep g c me σ0 l acc st = .ok (acc ++ (l.filter p).map f) st
  | [], acc, _, _ => by
    unfold lcGo
    rw [if_pos hk]
    simp
  | v :: l, acc, h, hz => by
    obtain ⟨σ1, h1, h2, h3⟩ := h v List.mem_cons_self
    rw [List.length_cons] at hz
    unfold lcGo
    rw [if_pos hk, h1, Res.calm_ok, h2, Res.calm_ok]
    cases hp : p v with
    | true =>
      rw [if_pos rfl, h3 hp, Res.calm_ok, if_pos (by omega), lcGo_pure p f hk l _ (fun u hu => h u (List.mem_cons_of_mem _ hu)) (by rw [List.length_append, List.length_singleton]; omega), List.filter_cons_of_pos hp]
      simp
    | false =>
      rw [if_neg (by decide), lcGo_pure p f hk l _ (fun u hu => h u (List.mem_cons_of_mem _ hu)) (by omega), List.filter_cons_of_neg (by rw [hp]; decide)]
theorem lcGo_map {keep : Sto → Prop} {g : MG} {me : ME} {σ0 : Env} {st : Sto} (f : Val → Val) (hk : keep st) (l : List Val) (h : ∀ v ∈ l, ∃ σ1, g v σ0 st = .ok σ1 st ∧ me σ1 st = .ok (f v) st) (hz : l.length ≤ sizeLine) : lcGo keep g mYes me σ0 l [] st = .ok (l.map f) st := by
  have e := lcGo_pure (c := mYes) (fun _ => true) f hk l [] (fun v hv => let ⟨σ1, a, b⟩ := h v hv; ⟨σ1, a, rfl, fun _ => b⟩) (by simpa using hz)
  rw [List.filter_eq_self.mpr (fun _ _ => rfl), List.nil_append] at e
  exact e
theorem bls_map {α : Type} (f : α → Bool) (l : List α) : blsOf (l.map fun x => Val.bl (f x)) = some (l.map f) := by
  induction l with
  | nil => rfl
  | cons x l ih => simp [blsOf, ih]
end L3
namespace K35
open PySem PySem.Spec PyProof.Rows L2 L3
theorem is_of_signs_str (w : World) (s z : Str) (st : Sto) (hl : s.length ≤ sizeLine) : F_is_of_signs w [.str s, .str z] st = .ok (.bl (decide (1 ≤ s.length) && (decide (s.length ≤ 6) && s.cps.toList.all fun c => decide (c ∈ z.cps)))) st := by
  have key := lcGo_map (keep := always) (g := gN 2) (me := mOp2 inM (mVar 2) (mVar 1)) (σ0 := [some (.str s), some (.str z), none]) (st := st) (fun v => match v with | .str ⟨cs⟩ => (match cs.toList with | [c] => .bl (decide (c ∈ z.cps)) | _ => .non) | _ => .non) trivial
    (s.cps.toList.map fun c => Val.str ⟨#[c]⟩) (fun v hv => by
      obtain ⟨c, _, rfl⟩ := List.mem_map.mp hv
      exact ⟨_, rfl, by simp [inM, inW]⟩) (by rw [List.length_map]; exact hl)
  have kb : blsOf (((s.cps.toList.map fun c => Val.str ⟨#[c]⟩)).map (fun v => match v with | .str ⟨cs⟩ => (match cs.toList with | [c] => .bl (decide (c ∈ z.cps)) | _ => .non) | _ => .non)) = some (s.cps.toList.map fun c => decide (c ∈ z.cps)) := by
    rw [List.map_map]
    exact bls_map (fun c => decide (c ∈ z.cps)) s.cps.toList
  simp only [F_is_of_signs, m_is_of_signs, runB]
  by_cases h1 : (1 : Int) ≤ s.length
  · by_cases h2 : (s.length : Int) ≤ 6
    · have e1 : decide (1 ≤ s.length) = true := decide_eq_true (by omega)
      have e2 : decide (s.length ≤ 6) = true := decide_eq_true (by omega)
      simp [isiM, tyOf, isiT, Ty.isStr, lenM, cmpV, hl, wipeE, h1, h2, key, allM, lsOf, kb, e1, e2, -List.map_map]
    · have e2 : decide (s.length ≤ 6) = false := decide_eq_false (by omega)
      simp [isiM, tyOf, isiT, Ty.isStr, lenM, cmpV, hl, h1, h2, e2]
  · have e1 : decide (1 ≤ s.length) = false := decide_eq_false (by omega)
    simp [isiM, tyOf, isiT, Ty.isStr, lenM, cmpV, hl, h1, e1]
end K35
end

section
set_option Elab.async false
set_option linter.all false
set_option maxRecDepth 100000
set_option maxHeartbeats 400000
namespace K35
open PySem PySem.Spec PyProof.Rows L2 L3
abbrev SM : Str := "abcdefghijklmnopqrstuvwxyz"
abbrev FI : Str := "0123456789"
def signsOk (z s : Str) : Bool := decide (1 ≤ s.length) && (decide (s.length ≤ 6) && s.cps.toList.all fun c => decide (c ∈ z.cps))
theorem signs_len {z s : Str} (h : signsOk z s = true) : 1 ≤ s.length ∧ s.length ≤ 6 := by
  unfold signsOk at h
  simp only [Bool.and_eq_true, decide_eq_true_eq] at h
  exact ⟨h.1, h.2.1⟩
theorem small_line : (6 : Nat) ≤ sizeLine := by decide
theorem is_name_ok (w : World) (s : Str) (st : Sto) (h : signsOk SM s = true) : F_is_name w [.str s] st = .ok (.bl true) st := by
  have e := is_of_signs_str w s SM st (Nat.le_trans (signs_len h).2 small_line)
  rw [show (decide (1 ≤ s.length) && (decide (s.length ≤ 6) && s.cps.toList.all fun c => decide (c ∈ SM.cps))) = true from h] at e
  simp [F_is_name, m_is_name, runB, e]
def varOk (s : Str) : Bool := signsOk (SM ++ FI) s && (match s.cps.toList with
  | c :: _ => decide (c ∈ SM.cps)
  | [] => false)
theorem is_var_ok (w : World) (s : Str) (st : Sto) (h : varOk s = true) : F_is_variable_name w [.str s] st = .ok (.bl true) st := by
  obtain ⟨h1, h2⟩ := Bool.and_eq_true_iff.mp h
  have hl := signs_len h1
  have hz : s.length ≤ sizeLine := Nat.le_trans hl.2 small_line
  have e := is_of_signs_str w s (SM ++ FI) st hz
  rw [show (decide (1 ≤ s.length) && (decide (s.length ≤ 6) && s.cps.toList.all fun c => decide (c ∈ (SM ++ FI).cps))) = true from h1] at e
  obtain ⟨c, l, hc⟩ : ∃ c l, s.cps.toList = c :: l := by
    cases q : s.cps.toList with
    | nil => rw [q] at h2; cases h2
    | cons c l => exact ⟨c, l, rfl⟩
  rw [hc] at h2
  have ea : addV (.str "abcdefghijklmnopqrstuvwxyz") (.str "0123456789") st = .ok (.str (SM ++ FI)) st := by
    rw [addV_str, if_pos (by decide +kernel)]
  have eg : getM (.str s) (.int 0) st = .ok (.str ⟨#[c]⟩) st := by
    rw [getM_str, if_pos hz, hc, atI_0]
  have ei : inM (.str ⟨#[c]⟩) (.str "abcdefghijklmnopqrstuvwxyz") st = .ok (.bl true) st := by
    have : decide (c ∈ SM.cps) = true := h2
    simp only [inM, inW]
    simp at this ⊢
    exact this
  simp [F_is_variable_name, m_is_variable_name, runB, ea, e, eg, ei]
end K35
end

section
set_option Elab.async false
set_option linter.all false
set_option maxRecDepth 100000
set_option maxHeartbeats 400000
namespace L3
open PySem PySem.Spec PyProof.Rows L2
theorem memK_iff {k : Key} {acc : List Key} : memK k acc = true ↔ k ∈ acc := by
  unfold memK
  rw [List.any_eq_true]
  constructor
  · rintro ⟨x, hx, e⟩
    rw [of_decide_eq_true e]
    exact hx
  · exact fun h => ⟨k, h, decide_eq_true rfl⟩
/-- unlike keys are as many as they are -/
theorem scGo_unlike {keep : Sto → Prop} {g : MG} {me : ME} {σ0 : Env} {st : Sto} (f : Val → Key) (hk : keep st) : ∀ (l : List Val) (acc : List Key), (∀ v ∈ l, ∃ σ1 u, g v σ0 st = .ok σ1 st ∧ me σ1 st = .ok u st ∧ keyV u = some (f v)) → (acc ++ l.map f).Nodup →
    acc.length + l.length < scanBound → scGo keep g mYes me σ0 l acc st = .ok (acc.length + l.length) st
  | [], acc, _, _, _ => by
    unfold scGo
    rw [if_pos hk]
    rfl
  | v :: l, acc, h, hn, hz => by
    obtain ⟨σ1, u, h1, h2, h3⟩ := h v List.mem_cons_self
    rw [List.length_cons] at hz
    have hno : memK (f v) acc = false := by
      cases q : memK (f v) acc with
      | false => rfl
      | true =>
        have hm := memK_iff.mp q
        rw [List.map_cons] at hn
        exact absurd rfl ((List.nodup_append.mp hn).2.2 _ hm _ List.mem_cons_self)
    unfold scGo
    rw [if_pos hk, h1, Res.calm_ok]
    show Res.calm (.ok true st) _ = _
    rw [Res.calm_ok, if_pos rfl, h2, Res.calm_ok, h3]
    show (if acc.length + 1 < scanBound then _ else _) = _
    rw [if_pos (by omega)]
    have ea : addK acc (f v) = acc ++ [f v] := by
      unfold addK
      rw [hno, if_neg (by decide)]
    rw [ea, scGo_unlike f hk l _ (fun u hu => h u (List.mem_cons_of_mem _ hu)) (by rw [List.append_assoc]; exact hn) (by rw [List.length_append, List.length_singleton]; omega)]
    rw [List.length_append, List.length_singleton, List.length_cons]
    congr 1
    omega
end L3
namespace K35
open PySem PySem.Spec PyProof.Rows L2 L3
abbrev pv (p : Int × Int) : Val := .tup [.int p.1, .int p.2]
abbrev subsV (ps : List (Int × Int)) : Val := .tup (ps.map pv)
structure SubsOk (n : Int) (ps : List (Int × Int)) : Prop where
  lo : n - 1 ≤ ps.length
  hi : (ps.length : Int) ≤ n
  at_ : ∀ p ∈ ps, (0 ≤ p.1 ∧ p.1 ≤ n - 1) ∧ -2 ≤ p.2 ∧ p.2 ≤ 2
  nd : (ps.map (·.1)).Nodup
  small : n ≤ 3
theorem scan_line : 100 < scanBound := by decide
theorem all_true (l : List Val) : blsOf (l.map fun _ => Val.bl true) = some (l.map fun _ => true) := bls_map (fun _ => true) l
theorem is_subscripts_ok (w : World) (n : Int) (ps : List (Int × Int)) (st : Sto) (h : SubsOk n ps) : F_is_subscripts w [subsV ps, .int n, .bl true] st = .ok (.bl true) st := by
  have hl : ps.length ≤ 3 := by have := h.hi; have := h.small; omega
  have hz : ps.length ≤ sizeLine := Nat.le_trans hl (by decide)
  have k1 := lcGo_map (keep := always) (g := gN 3) (me := mCall (F_is_tuple_of w) [] (aCons (mVar 3) (aCons (mVal (.int 2)) (aCons (mVal (.int 2)) aNil)))) (σ0 := [some (subsV ps), some (.int n), some (.bl true), none, none, none, none]) (st := st) (fun _ => .bl true) trivial
    (ps.map pv) (fun v hv => by
      obtain ⟨p, _, rfl⟩ := List.mem_map.mp hv
      exact ⟨_, rfl, by simp [is_tuple_tup]⟩) (by rw [List.length_map]; exact hz)
  have k2 := lcGo_map (keep := always) (g := gT 2 (gsCons (gN 5) (gsCons (gN 6) gsNil))) (me := mAndV (mCall (F_is_whole w) [] (aCons (mVar 5) (aCons (mVal (.int 0)) (aCons (mOp2 subV (mVar 1) (mVal (.int 1))) aNil)))) (mCall (F_is_whole w) [] (aCons (mVar 6) (aCons (mOp1 negV (mVar 4)) (aCons (mVar 4) aNil)))))
    (σ0 := [some (subsV ps), some (.int n), some (.bl true), none, some (.int 2), none, none]) (st := st) (fun _ => .bl true) trivial (ps.map pv) (fun v hv => by
      obtain ⟨p, hp, rfl⟩ := List.mem_map.mp hv
      obtain ⟨⟨a1, a2⟩, a3, a4⟩ := h.at_ p hp
      exact ⟨[some (subsV ps), some (.int n), some (.bl true), none, some (.int 2), some (.int p.1), some (.int p.2)], rfl, by simp [is_whole_int, a1, a2, a3, a4]⟩) (by rw [List.length_map]; exact hz)
  have k3 := scGo_unlike (keep := always) (g := gT 2 (gsCons (gN 5) (gsCons (gN 6) gsNil))) (me := mVar 5) (σ0 := [some (subsV ps), some (.int n), some (.bl true), none, some (.int 2), none, none]) (st := st)
    (fun v => match v with | .tup [.int i, _] => .inl i | _ => .inl 0) trivial (ps.map pv) [] (fun v hv => by
      obtain ⟨p, hp, rfl⟩ := List.mem_map.mp hv
      exact ⟨[some (subsV ps), some (.int n), some (.bl true), none, some (.int 2), some (.int p.1), some (.int p.2)], .int p.1, rfl, rfl, rfl⟩) (by
      rw [List.nil_append, List.map_map]
      have e : ps.map ((fun v => match v with | .tup [.int i, _] => (.inl i : Key) | _ => .inl 0) ∘ pv) = (ps.map (·.1)).map Sum.inl := by
        rw [List.map_map]
        rfl
      rw [e]
      exact List.pairwise_map.mpr (h.nd.imp fun hab e => hab (Sum.inl.inj e))) (by rw [List.length_map]; have := scan_line; simp; omega)
  simp only [F_is_subscripts, m_is_subscripts, runB]
  simp [is_tuple_tup, h.lo, h.hi, wipeE, k1, k2, k3, all_true, -List.map_map]
end K35
end

section
set_option Elab.async false
set_option linter.all false
set_option maxRecDepth 100000
set_option maxHeartbeats 400000
namespace K35
open PySem PySem.Spec PyProof.Rows L2 L3
/-! ### words -/
@[simp] theorem ne_num_loop : ((Str.ofString "num") = (Str.ofString "loop")) = False := eq_false (by decide +kernel)
@[simp] theorem ne_num_given : ((Str.ofString "num") = (Str.ofString "given")) = False := eq_false (by decide +kernel)
@[simp] theorem ne_num_use : ((Str.ofString "num") = (Str.ofString "use")) = False := eq_false (by decide +kernel)
@[simp] theorem ne_num_pick : ((Str.ofString "num") = (Str.ofString "pick")) = False := eq_false (by decide +kernel)
@[simp] theorem ne_loop_num : ((Str.ofString "loop") = (Str.ofString "num")) = False := eq_false (by decide +kernel)
@[simp] theorem ne_loop_given : ((Str.ofString "loop") = (Str.ofString "given")) = False := eq_false (by decide +kernel)
@[simp] theorem ne_loop_use : ((Str.ofString "loop") = (Str.ofString "use")) = False := eq_false (by decide +kernel)
@[simp] theorem ne_loop_pick : ((Str.ofString "loop") = (Str.ofString "pick")) = False := eq_false (by decide +kernel)
@[simp] theorem ne_given_num : ((Str.ofString "given") = (Str.ofString "num")) = False := eq_false (by decide +kernel)
@[simp] theorem ne_given_loop : ((Str.ofString "given") = (Str.ofString "loop")) = False := eq_false (by decide +kernel)
@[simp] theorem ne_given_use : ((Str.ofString "given") = (Str.ofString "use")) = False := eq_false (by decide +kernel)
@[simp] theorem ne_given_pick : ((Str.ofString "given") = (Str.ofString "pick")) = False := eq_false (by decide +kernel)
@[simp] theorem ne_use_num : ((Str.ofString "use") = (Str.ofString "num")) = False := eq_false (by decide +kernel)
@[simp] theorem ne_use_loop : ((Str.ofString "use") = (Str.ofString "loop")) = False := eq_false (by decide +kernel)
@[simp] theorem ne_use_given : ((Str.ofString "use") = (Str.ofString "given")) = False := eq_false (by decide +kernel)
@[simp] theorem ne_use_pick : ((Str.ofString "use") = (Str.ofString "pick")) = False := eq_false (by decide +kernel)
@[simp] theorem ne_pick_num : ((Str.ofString "pick") = (Str.ofString "num")) = False := eq_false (by decide +kernel)
@[simp] theorem ne_pick_loop : ((Str.ofString "pick") = (Str.ofString "loop")) = False := eq_false (by decide +kernel)
@[simp] theorem ne_pick_given : ((Str.ofString "pick") = (Str.ofString "given")) = False := eq_false (by decide +kernel)
@[simp] theorem ne_pick_use : ((Str.ofString "pick") = (Str.ofString "use")) = False := eq_false (by decide +kernel)
@[simp] theorem ne_add_num : ((Str.ofString "add") = (Str.ofString "num")) = False := eq_false (by decide +kernel)
@[simp] theorem ne_add_loop : ((Str.ofString "add") = (Str.ofString "loop")) = False := eq_false (by decide +kernel)
@[simp] theorem ne_add_given : ((Str.ofString "add") = (Str.ofString "given")) = False := eq_false (by decide +kernel)
@[simp] theorem ne_add_use : ((Str.ofString "add") = (Str.ofString "use")) = False := eq_false (by decide +kernel)
@[simp] theorem ne_add_pick : ((Str.ofString "add") = (Str.ofString "pick")) = False := eq_false (by decide +kernel)
@[simp] theorem ne_sub_num : ((Str.ofString "sub") = (Str.ofString "num")) = False := eq_false (by decide +kernel)
@[simp] theorem ne_sub_loop : ((Str.ofString "sub") = (Str.ofString "loop")) = False := eq_false (by decide +kernel)
@[simp] theorem ne_sub_given : ((Str.ofString "sub") = (Str.ofString "given")) = False := eq_false (by decide +kernel)
@[simp] theorem ne_sub_use : ((Str.ofString "sub") = (Str.ofString "use")) = False := eq_false (by decide +kernel)
@[simp] theorem ne_sub_pick : ((Str.ofString "sub") = (Str.ofString "pick")) = False := eq_false (by decide +kernel)
@[simp] theorem ne_mul_num : ((Str.ofString "mul") = (Str.ofString "num")) = False := eq_false (by decide +kernel)
@[simp] theorem ne_mul_loop : ((Str.ofString "mul") = (Str.ofString "loop")) = False := eq_false (by decide +kernel)
@[simp] theorem ne_mul_given : ((Str.ofString "mul") = (Str.ofString "given")) = False := eq_false (by decide +kernel)
@[simp] theorem ne_mul_use : ((Str.ofString "mul") = (Str.ofString "use")) = False := eq_false (by decide +kernel)
@[simp] theorem ne_mul_pick : ((Str.ofString "mul") = (Str.ofString "pick")) = False := eq_false (by decide +kernel)
@[simp] theorem ne_min_num : ((Str.ofString "min") = (Str.ofString "num")) = False := eq_false (by decide +kernel)
@[simp] theorem ne_min_loop : ((Str.ofString "min") = (Str.ofString "loop")) = False := eq_false (by decide +kernel)
@[simp] theorem ne_min_given : ((Str.ofString "min") = (Str.ofString "given")) = False := eq_false (by decide +kernel)
@[simp] theorem ne_min_use : ((Str.ofString "min") = (Str.ofString "use")) = False := eq_false (by decide +kernel)
@[simp] theorem ne_min_pick : ((Str.ofString "min") = (Str.ofString "pick")) = False := eq_false (by decide +kernel)
@[simp] theorem ne_max_num : ((Str.ofString "max") = (Str.ofString "num")) = False := eq_false (by decide +kernel)
@[simp] theorem ne_max_loop : ((Str.ofString "max") = (Str.ofString "loop")) = False := eq_false (by decide +kernel)
@[simp] theorem ne_max_given : ((Str.ofString "max") = (Str.ofString "given")) = False := eq_false (by decide +kernel)
@[simp] theorem ne_max_use : ((Str.ofString "max") = (Str.ofString "use")) = False := eq_false (by decide +kernel)
@[simp] theorem ne_max_pick : ((Str.ofString "max") = (Str.ofString "pick")) = False := eq_false (by decide +kernel)
/-! ### expressions -/
inductive Lf where
  | num (n : Int) | loop (k : Int) | given (nm : Str) (ps : List (Int × Int)) | use (v : Str) (s : List Int) (nm : Str) (ps : List (Int × Int))
inductive Bd where
  | lf (l : Lf) | two (o : Str) (a b : Bd) | pick (a b c : Bd)
def Lf.val : Lf → Val
  | .num n => .tup [.str "num", .int n]
  | .loop k => .tup [.str "loop", .int k]
  | .given nm ps => .tup [.str "given", .str nm, subsV ps]
  | .use v s nm ps => .tup [.str "use", .str v, .tup (s.map .int), .str nm, subsV ps]
def Bd.val : Bd → Val
  | .lf l => l.val
  | .two o a b => .tup [.str o, a.val, b.val]
  | .pick a b c => .tup [.str "pick", a.val, b.val, c.val]
def Bd.leaves : Bd → List Lf
  | .lf l => [l]
  | .two _ a b => a.leaves ++ b.leaves
  | .pick a b c => a.leaves ++ (b.leaves ++ c.leaves)
def Bd.size : Bd → Nat
  | .lf _ => 1
  | .two _ a b => 1 + (a.size + b.size)
  | .pick a b c => 1 + (a.size + (b.size + c.size))
def opsL : List Str := ["add", "sub", "mul", "min", "max"]
def Bd.opsOk : Bd → Prop
  | .lf _ => True
  | .two o a b => o ∈ opsL ∧ a.opsOk ∧ b.opsOk
  | .pick a b c => a.opsOk ∧ b.opsOk ∧ c.opsOk
structure StepOk (n : Int) (s : List Int) : Prop where
  len : (s.length : Int) = n
  at_ : ∀ i ∈ s, -5 ≤ i ∧ i ≤ 5
def Lf.Ok (n : Int) : Lf → Prop
  | .num i => 0 ≤ i ∧ i ≤ 65535
  | .loop k => 0 ≤ k ∧ k ≤ n - 1
  | .given nm ps => signsOk SM nm = true ∧ SubsOk n ps
  | .use v s nm ps => varOk v = true ∧ StepOk n s ∧ signsOk SM nm = true ∧ SubsOk n ps
theorem is_step_ok (w : World) (n : Int) (s : List Int) (st : Sto) (hn : n ≤ 3) (h : StepOk n s) : F_is_step w [.tup (s.map .int), .int n] st = .ok (.bl true) st := by
  have hz : s.length ≤ sizeLine := Nat.le_trans (show s.length ≤ 3 by have := h.len; omega) (by decide)
  have k1 := lcGo_map (keep := always) (g := gN 2) (me := mCall (F_is_whole w) [] (aCons (mVar 2) (aCons (mOp1 negV (mVal (.int 5))) (aCons (mVal (.int 5)) aNil)))) (σ0 := [some (.tup (s.map .int)), some (.int n), none]) (st := st) (fun _ => .bl true) trivial (s.map .int) (fun v hv => by
    obtain ⟨i, hi, rfl⟩ := List.mem_map.mp hv
    obtain ⟨a1, a2⟩ := h.at_ i hi
    exact ⟨_, rfl, by simp [is_whole_int, a1, a2]⟩) (by rw [List.length_map]; exact hz)
  simp only [F_is_step, m_is_step, runB]
  simp [is_tuple_tup, h.len, wipeE, k1, all_true, -List.map_map]
theorem is_leaf_ok (w : World) (n : Int) (l : Lf) (st : Sto) (hn : n ≤ 3) (h : l.Ok n) : F_is_leaf w [l.val, .int n] st = .ok (.bl true) st := by
  cases l with
  | num i =>
    simp only [F_is_leaf, m_is_leaf, runB]
    simp [Lf.val, is_word_int, h.1, h.2]
  | loop k =>
    simp only [F_is_leaf, m_is_leaf, runB]
    simp [Lf.val, is_whole_int, h.1, h.2]
  | given nm ps =>
    have ei : inM (.str "given") (.tup [.str "given", .str "use"]) st = .ok (.bl true) st := by
      unfold inM
      rw [show inW st (.str "given") (.tup [.str "given", .str "use"]) = some true by rfl]
    simp only [F_is_leaf, m_is_leaf, runB]
    simp [Lf.val, ei, is_name_ok _ _ _ h.1, is_subscripts_ok _ _ _ _ h.2, sizeLine]
  | use v s nm ps =>
    have ei : inM (.str "use") (.tup [.str "given", .str "use"]) st = .ok (.bl true) st := by
      unfold inM
      rw [show inW st (.str "use") (.tup [.str "given", .str "use"]) = some true by rfl]
    obtain ⟨h1, h2, h3, h4⟩ := h
    have ec : cutM (.lst [.str v, .tup (s.map .int), .str nm, subsV ps]) (some 2) none st = .ok (.lst [.str nm, subsV ps]) st := by
      rfl
    simp only [F_is_leaf, m_is_leaf, runB]
    simp [Lf.val, ei, ec, is_name_ok _ _ _ h3, is_subscripts_ok _ _ _ _ h4, is_var_ok _ _ _ h1, is_step_ok _ _ _ _ hn h2, sizeLine]
end K35
end

section
set_option Elab.async false
set_option linter.all false
set_option maxRecDepth 100000
set_option maxHeartbeats 400000
namespace K35
open PySem PySem.Spec PyProof.Rows L2 L3
theorem signs_ok {z s : Str} (hz : ∀ c ∈ z.cps, c < 0x110000) (h : signsOk z s = true) : PyData.strOk s = true := by
  unfold signsOk at h
  simp only [Bool.and_eq_true, List.all_eq_true, decide_eq_true_eq] at h
  unfold PyData.strOk
  rw [Array.all_eq_true_iff_forall_mem]
  intro c hc
  exact decide_eq_true (hz c (h.2.2 c (by simpa using hc)))
theorem SM_ok : ∀ c ∈ SM.cps, c < 0x110000 := by decide +kernel
theorem SF_ok : ∀ c ∈ (SM ++ FI).cps, c < 0x110000 := by decide +kernel
theorem dat_str {k : Nat} {s : Str} (h : PyData.strOk s = true) : Dat k (.str s) := ⟨_, rfl, h, Nat.zero_le _⟩
theorem dat_subs {ps : List (Int × Int)} : Dat 2 (subsV ps) := Dat.tup fun v hv => by
  obtain ⟨p, _, rfl⟩ := List.mem_map.mp hv
  exact Dat.tup fun u hu => by
    rcases List.mem_cons.mp hu with rfl | hu
    · exact .int
    · rcases List.mem_cons.mp hu with rfl | hu
      · exact .int
      · cases hu
theorem varOk_str {s : Str} (h : varOk s = true) : PyData.strOk s = true := signs_ok SF_ok (Bool.and_eq_true_iff.mp h).1
theorem dats_nil {k : Nat} : Dats k [] := fun _ h => nomatch h
theorem dats_cons {k : Nat} {v : Val} {l : List Val} (h : Dat k v) (h2 : Dats k l) : Dats k (v :: l) := fun u hu => by
  rcases List.mem_cons.mp hu with rfl | hu
  · exact h
  · exact h2 u hu
theorem dat_ints {k : Nat} {l : List Int} : Dats k (l.map .int) := fun v hv => by
  obtain ⟨i, _, rfl⟩ := List.mem_map.mp hv
  exact .int
theorem dat_lf {n : Int} {l : Lf} (h : l.Ok n) : Dat 3 l.val := by
  cases l with
  | num i => exact (Dat.tup (k := 2) (dats_cons (dat_str (by decide +kernel)) (dats_cons .int dats_nil)))
  | loop i => exact (Dat.tup (k := 2) (dats_cons (dat_str (by decide +kernel)) (dats_cons .int dats_nil)))
  | given nm ps => exact Dat.tup (dats_cons (dat_str (by decide +kernel)) (dats_cons (dat_str (signs_ok SM_ok h.1)) (dats_cons dat_subs dats_nil)))
  | use v s nm ps => exact Dat.tup (dats_cons (dat_str (by decide +kernel)) (dats_cons (dat_str (varOk_str h.1)) (dats_cons ((Dat.tup (k := 1) dat_ints)) (dats_cons (dat_str (signs_ok SM_ok h.2.2.1)) (dats_cons dat_subs dats_nil)))))
def Bd.deep : Bd → Nat
  | .lf _ => 0
  | .two _ a b => 1 + max a.deep b.deep
  | .pick a b c => 1 + max a.deep (max b.deep c.deep)
def Bd.Ok (n : Int) : Bd → Prop
  | .lf l => l.Ok n
  | .two o a b => o ∈ opsL ∧ a.Ok n ∧ b.Ok n
  | .pick a b c => a.Ok n ∧ b.Ok n ∧ c.Ok n
theorem ops_ok {o : Str} (h : o ∈ opsL) : PyData.strOk o = true := by
  have : ∀ o ∈ opsL, PyData.strOk o = true := by decide +kernel
  exact this o h
theorem dat_bd {n : Int} : ∀ {b : Bd}, b.Ok n → Dat (3 + b.deep) b.val
  | .lf l, h => dat_lf h
  | .two o a b, h => (Dat.tup (k := 2 + (1 + max a.deep b.deep)) (dats_cons (dat_str (ops_ok h.1)) (dats_cons ((dat_bd h.2.1).mono (by omega)) (dats_cons ((dat_bd h.2.2).mono (by omega)) dats_nil)))).mono (by show _ ≤ 3 + (1 + max a.deep b.deep); omega)
  | .pick a b c, h => (Dat.tup (k := 2 + (1 + max a.deep (max b.deep c.deep))) (dats_cons (dat_str (by decide +kernel)) (dats_cons ((dat_bd h.1).mono (by omega)) (dats_cons ((dat_bd h.2.1).mono (by omega)) (dats_cons ((dat_bd h.2.2).mono (by omega)) dats_nil))))).mono (by show _ ≤ 3 + (1 + max a.deep (max b.deep c.deep)); omega)
end K35
end

section
set_option Elab.async false
set_option linter.all false
set_option maxRecDepth 100000
set_option maxHeartbeats 400000
namespace K35
open PySem PySem.Spec PyProof.Rows L2 L3
abbrev scr (ns : List Int) : Val := .cst (ns.map .int)
theorem drawn_spec (w : World) {ns : List Int} (hs : ns.length ≤ 63) {b : Int} (hb : 0 < b) {k : Nat} {st : Sto} (hst : Bud (k + 1) st) :
    Wp (F__law_drawn w [scr ns, .loc 0, .int b] st) fun v st' => ∃ i, v = .int i ∧ 0 ≤ i ∧ i < b ∧ Bud k st' ∧ Stay st st' := by
  have hp := hst.pos
  obtain ⟨s, e0, hs0, hs1⟩ := hst
  have e1 : (st.set 0 (.lst [.int (s + 1)]))[0]? = some (.lst [.int (s + 1)]) := List.getElem?_set_self hp
  have hb1 : Bud k (st.set 0 (.lst [.int (s + 1)])) := ⟨s + 1, e1, by omega, by omega⟩
  have hst1 : Stay st (st.set 0 (.lst [.int (s + 1)])) := Stay.set0
  have hn : neM (scr ns) (.lst []) (st.set 0 (.lst [.int (s + 1)])) = .ok (.bl (!ns.isEmpty)) (st.set 0 (.lst [.int (s + 1)])) := by
    unfold neM
    rw [eqW_cst_nil dats_ints]
    simp
  have mixed : ∀ (c : Int) (σ5 σ6 : Option Val), WpS (mSeq (mAsg (mOp2 powV (mOp2 addV (mOp2 addV (mOp2 modV (mVar 4) (mVal (.int 2305843009213693951))) (mOp2 mulV (mOp2 mulV (mVal (.int 7919)) (mVar 3)) (mVar 3))) (mVal (.int 11))) (mVal (.int 5))) (gN 7))
      (mRet (mOp2 modV (mOp2 fdivV (mOp2 modV (mVar 7) (mVal (.int 170141183460469231731687303715884105727))) (mVal (.int 7))) (mVar 2))) [some (scr ns), some (.loc 0), some (.int b), some (.int (s + 1)), some (.int c), σ5, σ6, none] (st.set 0 (.lst [.int (s + 1)])))
      (defQ fun v st' => ∃ i, v = .int i ∧ 0 ≤ i ∧ i < b ∧ Bud k st' ∧ Stay st st') := by
    intro c σ5 σ6
    have l1 : (7919 : Nat).log2 + (s + 1).natAbs.log2 < 1000000 := by
      have := log2_lt (n := (s + 1).natAbs) (k := 30) (by decide) (by omega)
      have : (7919 : Nat).log2 = 12 := by decide +kernel
      omega
    have l2 : (7919 * (s + 1)).natAbs.log2 + (s + 1).natAbs.log2 < 1000000 := by
      have := log2_lt (n := (s + 1).natAbs) (k := 30) (by decide) (by omega)
      have := log2_lt (n := (7919 * (s + 1)).natAbs) (k := 50) (by decide) (by omega)
      omega
    have l3 : (c % 2305843009213693951 + 7919 * (s + 1) * (s + 1) + 11).natAbs < 18446744073709551616 := by
      have h1 : 7919 * (s + 1) * (s + 1) ≤ 7919 * 16777217 * 16777217 := by
        exact Int.mul_le_mul (by omega) (by omega) (by omega) (by omega)
      have h2 : 0 ≤ 7919 * (s + 1) * (s + 1) := Int.mul_nonneg (by omega) (by omega)
      have h3 := Int.emod_nonneg c (b := 2305843009213693951) (by decide)
      have h4 := Int.emod_lt_of_pos c (b := 2305843009213693951) (by decide)
      omega
    have l4 : (7 : Nat).log2 < 9000 := by decide +kernel
    simp [modV_int, mulV_int, powV_int, fdivV_int, l1, l2, l3, l4, hb]
    exact ⟨Int.emod_nonneg _ (by omega), Int.emod_lt_of_pos _ hb, hb1, hst1⟩
  unfold F__law_drawn
  refine wp_runB rfl ?_
  simp [m__law_drawn, getM_loc e0, setM_0 e0, getM_loc e1, hn]
  have cell : Wp (if ns = [] then Res.ok (Val.int 0) (st.set 0 (.lst [.int (s + 1)])) else (modV (.int (s + 1)) (.int ns.length) (st.set 0 (.lst [.int (s + 1)]))).bind fun w st2 => getM (scr ns) w st2) fun a s2 => (∃ c, a = .int c ∧ (ns = [] → c = 0)) ∧ s2 = st.set 0 (.lst [.int (s + 1)]) := by
    refine Wp_split (fun _ => ⟨⟨0, rfl, fun _ => rfl⟩, rfl⟩) fun hne => ?_
    have hl : 0 < ns.length := List.length_pos_iff.mpr hne
    have hl' : (0 : Int) < ns.length := by omega
    simp only [modV_int, hl', if_true, Res.bind_ok]
    refine wp_get (fun _ => getM_cst) (Int.emod_nonneg _ (by omega)) (by have := Int.emod_lt_of_pos (s + 1) hl'; simpa using this) fun u hu => ?_
    rw [List.getElem?_map] at hu
    obtain ⟨c, _, rfl⟩ := Option.map_eq_some_iff.mp hu
    exact ⟨⟨c, rfl, fun e => absurd e hne⟩, rfl⟩
  refine cell.mono ?_
  rintro _ _ ⟨⟨c, rfl, hce⟩, rfl⟩
  have ll : ns.length.log2 < 9000 := Nat.lt_of_lt_of_le (log2_lt (k := 6) (by decide) (by omega)) (by decide)
  by_cases hc : (1000000000000000000 : Int) ≤ c
  · by_cases hne : ns = []
    · have := hce hne
      omega
    have hl : 0 < ns.length := List.length_pos_iff.mpr hne
    have hl' : (0 : Int) < ns.length := by omega
    by_cases ht : (s + 1) / (ns.length : Int) < 200
    · simp [powV_int, hc, fdivV_int, hl, ll, ht, iR1_s]
      have hd0 : 0 ≤ (s + 1) / (ns.length : Int) := Int.ediv_nonneg (by omega) (by omega)
      refine Wp_pos (okR_iff.mpr ⟨by omega, by omega⟩) ?_
      rw [Wp_ok]
      refine wp_for (fun _ σ s2 => ∃ left : Int, ∃ σ6, σ = [some (scr ns), some (.loc 0), some (.int b), some (.int (s + 1)), some (.int c), some (.int left), σ6, none] ∧ s2 = st.set 0 (.lst [.int (s + 1)])) ⟨c, none, rfl, rfl⟩ (fun _ _ _ _ => trivial) ?_ ?_
      · rintro p v q _ _ _ ⟨left, σ6, rfl, rfl⟩
        have l5 : (1009 : Nat).log2 < 9000 := by decide +kernel
        simp [fdivV_int, l5]
      · rintro _ _ ⟨left, σ6, rfl, rfl⟩
        by_cases h6 : 0 < left
        · simp [h6, modV_int, hb]
          exact ⟨Int.emod_nonneg _ (by omega), Int.emod_lt_of_pos _ hb, hb1, hst1⟩
        · have m := mixed c (some (.int left)) σ6
          simp at m
          simp [h6]
          exact m
    · simp [powV_int, hc, fdivV_int, hl, ll, ht, iR1_s]
      have m := mixed c none none
      simp at m
      exact m
  · simp [powV_int, hc]
    have m := mixed c none none
    simp at m
    exact m
end K35
end

section
set_option Elab.async false
set_option linter.all false
set_option maxRecDepth 100000
set_option maxHeartbeats 400000
namespace K35
open PySem PySem.Spec PyProof.Rows L2 L3
/-! ### names -/
abbrev poolL : List Str := ["a", "b", "c", "c0", "c1", "use", "given", "num", "loop", "add", "need", "x1", "x", "first", "form", "v9"]
def dg (k : Nat) : List Nat := (toString (k : Int) : Str).cps.toList
theorem dg_facts : ∀ k ∈ List.range 40, (dg k).length ≤ 2 ∧ (∀ c ∈ dg k, c ∈ FI.cps) := by decide +kernel
theorem dg_inj : ((List.range 40).map dg).Nodup := by decide +kernel
theorem fi_no_q : (113 : Nat) ∉ FI.cps := by decide +kernel
theorem sm_q : (113 : Nat) ∈ SM.cps := by decide +kernel
structure IsQ (k : Nat) (s : Str) (pre : List Nat) : Prop where
  lt : k < 40
  len : pre.length ≤ 3
  sm : ∀ c ∈ pre, c ∈ SM.cps
  eq : s.cps.toList = pre ++ (113 :: dg k)
theorem dg_len {k : Nat} (h : k < 40) : (dg k).length ≤ 2 := (dg_facts k (List.mem_range.mpr h)).1
theorem dg_fi {k : Nat} (h : k < 40) : ∀ c ∈ dg k, c ∈ FI.cps := (dg_facts k (List.mem_range.mpr h)).2
theorem takeW_fig {l r : List Nat} (h : ∀ c ∈ l, c ∈ FI.cps) : (l ++ 113 :: r).takeWhile (fun c => decide (c ∈ FI.cps)) = l := by
  induction l with
  | nil => simp [fi_no_q]
  | cons a l ih => 
    have ha := h a List.mem_cons_self
    rw [List.cons_append, List.takeWhile_cons, if_pos (decide_eq_true ha), ih fun c hc => h c (List.mem_cons_of_mem _ hc)]
theorem IsQ.fig {k : Nat} {s : Str} {pre : List Nat} (h : IsQ k s pre) : s.cps.toList.reverse.takeWhile (fun c => decide (c ∈ FI.cps)) = (dg k).reverse := by
  rw [h.eq, List.reverse_append, List.reverse_cons, List.append_assoc]
  exact takeW_fig fun c hc => dg_fi h.lt c (List.mem_reverse.mp hc)
theorem IsQ.inj {k j : Nat} {s : Str} {pre pre' : List Nat} (h : IsQ k s pre) (h' : IsQ j s pre') : k = j := by
  have e : dg k = dg j := List.reverse_inj.mp (h.fig.symm.trans h'.fig)
  have h1 : (List.range 40)[k]? = some k := List.getElem?_range h.lt
  have h2 : (List.range 40)[j]? = some j := List.getElem?_range h'.lt
  have n := dg_inj
  have a1 : ((List.range 40).map dg)[k]? = some (dg k) := by rw [List.getElem?_map, h1]; rfl
  have a2 : ((List.range 40).map dg)[j]? = some (dg j) := by rw [List.getElem?_map, h2]; rfl
  rw [← e] at a2
  exact (List.getElem?_inj (by simpa using h.lt) n).mp (a1.trans a2.symm)
theorem IsQ.ok {k : Nat} {s : Str} {pre : List Nat} (h : IsQ k s pre) : varOk s = true := by
  have hl : s.length = pre.length + (1 + (dg k).length) := by
    rw [str_len, h.eq, List.length_append, List.length_cons]; omega
  have h2 := dg_len h.lt
  have h3 := h.len
  have hs : ∀ c ∈ s.cps.toList, c ∈ (SM ++ FI).cps := by
    intro c hc
    have e : (SM ++ FI).cps = SM.cps ++ FI.cps := rfl
    rw [e, Array.mem_append]
    rw [h.eq, List.mem_append, List.mem_cons] at hc
    rcases hc with hc | rfl | hc
    · exact .inl (h.sm c hc)
    · exact .inl sm_q
    · exact .inr (dg_fi h.lt c hc)
  unfold varOk signsOk
  simp only [Bool.and_eq_true, decide_eq_true_eq, List.all_eq_true]
  refine ⟨⟨by omega, by omega, hs⟩, ?_⟩
  rw [h.eq]
  cases hp : pre with
  | nil => exact decide_eq_true sm_q
  | cons a r => exact decide_eq_true (h.sm a (by rw [hp]; exact List.mem_cons_self))
theorem IsQ.hasq {k : Nat} {s : Str} {pre : List Nat} (h : IsQ k s pre) : 113 ∈ s.cps.toList := by
  rw [h.eq]; simp
theorem pool_ok : ∀ s ∈ poolL, varOk s = true ∧ 113 ∉ s.cps.toList := by decide +kernel
theorem pool_nd : poolL.Nodup := by decide +kernel
/-- the names found by k turns, with what the pool still holds -/
structure Found (k : Nat) (F P : List Str) : Prop where
  len : F.length = k
  nd : F.Nodup
  sub : P.Sublist poolL
  at_ : ∀ f ∈ F, (∃ j pre, j < k ∧ IsQ j f pre) ∨ (f ∈ poolL ∧ f ∉ P)
theorem Found.addQ {k : Nat} {F P : List Str} {s : Str} {pre : List Nat} (h : Found k F P) (q : IsQ k s pre) : Found (k + 1) (F ++ [s]) P := by
  refine ⟨by rw [List.length_append, h.len]; rfl, ?_, h.sub, ?_⟩
  · rw [List.nodup_append]
    refine ⟨h.nd, by simp, fun a ha b hb e => ?_⟩
    rw [List.mem_singleton] at hb
    subst hb; subst e
    rcases h.at_ _ ha with ⟨j, p', hj, hq⟩ | ⟨h1, _⟩
    · have := hq.inj q; omega
    · exact (pool_ok _ h1).2 q.hasq
  · intro f hf
    rcases List.mem_append.mp hf with hf | hf
    · rcases h.at_ _ hf with ⟨j, p', hj, hq⟩ | h1
      · exact .inl ⟨j, p', by omega, hq⟩
      · exact .inr h1
    · rw [List.mem_singleton] at hf
      subst hf
      exact .inl ⟨k, pre, by omega, q⟩
theorem Found.addP {k i : Nat} {F P : List Str} {s : Str} (h : Found k F P) (hi : P[i]? = some s) : Found (k + 1) (F ++ [s]) (P.eraseIdx i) := by
  have hm : s ∈ P := List.mem_of_getElem? hi
  have hnd : P.Nodup := h.sub.nodup pool_nd
  have hout : s ∉ P.eraseIdx i := by
    intro hc
    obtain ⟨hlt, he⟩ := List.getElem?_eq_some_iff.mp hi
    obtain ⟨j, hj, hne, e⟩ := List.mem_eraseIdx_iff_getElem.mp hc
    have := (List.getElem?_inj hlt hnd).mp (hi.trans (by rw [List.getElem?_eq_getElem hj, e]) : P[i]? = P[j]?)
    omega
  refine ⟨by rw [List.length_append, h.len]; rfl, ?_, (List.eraseIdx_sublist ..).trans h.sub, ?_⟩
  · rw [List.nodup_append]
    refine ⟨h.nd, by simp, fun a ha b hb e => ?_⟩
    rw [List.mem_singleton] at hb
    subst hb; subst e
    rcases h.at_ _ ha with ⟨j, p', hj, hq⟩ | ⟨_, h1⟩
    · exact (pool_ok _ (h.sub.subset hm)).2 hq.hasq
    · exact h1 hm
  · intro f hf
    rcases List.mem_append.mp hf with hf | hf
    · rcases h.at_ _ hf with ⟨j, p', hj, hq⟩ | ⟨h1, h2⟩
      · exact .inl ⟨j, p', by omega, hq⟩
      · exact .inr ⟨h1, fun hc => h2 ((List.eraseIdx_sublist ..).subset hc)⟩
    · rw [List.mem_singleton] at hf
      subst hf
      exact .inr ⟨h.sub.subset hm, hout⟩
theorem Found.ok {k : Nat} {F P : List Str} (h : Found k F P) : ∀ f ∈ F, varOk f = true := by
  intro f hf
  rcases h.at_ _ hf with ⟨j, p', hj, hq⟩ | ⟨h1, _⟩
  · exact hq.ok
  · exact (pool_ok _ h1).1
end K35
end

section
set_option Elab.async false
set_option linter.all false
set_option maxRecDepth 100000
set_option maxHeartbeats 400000
namespace K35
open PySem PySem.Spec PyProof.Rows L2 L3
/-- what stands behind a word chosen -/
structure WordQ (st0 : Sto) (F P' : List Str) (b j : Nat) (i : Int) (wd : Str) (s : Sto) : Prop where
  f : s[st0.length]? = some (.lst (F.map .str))
  p : s[st0.length + 1]? = some (.lst (P'.map .str))
  bud : Bud b s
  st : Stay st0 s
  or : (IsQ j wd [] ∧ Found j F P') ∨ (i ≠ 0 ∧ Found (j + 1) (F ++ [wd]) P')
def WordE (st0 : Sto) (F : List Str) (b j : Nat) (i : Int) (v : Val) (s : Sto) : Prop := ∃ wd P', v = .str wd ∧ WordQ st0 F P' b j i wd s
structure CalI (st0 : Sto) (k N : Nat) (j : Nat) (F P : List Str) (s : Sto) : Prop where
  fo : Found j F P
  f : s[st0.length]? = some (.lst (F.map .str))
  p : s[st0.length + 1]? = some (.lst (P.map .str))
  bud : Bud (6 * (N - j) + k) s
  st : Stay st0 s
abbrev calEnv (ns : List Int) (M : Int) (a : Nat) (σ6 σ7 σ8 σ9 : Option Val) : L3.Env := [some (scr ns), some (.loc 0), some (.int M), some (.str SM), some (.loc a), some (.loc (a + 1)), σ6, σ7, σ8, σ9]
def CalE (ns : List Int) (M : Int) (st0 : Sto) (k N : Nat) (j : Nat) (σ : L3.Env) (s : Sto) : Prop := ∃ F P σ6 σ7 σ8 σ9, σ = calEnv ns M st0.length σ6 σ7 σ8 σ9 ∧ CalI st0 k N j F P s
theorem word_spec (w : World) {ns : List Int} (hs : ns.length ≤ 63) {j k : Nat} {M J i : Int} {σ8 σ9 : Option Val} {st0 s1 : Sto} {F P : List Str} (hJ : (j : Int) = J) (hj : j < 40) (hp0 : 0 < st0.length) (hi : 0 ≤ i)
    (hF : Found j F P) (hf1 : s1[st0.length]? = some (.lst (F.map .str))) (hP1 : s1[st0.length + 1]? = some (.lst (P.map .str))) (hb1 : Bud (k + 1) s1) (hst1 : Stay st0 s1) :
    Wp (mIf (mAndT (mTest (mOp2 (cmpV fun i j => decide (j < i)) (mVar 7) (mVal (.int 0)))) (mTest (mOp2 neM (mVar 5) (mLst aNil)))) (mMet "list" popAtM (mVar 5) (aCons (mCall (F__law_drawn w) [] (aCons (mVar 0) (aCons (mVar 1) (aCons (mOps lenM (aCons (mVar 5) aNil)) aNil)))) aNil)) (mOp2 addV (mVal (.str "q")) (mOps strM (aCons (mVar 6) aNil)))
      (calEnv ns M st0.length (some (.int J)) (some (.int i)) σ8 σ9) s1) (WordE st0 F k j i) := by
  have hdP : Dats 60 (P.map .str) := fun v hv => by
    obtain ⟨x, hx, rfl⟩ := List.mem_map.mp hv
    exact dat_str (varOk_str (pool_ok _ (hF.sub.subset hx)).1)
  have hne := neM_loc_nil (st := s1) hP1 hdP
  have hPl : P.length ≤ 16 := hF.sub.length_le
  have isq : IsQ j (("q" : Str) ++ (Str.ofString J.repr)) [] := by
    refine ⟨hj, by simp, (fun _ h => nomatch h), ?_⟩
    rw [str_toList_append, ← hJ]
    rfl
  have h1 : J.natAbs.log2 < 1920 := Nat.lt_of_lt_of_le (log2_lt (k := 40) (by decide) (by omega)) (by decide)
  have h2 : ((Str.ofString "q").length + (Str.ofString J.repr).length) ≤ sizeLine := by
    have h3 : ((Str.ofString "q").length + (Str.ofString J.repr).length) = (dg j).length + 1 := by
      rw [← hJ]
      show 1 + (dg j).length = _
      omega
    rw [h3]
    exact Nat.le_trans (Nat.succ_le_succ (dg_len hj)) (Nat.le_of_ble_eq_true rfl)
  have plain : WordE st0 F k j i (.str (("q" : Str) ++ (Str.ofString J.repr))) s1 := ⟨_, P, rfl, hf1, hP1, hb1.mono (by omega), hst1, .inl ⟨isq, hF⟩⟩
  by_cases hi : 0 < i
  · cases hPe : P with
    | nil =>
      rw [hPe] at hne
      simp [hi, hne, strM_int, h1, addV_str, h2]
      exact plain
    | cons a r =>
      rw [hPe] at hne
      have hlen := lenM_loc hP1
      simp [hi, hne, tyM_loc hP1, hlen]
      refine (drawn_spec w hs (b := P.length) (by rw [hPe]; simp) (k := k) hb1).mono ?_
      rintro _ s2 ⟨i2, rfl, h0, h1, hb2, hst2⟩
      have hP2 := hst2.at (by omega) hP1
      have hlt2 : i2.toNat < P.length := by omega
      have hpop := popAtM_loc (i := i2) (v := .str P[i2.toNat]) hP2 (by simp; omega) h0 (by simp [hlt2])
      simp [hpop]
      refine ⟨_, P.eraseIdx i2.toNat, rfl, ?_, ?_, hb2.setN (by omega), (hst1.trans hst2).setN (by omega), .inr ⟨by omega, hF.addP (by simp [hlt2])⟩⟩
      · rw [List.getElem?_set_ne (by omega)]
        exact hst2.at (by omega) hf1
      · rw [List.getElem?_set_self (List.getElem?_eq_some_iff.mp hP2).1]
        rw [L3.map_eraseIdx]
  · simp [hi, strM_int, h1, addV_str, h2]
    exact plain
def CalQ (st0 : Sto) (k N : Nat) (v : Val) (s : Sto) : Prop := ∃ F : List Str, v = .lst (F.map .str) ∧ F.length = N ∧ F.Nodup ∧ (∀ f ∈ F, varOk f = true) ∧ Bud k s ∧ Stay st0 s
/-- a word with some letters ahead -/
def LetE (ns : List Int) (M J i : Int) (st0 : Sto) (F P : List Str) (wd : Str) (b : Nat) (m : Nat) (σ : L3.Env) (s : Sto) : Prop := ∃ (σ9 : Option Val) (x : Str) (pre : List Nat), σ = calEnv ns M st0.length (some (.int J)) (some (.int i)) (some (.str x)) σ9 ∧ x.cps.toList = pre ++ wd.cps.toList ∧ pre.length = m ∧ (∀ c ∈ pre, c ∈ SM.cps) ∧ s[st0.length]? = some (.lst (F.map .str)) ∧ s[st0.length + 1]? = some (.lst (P.map .str)) ∧ Bud (b + (3 - m)) s ∧ Stay st0 s
theorem called_spec (w : World) {ns : List Int} (hs : ns.length ≤ 63) {N : Nat} {M : Int} (hM : M = N) (hN : N ≤ 40) {k : Nat} {st : Sto} (hst : Bud (6 * N + k) st) :
    Wp (F__law_called w [scr ns, .loc 0, .int M] st) (CalQ st k N) := by
  have hp := hst.pos
  unfold F__law_called
  refine wp_runB rfl ?_
  simp [m__law_called, sizeLine]
  refine wp_iR1 ?_
  simp
  refine ⟨N, hM, by omega, ?_⟩
  refine wp_for (fun p σ s => CalE ns M st k N p.length σ s) ?_ (fun _ _ _ _ => trivial) ?_ ?_
  · refine ⟨[], poolL, none, none, none, none, rfl, ⟨rfl, List.nodup_nil, List.Sublist.refl _, fun _ h => nomatch h⟩, by simp, by simp, ?_, ?_⟩
    · have h := ((hst.mono (j := 6 * (N - 0) + k) (by omega)).push (o := .lst [])).push (o := .lst (poolL.map .str))
      simpa using h
    · have h := ((Stay.refl (st := st)).push (o := .lst [])).push (o := .lst (poolL.map .str))
      simpa using h
  · rintro p v q _ s hL ⟨F, P, σ6, σ7, σ8, σ9, rfl, hI⟩
    obtain ⟨rfl, hlt⟩ := rgN_split hL
    rw [Int.zero_add]
    generalize hJ : (p.length : Int) = J
    simp [-mIf_s]
    refine (drawn_spec w hs (b := 3) (by decide) (k := 5 + 6 * (N - (p.length + 1)) + k) (hI.bud.mono (by omega))).mono ?_
    rintro _ s1 ⟨i, rfl, hi0, hi1, hb1, hst1⟩
    refine (word_spec w hs (k := 4 + 6 * (N - (p.length + 1)) + k) (by omega) (by omega) hp hi0 hI.fo (hst1.at (by omega) hI.f) (hst1.at (by omega) hI.p) (hb1.mono (by omega)) (hI.st.trans hst1)).mono ?_
    rintro _ s2 ⟨wd, P', rfl, hW⟩
    have rest : ∀ (c : Nat) (s3 : Sto), c ≤ 3 → (i ≠ 0 → c = 0) → WordQ st F P' (3 + 6 * (N - (p.length + 1)) + k) p.length i wd s3 → WpS (L3.forM always (gN 9) (mAsg (mOp2 addV (mOp2 getM (mVar 3) (mCall (F__law_drawn w) [] (aCons (mVar 0) (aCons (mVar 1) (aCons (mVal (.int 26)) aNil))))) (mVar 8)) (gN 8)) (rgN 0 c) (calEnv ns M st.length (some (.int J)) (some (.int i)) (some (.str wd)) σ9) s3)
        (nxt (mExpr (mMet "list" appendM (mVar 4) (aCons (mVar 8) aNil))) (stepQ (fun σ s => CalE ns M st k N (p.length + 1) σ s) (nxt (mRet (mOp1 frzM (mVar 4))) (defQ (CalQ st k N))))) := by
      intro c s3 hc hc0 hW
      refine wp_for (fun r σ s => LetE ns M J i st F P' wd (6 * (N - (p.length + 1)) + k) r.length σ s) ?_ (fun _ _ _ _ => trivial) ?_ ?_
      · exact ⟨σ9, wd, [], rfl, rfl, rfl, (fun _ h => nomatch h), hW.f, hW.p, hW.bud.mono (by simp; omega), hW.st⟩
      · rintro r v q' _ s4 hL' ⟨σ9', x, pre, rfl, hx, hpl, hpre, h1, h2, h3, h4⟩
        obtain ⟨rfl, hlt'⟩ := rgN_split hL'
        generalize ((0 : Int) + ((r.length : Nat) : Int)) = J'
        simp
        refine (drawn_spec w hs (b := 26) (by decide) (k := 6 * (N - (p.length + 1)) + k + (3 - (r.length + 1))) (h3.mono (by omega))).mono ?_
        rintro _ s5 ⟨d, rfl, hd0, hd1, hb5, hst5⟩
        have hsm : ((SM.length : Nat) : Int) = 26 := by decide +kernel
        refine wp_getS (by decide +kernel) hd0 (by rw [hsm]; exact hd1) fun ch hch => ?_
        have hxl : x.length ≤ 100 := by
          rw [str_len, hx, List.length_append]
          have := hW.or
          have : wd.length ≤ 6 := by
            rcases hW.or with ⟨h, _⟩ | ⟨_, h⟩
            · exact (signs_len (Bool.and_eq_true_iff.mp h.ok).1).2
            · exact (signs_len (Bool.and_eq_true_iff.mp (h.ok wd (by simp))).1).2
          rw [str_len] at this
          omega
        have hch1 : (⟨#[ch]⟩ : Str).length + x.length ≤ sizeLine := Nat.le_trans (show 1 + x.length ≤ 100000 by omega) line_big
        simp [addV_str, hch1]
        exact ⟨_, (⟨#[ch]⟩ : Str) ++ x, ch :: pre, rfl, (by rw [str_toList_append, hx]; rfl), by simp [hpl], (fun c hc => by
          rcases List.mem_cons.mp hc with rfl | hc
          · simpa using hch
          · exact hpre c hc), hst5.at (by omega) h1, hst5.at (by omega) h2, hb5, h4.trans hst5⟩
      · rintro _ s4 ⟨σ9', x, pre, rfl, hx, hpl, hpre, h1, h2, h3, h4⟩
        rw [rgN_length] at hpl h3
        have hfo : Found (p.length + 1) (F ++ [x]) P' := by
          rcases hW.or with ⟨h, hf⟩ | ⟨hi, h⟩
          · refine hf.addQ (pre := pre) ⟨h.lt, by omega, hpre, ?_⟩
            rw [hx, h.eq]
            rfl
          · have := hc0 hi
            subst this
            have e : pre = [] := List.length_eq_zero_iff.mp hpl
            subst e
            have e : x = wd := str_ext hx
            rw [e]
            exact h
        have hap := appendM_loc (v := .str x) h1 (Nat.lt_of_le_of_lt (show (F.map Val.str).length ≤ 40 by rw [List.length_map]; have := hfo.len; rw [List.length_append] at this; simp at this; omega) (Nat.lt_of_lt_of_le (by omega : 40 < 100000) line_big))
        simp [tyM_loc h1, hap]
        refine ⟨F ++ [x], P', _, _, _, _, rfl, hfo, ?_, ?_, (h3.mono (by omega)).setN (by omega), h4.setN (Nat.le_refl _)⟩
        · rw [List.getElem?_set_self (List.getElem?_eq_some_iff.mp h1).1]
          simp
        · rw [List.getElem?_set_ne (by omega)]
          exact h2
    refine wp_iR1 ?_
    by_cases hi : i = 0
    · simp [hi]
      refine (drawn_spec w hs (b := 4) (by decide) (k := 3 + 6 * (N - (p.length + 1)) + k) (hW.bud.mono (by omega))).mono ?_
      rintro _ s3 ⟨c, rfl, hc0, hc1, hb3, hst3⟩
      subst hi
      exact ⟨c.toNat, by rw [Int.toNat_of_nonneg hc0], by omega, rest c.toNat s3 (by omega) (fun h => absurd rfl h) ⟨hst3.at (by omega) hW.f, hst3.at (by omega) hW.p, hb3, hW.st.trans hst3, hW.or⟩⟩
    · simp [hi]
      exact ⟨0, rfl, by omega, rest 0 s2 (by omega) (fun _ => rfl) ⟨hW.f, hW.p, hW.bud.mono (by omega), hW.st, hW.or⟩⟩
  · rintro _ s ⟨F, P, σ6, σ7, σ8, σ9, rfl, hI⟩
    simp [frzM_loc hI.f]
    rw [rgN_length] at hI
    exact ⟨F, rfl, hI.fo.len, hI.fo.nd, hI.fo.ok, (hI.bud.mono (by omega)).setN (by omega), hI.st.setN (by omega)⟩
end K35
end

section
set_option Elab.async false
set_option linter.all false
set_option maxRecDepth 100000
set_option maxHeartbeats 400000
namespace K35
open PySem PySem.Spec PyProof.Rows L2 L3
def StepQ (st0 : Sto) (k : Nat) (n : Int) (v : Val) (s : Sto) : Prop := ∃ is : List Int, v = .tup (is.map .int) ∧ StepOk n is ∧ Bud k s ∧ Stay st0 s
theorem step_spec (w : World) {ns : List Int} (hs : ns.length ≤ 63) {cs : List Int} (h1 : 1 ≤ cs.length) (h3 : cs.length ≤ 3) {kd : Int} (hk0 : 0 ≤ kd) (hk1 : kd < 6) {k : Nat} {st : Sto} (hst : Bud (20 + k) st) :
    Wp (F__law_step w [scr ns, .loc 0, .tup (cs.map .int), .int kd] st) (StepQ st k cs.length) := by
  unfold F__law_step
  refine wp_runB rfl ?_
  generalize hN : ((cs.length : Nat) : Int) = N
  simp [m__law_step, sizeLine, -mLc_s, hN]
  refine (drawn_spec w hs (b := N) (by omega) (k := 19 + k) (hst.mono (by omega))).mono ?_
  rintro _ s1 ⟨lp, rfl, h0, h1, hb1, hst1⟩
  simp
  have hc : ((cs.length : Nat) : Int) = N := hN
  refine wp_draws 0 (19 + k) (fun i => -5 ≤ i ∧ i ≤ 5) (n := cs.length) (by simp [hc]) (by omega) (hb1.mono (by omega)) (fun v s => ⟨_, rfl, ?_⟩) fun l1 s2 e1 p1 hb2 hst2 => ?_
  · rintro j rfl hj0 hj1 k' s' hb'
    by_cases hj : j = lp
    · simp [wipeE, hj]
      exact ⟨hb'.mono (by omega), .refl⟩
    · simp [wipeE, hj]
      exact ⟨hb'.mono (by omega), .refl⟩
  refine wp_draws 2 (13 + k) (fun i => -5 ≤ i ∧ i ≤ 5) (n := cs.length) (by simp [hc]) (by omega) (hb2.mono (by omega)) (fun v s => ⟨_, rfl, ?_⟩) fun l2 s3 e2 p2 hb3 hst3 => ?_
  · rintro j rfl hj0 hj1 k' s' hb'
    simp [wipeE]
    refine (drawn_spec w hs (b := 3) (by decide) (k := 1 + k') (hb'.mono (by omega))).mono ?_
    rintro _ s4 ⟨a, rfl, a0, a1, hb4, hst4⟩
    refine (drawn_spec w hs (b := 2) (by decide) (k := k') (hb4.mono (by omega))).mono ?_
    rintro _ s5 ⟨b, rfl, b0, b1, hb5, hst5⟩
    simp only [subV_int, Wp_ok]
    exact ⟨_, rfl, ⟨by omega, by omega⟩, hb5, hst4.trans hst5⟩
  refine wp_draws 1 (10 + k) (fun i => -5 ≤ i ∧ i ≤ 5) (n := cs.length) (by simp [hc]) (by omega) (hb3.mono (by omega)) (fun v s => ⟨_, rfl, ?_⟩) fun l3 s4 e3 p3 hb4 hst4 => ?_
  · rintro j rfl hj0 hj1 k' s' hb'
    simp [wipeE]
    refine (drawn_spec w hs (b := 11) (by decide) (k := k') (hb'.mono (by omega))).mono ?_
    rintro _ s4 ⟨a, rfl, a0, a1, hb4, hst4⟩
    simp only [subV_int, Wp_ok]
    exact ⟨_, rfl, ⟨by omega, by omega⟩, hb4, hst4⟩
  refine wp_draws 1 (7 + k) (fun i => -5 ≤ i ∧ i ≤ 5) (n := cs.length) (by simp [hc]) (by omega) (hb4.mono (by omega)) (fun v s => ⟨_, rfl, ?_⟩) fun l4 s5 e4 p4 hb5 hst5 => ?_
  · rintro j rfl hj0 hj1 k' s' hb'
    simp [wipeE]
    refine (drawn_spec w hs (b := 3) (by decide) (k := k') (hb'.mono (by omega))).mono ?_
    rintro _ s4 ⟨a, rfl, a0, a1, hb4, hst4⟩
    exact ⟨_, rfl, ⟨by omega, by omega⟩, hb4, hst4⟩
  have hm : mulV (.lst [.int 0]) (.int N) s5 = .ok (.lst ((List.replicate cs.length (0 : Int)).map .int)) s5 := by
    rw [mulV_lst, if_pos ⟨by omega, by omega, Nat.le_trans (by simp; omega) line_big⟩]
    have : N.toNat = cs.length := by omega
    rw [this]
    simp
  simp [hm, -List.map_replicate]
  refine wp_atI hk0 (by simp; omega) fun u hu => ?_
  have fin : ∀ l : List Int, l.length = cs.length → (∀ i ∈ l, -5 ≤ i ∧ i ≤ 5) → u = .lst (l.map .int) → Wp (Res.ok u s5) fun v s => Wp (tupM [v] s) (StepQ st k N) := by
    rintro l hl hp rfl
    simp
    exact ⟨l, rfl, ⟨by omega, hp⟩, hb5.mono (by omega), (((hst1.trans hst2).trans hst3).trans hst4).trans hst5⟩
  simp only [List.mem_cons, List.not_mem_nil, or_false] at hu
  rcases hu with e | e | e | e | e | e
  · exact fin _ (by simp) (fun i hi => by rw [List.eq_of_mem_replicate hi]; omega) e
  · exact fin _ e1 p1 e
  · exact fin _ e1 p1 e
  · exact fin _ e4 p4 e
  · exact fin _ e2 p2 e
  · exact fin _ e3 p3 e
end K35
end

section
set_option Elab.async false
set_option linter.all false
set_option maxRecDepth 100000
set_option maxHeartbeats 400000
namespace K35
open PySem PySem.Spec PyProof.Rows L2 L3
def psOf (is : List Int) : List (Int × Int) := is.mapIdx fun j i => ((j : Int), i)
theorem psOf_ok {n : Int} {is : List Int} (hl : (is.length : Int) = n) (hn : n ≤ 3) (h : ∀ i ∈ is, -2 ≤ i ∧ i ≤ 2) : SubsOk n (psOf is) := by
  have e : (psOf is).length = is.length := by simp [psOf]
  refine ⟨by omega, by omega, fun p hp => ?_, ?_, hn⟩
  · obtain ⟨j, hj, rfl⟩ := List.mem_mapIdx.mp hp
    have := h _ (List.getElem_mem hj)
    exact ⟨⟨by simp, by simp; omega⟩, this.1, this.2⟩
  · have : (psOf is).map (·.1) = (List.range is.length).map fun j : Nat => (j : Int) := by
      apply List.ext_getElem
      · simp [psOf]
      · intro i h1 h2
        simp [psOf]
    rw [this]
    exact List.pairwise_map.mpr (List.nodup_range.imp fun hab e => hab (by omega))
theorem psOf_val {is : List Int} : subsV (psOf is) = .tup (is.mapIdx fun j i => .tup [.int j, .int i]) := by
  unfold subsV psOf
  congr 1
  apply List.ext_getElem
  · simp
  · intro i h1 h2
    simp
def LfQ (st0 : Sto) (k : Nat) (n : Int) (names : List Str) (v : Val) (s : Sto) : Prop := ∃ l : Lf, v = l.val ∧ l.Ok n ∧ (∀ u sp nm ps, l = .use u sp nm ps → u ∈ names) ∧ Bud k s ∧ Stay st0 s
def MidQ (a : L3.Env) (st0 : Sto) (k : Nat) (n : Int) (names : List Str) (fl : Fl) (s : Sto) : Prop := ∃ (u : Str) (is : List Int), fl = .nx (a ++ [some (.str u), some (.tup (is.map .int)), none, none]) ∧ u ∈ names ∧ StepOk n is ∧ Bud k s ∧ Stay st0 s
theorem where_spec (w : World) {ns : List Int} (hs : ns.length ≤ 63) {n : Nat} (hn : n ≤ 3) {i : Nat} {mn : ME} {σ σ0 : L3.Env} {k : Nat} {st : Sto} (hst : Bud (n + k) st) {Q : List Val → Sto → Prop}
    (hm : mn σ st = .ok (.int n) st) (hv : ∀ v : Val, (σ0.set i (some v))[i]? = some (some v)) (h0 : ∀ v : Val, (σ0.set i (some v))[0]? = some (some (scr ns))) (h1 : ∀ v : Val, (σ0.set i (some v))[1]? = some (some (.loc 0)))
    (hQ : ∀ (is : List Int) (s : Sto), is.length = n → (∀ i ∈ is, -2 ≤ i ∧ i ≤ 2) → Bud k s → Stay st s → Q (is.mapIdx fun j i => .tup [.int j, .int i]) s) :
    Wp (iR1 (aCons mn aNil) σ st) fun a s => Wp (lcGo a.2 (gN i) mYes (mTup (aCons (mVar i) (aCons (mOp2 subV (mCall (F__law_drawn w) [] (aCons (mVar 0) (aCons (mVar 1) (aCons (mVal (.int 5)) aNil)))) (mVal (.int 2))) aNil))) σ0 a.1 [] s) Q := by
  refine wp_drawsF 1 k (fun i => -2 ≤ i ∧ i ≤ 2) (fun j i => .tup [.int j, .int i]) (n := n) hm (by omega) (hst.mono (by omega)) (fun v s => ⟨_, rfl, ?_⟩) hQ
  rintro j rfl hj k' s' hb'
  simp [hv, h0, h1, sizeLine]
  refine (drawn_spec w hs (b := 5) (by decide) (k := k') (hb'.mono (by omega))).mono ?_
  rintro _ s4 ⟨a, rfl, a0, a1, hb4, hst4⟩
  simp only [subV_int, Wp_ok]
  exact ⟨_, rfl, ⟨by omega, by omega⟩, hb4, hst4⟩
theorem use_mid (w : World) {ns : List Int} (hs : ns.length ≤ 63) {cs : List Int} (h1 : 1 ≤ cs.length) (h3 : cs.length ≤ 3) {names : List Str} {own : Str} (ho : own ∈ names) {wv : Val} {j : Nat} (hj : j < names.length) {J kd : Int} (hJ : J = j) (hk0 : 0 ≤ kd) (hk1 : kd < 9) {k : Nat} {st : Sto} (hst : Bud (21 + k) st) :
    WpS (mIfS (mAndT (mTest (mOp2 (cmpV fun i j => decide (i < j)) (mVar 7) (mVal (.int 3)))) (mTest (mOp2 (cmpV fun i j => decide (j < i)) (mVar 6) (mVal (.int 0))))) (mPar 8 9 (aCons (mOp2 getM (mVar 3) (mCall (F__law_drawn w) [] (aCons (mVar 0) (aCons (mVar 1) (aCons (mVar 6) aNil))))) (aCons (mCall (F__law_step w) [] (aCons (mVar 0) (aCons (mVar 1) (aCons (mVar 2) (aCons (mOp2 getM (mLst (aCons (mVal (.int 0)) (aCons (mVal (.int 1)) (aCons (mVal (.int 3)) aNil)))) (mVar 7)) aNil))))) aNil))) (mIfS (mTest (mOp2 (cmpV fun i j => decide (i < j)) (mVar 7) (mVal (.int 5)))) (mPar 8 9 (aCons (mVar 4) (aCons (mCall (F__law_step w) [] (aCons (mVar 0) (aCons (mVar 1) (aCons (mVar 2) (aCons (mVal (.int 1)) aNil))))) aNil))) (mPar 8 9 (aCons (mOp2 getM (mVar 3) (mCall (F__law_drawn w) [] (aCons (mVar 0) (aCons (mVar 1) (aCons (mOps lenM (aCons (mVar 3) aNil)) aNil))))) (aCons (mCall (F__law_step w) [] (aCons (mVar 0) (aCons (mVar 1) (aCons (mVar 2) (aCons (mOp2 subV (mVar 7) (mVal (.int 3))) aNil))))) aNil))))
      [some (scr ns), some (.loc 0), some (.tup (cs.map .int)), some (.lst (names.map .str)), some (.str own), some wv, some (.int J), some (.int kd), none, none, none, none] st)
      (MidQ [some (scr ns), some (.loc 0), some (.tup (cs.map .int)), some (.lst (names.map .str)), some (.str own), some wv, some (.int J), some (.int kd)] st k cs.length names) := by
  by_cases hA : kd < 3 ∧ 0 < J
  · simp [hA.1, hA.2, sizeLine]
    refine (drawn_spec w hs (b := J) hA.2 (k := 20 + k) (hst.mono (by omega))).mono ?_
    rintro _ s1 ⟨d, rfl, hd0, hd1, hb1, hst1⟩
    refine wp_atI hd0 (by simp; omega) fun u hu => ?_
    obtain ⟨x, hx, rfl⟩ := List.mem_map.mp hu
    simp
    refine wp_atI hk0 (by simp; omega) fun u hu => ?_
    have : ∃ kk : Int, u = .int kk ∧ 0 ≤ kk ∧ kk < 6 := by
      simp only [List.mem_cons, List.not_mem_nil, or_false] at hu
      rcases hu with e | e | e
      · exact ⟨0, e, by omega, by omega⟩
      · exact ⟨1, e, by omega, by omega⟩
      · exact ⟨3, e, by omega, by omega⟩
    obtain ⟨kk, rfl, hkk0, hkk1⟩ := this
    simp
    refine (step_spec w hs h1 h3 hkk0 hkk1 hb1).mono ?_
    rintro _ s2 ⟨is, rfl, hso, hb2, hst2⟩
    exact ⟨x, is, rfl, hx, hso, hb2, hst1.trans hst2⟩
  · by_cases hB : kd < 5
    · have hc : WpS (mPar 8 9 (aCons (mVar 4) (aCons (mCall (F__law_step w) [] (aCons (mVar 0) (aCons (mVar 1) (aCons (mVar 2) (aCons (mVal (.int 1)) aNil))))) aNil)) [some (scr ns), some (.loc 0), some (.tup (cs.map .int)), some (.lst (names.map .str)), some (.str own), some wv, some (.int J), some (.int kd), none, none, none, none] st)
          (MidQ [some (scr ns), some (.loc 0), some (.tup (cs.map .int)), some (.lst (names.map .str)), some (.str own), some wv, some (.int J), some (.int kd)] st k cs.length names) := by
        simp
        refine (step_spec w hs h1 h3 (by decide) (by decide) (hst.mono (by omega) : Bud (20 + k) st)).mono ?_
        rintro _ s2 ⟨is, rfl, hso, hb2, hst2⟩
        exact ⟨own, is, rfl, ho, hso, hb2, hst2⟩
      simp at hc
      by_cases hA1 : kd < 3
      · have hA2 : ¬ 0 < J := fun h => hA ⟨hA1, h⟩
        simp [hA1, hA2, hB]
        exact hc
      · simp [hA1, hB]
        exact hc
    · have hA1 : ¬ kd < 3 := by omega
      simp [hA1, hB]
      refine (drawn_spec w hs (b := (names.length : Int)) (by omega) (k := 20 + k) (hst.mono (by omega))).mono ?_
      rintro _ s1 ⟨d, rfl, hd0, hd1, hb1, hst1⟩
      refine wp_atI hd0 (by simp; omega) fun u hu => ?_
      obtain ⟨x, hx, rfl⟩ := List.mem_map.mp hu
      simp
      refine (step_spec w hs h1 h3 (by omega) (by omega) hb1).mono ?_
      rintro _ s2 ⟨is, rfl, hso, hb2, hst2⟩
      exact ⟨x, is, rfl, hx, hso, hb2, hst1.trans hst2⟩
theorem in_ok : signsOk SM "in" = true ∧ signsOk SM "other" = true := by decide +kernel
def UseQ (st0 : Sto) (k : Nat) (n : Int) (names : List Str) (v : Val) (s : Sto) : Prop := ∃ u sp nm ps, v = (Lf.use u sp nm ps).val ∧ (Lf.use u sp nm ps).Ok n ∧ u ∈ names ∧ Bud k s ∧ Stay st0 s
theorem use_specU (w : World) {ns : List Int} (hs : ns.length ≤ 63) {cs : List Int} (h1 : 1 ≤ cs.length) (h3 : cs.length ≤ 3) {names : List Str} {own : Str} (ho : own ∈ names) (hnm : ∀ x ∈ names, varOk x = true) {wild : Bool} {k : Nat} {st : Sto} (hst : Bud (30 + k) st) :
    Wp (F__law_use w [scr ns, .loc 0, .tup (cs.map .int), .lst (names.map .str), .str own, .bl wild] st) (UseQ st k cs.length names) := by
  unfold F__law_use
  refine wp_runB rfl ?_
  obtain ⟨j, hj, hix⟩ := indexM_str (st := st) ho
  generalize hJ : ((j : Nat) : Int) = J at hix
  simp [m__law_use, sizeLine, -mLc_s, -mIfS_s, hix]
  have hbd : ∃ B : Int, 0 < B ∧ B ≤ 9 ∧ atI [Val.int 5, Val.int 9] (if wild = true then 1 else 0) = some (.int B) := by
    cases wild
    · exact ⟨5, by omega, by omega, by simp⟩
    · exact ⟨9, by omega, by omega, by simp⟩
  obtain ⟨B, hB0, hB9, hBe⟩ := hbd
  simp [hBe, -mLc_s, -mIfS_s]
  refine (drawn_spec w hs (b := B) hB0 (k := 29 + k) (hst.mono (by omega))).mono ?_
  rintro _ s1 ⟨kd, rfl, hd0, hd1, hb1, hst1⟩
  refine (use_mid w hs h1 h3 ho hj hJ.symm hd0 (by omega) (k := 8 + k) (hb1.mono (by omega))).mono ?_
  rintro _ s2 ⟨u, is, rfl, hu, hso, hb2, hst2⟩
  simp
  refine where_spec w hs h3 (k := 5 + k) (hb2.mono (by omega)) (by simp) (fun v => rfl) (fun v => rfl) (fun v => rfl) fun ps s3 hl hp hb3 hst3 => ?_
  simp [sizeLine]
  refine (drawn_spec w hs (b := 2) (by decide) (k := 4 + k) (hb3.mono (by omega))).mono ?_
  rintro _ s4 ⟨d, rfl, hd0, hd1, hb4, hst4⟩
  refine wp_getL hd0 (by simp; omega) fun nm hnm' => ?_
  have hnm2 : ∃ x : Str, nm = .str x ∧ signsOk SM x = true := by
    simp only [List.mem_cons, List.not_mem_nil, or_false] at hnm'
    rcases hnm' with e | e
    · exact ⟨_, e, in_ok.1⟩
    · exact ⟨_, e, in_ok.2⟩
  obtain ⟨x, rfl, hx⟩ := hnm2
  refine ⟨u, is, x, psOf ps, ?_, ⟨hnm u hu, hso, hx, psOf_ok (by omega) (by omega) hp⟩, hu, hb4.mono (by omega), ((hst1.trans hst2).trans hst3).trans hst4⟩
  rw [Lf.val, psOf_val]
theorem use_spec (w : World) {ns : List Int} (hs : ns.length ≤ 63) {cs : List Int} (h1 : 1 ≤ cs.length) (h3 : cs.length ≤ 3) {names : List Str} {own : Str} (ho : own ∈ names) (hnm : ∀ x ∈ names, varOk x = true) {wild : Bool} {k : Nat} {st : Sto} (hst : Bud (30 + k) st) :
    Wp (F__law_use w [scr ns, .loc 0, .tup (cs.map .int), .lst (names.map .str), .str own, .bl wild] st) (LfQ st k cs.length names) := by
  refine (use_specU w hs h1 h3 ho hnm hst).mono ?_
  rintro _ s ⟨u, sp, nm, ps, rfl, h4, h5, h6, h7⟩
  exact ⟨.use u sp nm ps, rfl, h4, fun _ _ _ _ e => by cases e; exact h5, h6, h7⟩
end K35
end

section
set_option Elab.async false
set_option linter.all false
set_option maxRecDepth 100000
set_option maxHeartbeats 400000
namespace K35
open PySem PySem.Spec PyProof.Rows L2 L3
def bodyC : Nat → Nat
  | 0 => 50
  | d + 1 => 50 + 3 * bodyC d
def bodyZ : Nat → Nat
  | 0 => 1
  | d + 1 => 1 + 3 * bodyZ d
/-- a good expression -/
structure BdOk (n : Int) (names : List Str) (d : Nat) (b : Bd) : Prop where
  ok : b.Ok n
  deep : b.deep ≤ d
  size : b.size ≤ bodyZ d
  uses : ∀ u sp nm ps, Lf.use u sp nm ps ∈ b.leaves → u ∈ names
def BdV (n : Int) (names : List Str) (d : Nat) (v : Val) : Prop := ∃ b : Bd, v = b.val ∧ BdOk n names d b
def BdQ (st0 : Sto) (k : Nat) (n : Int) (names : List Str) (d : Nat) (v : Val) (s : Sto) : Prop := BdV n names d v ∧ Bud k s ∧ Stay st0 s
theorem bodyC_succ (d : Nat) : bodyC (d + 1) = 50 + 3 * bodyC d := rfl
theorem bodyC_pos : ∀ d, 50 ≤ bodyC d
  | 0 => Nat.le_refl _
  | d + 1 => by unfold bodyC; omega
theorem bodyZ_pos : ∀ d, 1 ≤ bodyZ d
  | 0 => Nat.le_refl _
  | d + 1 => by unfold bodyZ; omega
theorem BdOk.leaf {n : Int} {names : List Str} {d : Nat} {l : Lf} (h : l.Ok n) (hu : ∀ u sp nm ps, l = .use u sp nm ps → u ∈ names) : BdOk n names d (.lf l) :=
  ⟨h, Nat.zero_le _, bodyZ_pos d, fun u sp nm ps h => hu u sp nm ps (by rw [Bd.leaves, List.mem_singleton] at h; exact h.symm)⟩
theorem BdOk.two {n : Int} {names : List Str} {d : Nat} {a b : Bd} {o : Str} (ho : o ∈ opsL) (ha : BdOk n names d a) (hb : BdOk n names d b) : BdOk n names (d + 1) (.two o a b) :=
  ⟨⟨ho, ha.ok, hb.ok⟩, by have := ha.deep; have := hb.deep; show 1 + max a.deep b.deep ≤ d + 1; omega, by have := ha.size; have := hb.size; have := bodyZ_pos d; show 1 + (a.size + b.size) ≤ 1 + 3 * bodyZ d; omega,
    fun u sp nm ps h => (List.mem_append.mp h).elim (ha.uses u sp nm ps) (hb.uses u sp nm ps)⟩
theorem BdOk.pick {n : Int} {names : List Str} {d : Nat} {a b c : Bd} (ha : BdOk n names d a) (hb : BdOk n names d b) (hc : BdOk n names d c) : BdOk n names (d + 1) (.pick a b c) :=
  ⟨⟨ha.ok, hb.ok, hc.ok⟩, by have := ha.deep; have := hb.deep; have := hc.deep; show 1 + max a.deep (max b.deep c.deep) ≤ d + 1; omega, by have := ha.size; have := hb.size; have := hc.size; show 1 + (a.size + (b.size + c.size)) ≤ 1 + 3 * bodyZ d; omega,
    fun u sp nm ps h => (List.mem_append.mp h).elim (ha.uses u sp nm ps) fun h => (List.mem_append.mp h).elim (hb.uses u sp nm ps) (hc.uses u sp nm ps)⟩
theorem ops_mem {u : Val} (h : u ∈ [Val.str (Str.ofString "add"), .str (Str.ofString "sub"), .str (Str.ofString "mul"), .str (Str.ofString "min"), .str (Str.ofString "max")]) : ∃ o, u = .str o ∧ o ∈ opsL := by
  simp only [List.mem_cons, List.not_mem_nil, or_false] at h
  rcases h with e | e | e | e | e <;> exact ⟨_, e, by simp [opsL]⟩
theorem len2 {l : List Val} (h : l.length = 2) : ∃ a b, l = [a, b] := by
  match l, h with
  | [a, b], _ => exact ⟨a, b, rfl⟩
theorem len3 {l : List Val} (h : l.length = 3) : ∃ a b c, l = [a, b, c] := by
  match l, h with
  | [a, b, c], _ => exact ⟨a, b, c, rfl⟩
def KdQ (st0 : Sto) (k d : Nat) (v : Val) (s : Sto) : Prop := ∃ kd : Int, v = .int kd ∧ 0 ≤ kd ∧ kd < 9 ∧ (d = 0 → 3 ≤ kd) ∧ Bud k s ∧ Stay st0 s
theorem body_step (w : World) {ns : List Int} (hs : ns.length ≤ 63) {cs : List Int} (h1 : 1 ≤ cs.length) (h3 : cs.length ≤ 3) {names : List Str} {own : Str} (ho : own ∈ names) (hnm : ∀ x ∈ names, varOk x = true) {wild : Bool}
    {d : Nat} {rec : List Val → Sto → Res Val} (hrec : ∀ d', d = d' + 1 → ∀ (D : Int), D = d' → ∀ (k : Nat) (st : Sto), Bud (bodyC d' + k) st → Wp (rec [scr ns, .loc 0, .tup (cs.map .int), .lst (names.map .str), .str own, .int D, .bl wild] st) (BdQ st k cs.length names d'))
    {D : Int} (hD : D = d) {k : Nat} {st : Sto} (hst : Bud (bodyC d + k) st) : Wp (runB (m__law_body w rec) 13 7 [scr ns, .loc 0, .tup (cs.map .int), .lst (names.map .str), .str own, .int D, .bl wild] st) (BdQ st k cs.length names d) := by
  have hC := bodyC_pos d
  refine wp_runB rfl ?_
  simp [m__law_body, sizeLine, -mLc_s, -mIf_s, -mIfS_s]
  have kind : Wp (mIf (mTest (mOp2 (cmpV fun i j => decide (j < i)) (mVar 5) (mVal (.int 0)))) (mCall (F__law_drawn w) [] (aCons (mVar 0) (aCons (mVar 1) (aCons (mVal (.int 9)) aNil)))) (mOp2 addV (mVal (.int 3)) (mCall (F__law_drawn w) [] (aCons (mVar 0) (aCons (mVar 1) (aCons (mVal (.int 6)) aNil)))))
      [some (scr ns), some (.loc 0), some (.tup (cs.map .int)), some (.lst (names.map .str)), some (.str own), some (.int D), some (.bl wild), none, none, none, none, none, none] st) (KdQ st (bodyC d - 1 + k) d) := by
    by_cases h : 0 < D
    · simp [h]
      refine (drawn_spec w hs (b := 9) (by decide) (k := bodyC d - 1 + k) (hst.mono (by omega))).mono ?_
      rintro _ s1 ⟨i, rfl, hi0, hi1, hb1, hst1⟩
      exact ⟨i, rfl, hi0, hi1, fun e => by omega, hb1, hst1⟩
    · simp [h]
      refine (drawn_spec w hs (b := 6) (by decide) (k := bodyC d - 1 + k) (hst.mono (by omega))).mono ?_
      rintro _ s1 ⟨i, rfl, hi0, hi1, hb1, hst1⟩
      simp only [addV_int, Wp_ok]
      exact ⟨3 + i, rfl, by omega, by omega, fun e => by omega, hb1, hst1⟩
  refine kind.mono ?_
  rintro _ s1 ⟨kd, rfl, hk0, hk9, hkd, hb1, hst1⟩
  by_cases c1 : kd < 2
  · obtain ⟨d', rfl⟩ : ∃ d', d = d' + 1 := ⟨d - 1, by have := hkd; omega⟩
    simp [c1, sizeLine]
    refine (drawn_spec w hs (b := 5) (by decide) (k := bodyC (d' + 1) - 2 + k) (hb1.mono (by omega))).mono ?_
    rintro _ s2 ⟨o, rfl, ho0, ho1, hb2, hst2⟩
    refine wp_atI ho0 (by simp; omega) fun u hu => ?_
    obtain ⟨op, rfl, hop⟩ := ops_mem hu
    simp [sizeLine]
    refine wp_made (bodyC d') k (BdV cs.length names d') (n := 2) rfl (by decide) (hb2.mono (by have := bodyC_succ d'; omega)) (fun v s => ⟨_, rfl, ?_⟩) fun l s3 hl hP hb3 hst3 => ?_
    · rintro j rfl hj k' s' hb'
      simp [wipeE]
      exact (hrec d' rfl (D - 1) (by omega) k' s' hb').mono fun u s hq => hq
    · obtain ⟨a, b, rfl⟩ := len2 hl
      obtain ⟨a, rfl, ha⟩ := hP a (by simp)
      obtain ⟨b, rfl, hb⟩ := hP b (by simp)
      simp [addV_tup, sizeLine]
      exact ⟨⟨.two op a b, rfl, ha.two hop hb⟩, hb3, (hst1.trans hst2).trans hst3⟩
  · by_cases c2 : kd = 2
    · subst c2
      obtain ⟨d', rfl⟩ : ∃ d', d = d' + 1 := ⟨d - 1, by have := hkd; omega⟩
      simp [sizeLine]
      refine wp_made (bodyC d') k (BdV cs.length names d') (n := 3) rfl (by decide) (hb1.mono (by have := bodyC_succ d'; omega)) (fun v s => ⟨_, rfl, ?_⟩) fun l s3 hl hP hb3 hst3 => ?_
      · rintro j rfl hj k' s' hb'
        simp [wipeE]
        exact (hrec d' rfl (D - 1) (by omega) k' s' hb').mono fun u s hq => hq
      · obtain ⟨a, b, c, rfl⟩ := len3 hl
        obtain ⟨a, rfl, ha⟩ := hP a (by simp)
        obtain ⟨b, rfl, hb⟩ := hP b (by simp)
        obtain ⟨c, rfl, hc⟩ := hP c (by simp)
        simp [addV_tup, sizeLine]
        exact ⟨⟨.pick a b c, rfl, ha.pick hb hc⟩, hb3, hst1.trans hst3⟩
    · by_cases c3 : 4 < kd
      · simp [c1, c2, c3]
        refine (use_spec w hs h1 h3 ho hnm (k := k) (hb1.mono (by omega))).mono ?_
        rintro _ s2 ⟨l, rfl, hl, hu, hb2, hst2⟩
        exact ⟨⟨.lf l, rfl, .leaf hl hu⟩, hb2, hst1.trans hst2⟩
      · simp [c1, c2, c3]
        refine where_spec w hs h3 (k := 40 + k) (hb1.mono (by omega)) (by simp) (fun v => rfl) (fun v => rfl) (fun v => rfl) fun ps s3 hl hp hb3 hst3 => ?_
        simp [sizeLine]
        refine (drawn_spec w hs (b := 1000) (by decide) (k := 39 + k) (hb3.mono (by omega))).mono ?_
        rintro _ s4 ⟨a, rfl, ha0, ha1, hb4, hst4⟩
        have e65 : Wp (mulV (.int a) (.int 65) s4) fun v s => v = .int (a * 65) ∧ s = s4 := by
          have := log2_lt (n := a.natAbs) (k := 30) (by decide) (by omega)
          have h2 : (65 : Nat).log2 = 6 := by decide +kernel
          rw [mulV_int, if_pos (by show _ + (65 : Nat).log2 < _; omega)]
          simp
        refine e65.mono ?_
        rintro _ _ ⟨rfl, rfl⟩
        refine (drawn_spec w hs (b := (cs.length : Int)) (by omega) (k := 38 + k) (hb4.mono (by omega))).mono ?_
        rintro _ s5 ⟨b, rfl, hb0, hb1', hb5, hst5⟩
        simp [addV_lst, sizeLine]
        refine (drawn_spec w hs (b := 3) (by decide) (k := 37 + k) (hb5.mono (by omega))).mono ?_
        rintro _ s6 ⟨c, rfl, hc0, hc1, hb6, hst6⟩
        have sts : Stay st s6 := (((hst1.trans hst3).trans hst4).trans hst5).trans hst6
        refine wp_atI (by omega) (by simp; omega) fun u hu => ?_
        obtain ⟨z, rfl, hz0, hz1⟩ : ∃ z : Int, u = .int z ∧ 0 ≤ z ∧ z < 3 := by
          simp only [List.mem_cons, List.not_mem_nil, or_false] at hu
          rcases hu with e | e
          · exact ⟨0, e, by omega, by omega⟩
          · exact ⟨c, e, hc0, hc1⟩
        rw [Wp_ok]
        refine wp_getL hz0 (by simp; omega) fun u hu => ?_
        simp only [List.mem_cons, List.not_mem_nil, or_false] at hu
        rcases hu with e | e | e
        · exact ⟨⟨.lf (.given "in" (psOf ps)), by rw [e, Bd.val, Lf.val, psOf_val], .leaf ⟨in_ok.1, psOf_ok (by omega) (by omega) hp⟩ fun _ _ _ _ h => nomatch h⟩, hb6.mono (by omega), sts⟩
        · exact ⟨⟨.lf (.num (a * 65)), by rw [e, Bd.val, Lf.val], .leaf ⟨by omega, by omega⟩ fun _ _ _ _ h => nomatch h⟩, hb6.mono (by omega), sts⟩
        · exact ⟨⟨.lf (.loop b), by rw [e, Bd.val, Lf.val], .leaf ⟨by omega, by omega⟩ fun _ _ _ _ h => nomatch h⟩, hb6.mono (by omega), sts⟩
theorem body_spec (w : World) {ns : List Int} (hs : ns.length ≤ 63) {cs : List Int} (h1 : 1 ≤ cs.length) (h3 : cs.length ≤ 3) {names : List Str} {own : Str} (ho : own ∈ names) (hnm : ∀ x ∈ names, varOk x = true) {wild : Bool} :
    ∀ (d n : Nat) (D : Int), D = d → ∀ (k : Nat) (st : Sto), Bud (bodyC d + k) st → Wp (F__law_body w (n + d + 1) [scr ns, .loc 0, .tup (cs.map .int), .lst (names.map .str), .str own, .int D, .bl wild] st) (BdQ st k cs.length names d) := by
  intro d
  induction d with
  | zero =>
    intro n D hD k st hst
    exact body_step w hs h1 h3 ho hnm (rec := F__law_body w (n + 0)) (fun d' e => by omega) hD hst
  | succ d ih =>
    intro n D hD k st hst
    exact body_step w hs h1 h3 ho hnm (rec := F__law_body w (n + (d + 1))) (fun d' e => by
      cases e
      exact ih n) hD hst
end K35
end

section
set_option Elab.async false
set_option linter.all false
set_option maxRecDepth 100000
set_option maxHeartbeats 400000
namespace K35
open PySem PySem.Spec PyProof.Rows L2 L3
structure Rc where
  counts : List Int
  vars : List (Str × Bd)
def vaV (p : Str × Bd) : Val := .tup [.str p.1, p.2.val]
def Rc.val (r : Rc) : Val := .tup [.tup (r.counts.map .int), .tup (r.vars.map vaV)]
def Rc.names (r : Rc) : List Str := r.vars.map (·.1)
structure VaOk (n : Int) (names : List Str) (p : Str × Bd) : Prop where
  ok : p.2.Ok n
  deep : p.2.deep ≤ 8
  size : p.2.size ≤ 15
  uses : ∀ u sp nm ps, Lf.use u sp nm ps ∈ p.2.leaves → u ∈ names
structure RcOk (r : Rc) : Prop where
  c1 : 1 ≤ r.counts.length
  c3 : r.counts.length ≤ 3
  c : ∀ i ∈ r.counts, 1 ≤ i ∧ i ≤ 6
  v1 : 1 ≤ r.vars.length
  v40 : r.vars.length ≤ 40
  nd : r.names.Nodup
  nm : ∀ x ∈ r.names, varOk x = true
  va : ∀ p ∈ r.vars, VaOk r.counts.length r.names p
/-- no expression of more than thirteen parts -/
def Rc.Sm (r : Rc) : Prop := ∀ p ∈ r.vars, p.2.size ≤ 13 ∧ p.2.deep ≤ 2
def RcQ (st0 : Sto) (k : Nat) (v : Val) (s : Sto) : Prop := ∃ r : Rc, v = r.val ∧ RcOk r ∧ r.Sm ∧ Bud k s ∧ Stay st0 s
def madeEnv (ns : List Int) (most : Int) (wild : Bool) (cs : List Int) (F : List Str) (a : Nat) (σ8 : Option Val) : L3.Env := [some (scr ns), some (.loc 0), some (.int most), some (.bl wild), some (.tup (cs.map .int)), none, some (.lst (F.map .str)), some (.loc a), σ8]
structure MadeI (st0 : Sto) (b : Nat) (a : Nat) (cs : List Int) (F : List Str) (p : List Val) (vs : List (Str × Bd)) (s : Sto) : Prop where
  at_ : s[a]? = some (.lst (vs.map vaV))
  nm : p = vs.map fun p => Val.str p.1
  ok : ∀ p ∈ vs, VaOk cs.length F p
  sm : ∀ p ∈ vs, p.2.size ≤ 13 ∧ p.2.deep ≤ 2
  bud : Bud b s
  st : Stay st0 s
theorem body16 (w : World) {ns : List Int} (hs : ns.length ≤ 63) {cs : List Int} (h1 : 1 ≤ cs.length) (h3 : cs.length ≤ 3) {names : List Str} {own : Str} (ho : own ∈ names) (hnm : ∀ x ∈ names, varOk x = true) {wild : Bool} {D : Int} (h0 : 0 ≤ D) (h2 : D ≤ 2) {k : Nat} {st : Sto} (hst : Bud (650 + k) st) :
    Wp (F__law_body w 16 [scr ns, .loc 0, .tup (cs.map .int), .lst (names.map .str), .str own, .int D, .bl wild] st) fun v s => ∃ b : Bd, v = b.val ∧ VaOk cs.length names (own, b) ∧ (b.size ≤ 13 ∧ b.deep ≤ 2) ∧ Bud k s ∧ Stay st s := by
  have fin : ∀ d : Nat, d ≤ 2 → ∀ v s, BdQ st k cs.length names d v s → ∃ b : Bd, v = b.val ∧ VaOk cs.length names (own, b) ∧ (b.size ≤ 13 ∧ b.deep ≤ 2) ∧ Bud k s ∧ Stay st s := by
    rintro d hd v s ⟨⟨b, rfl, hb⟩, h4, h5⟩
    have hz : b.size ≤ 13 := by
      refine Nat.le_trans hb.size ?_
      have : d = 0 ∨ d = 1 ∨ d = 2 := by omega
      rcases this with rfl | rfl | rfl <;> decide
    have hd2 := hb.deep
    exact ⟨b, rfl, ⟨hb.ok, by show b.deep ≤ 8; omega, by show b.size ≤ 15; omega, hb.uses⟩, ⟨hz, by omega⟩, h4, h5⟩
  have : D = 0 ∨ D = 1 ∨ D = 2 := by omega
  rcases this with rfl | rfl | rfl
  · exact (body_spec w hs h1 h3 ho hnm 0 15 0 rfl k st (hst.mono (by show 50 + k ≤ _; omega))).mono (fin 0 (by omega))
  · exact (body_spec w hs h1 h3 ho hnm 1 14 1 rfl k st (hst.mono (by show 200 + k ≤ _; omega))).mono (fin 1 (by omega))
  · exact (body_spec w hs h1 h3 ho hnm 2 13 2 rfl k st (hst.mono (by show 650 + k ≤ _; omega))).mono (fin 2 (by omega))
theorem made_spec (w : World) {ns : List Int} (hs : ns.length ≤ 63) {most : Int} (hm0 : 0 < most) (hm1 : most ≤ 8) {wild : Bool} {k : Nat} {st : Sto} (hst : Bud (8000 + k) st) :
    Wp (F__law_made w [scr ns, .loc 0, .int most, .bl wild] st) (RcQ st k) := by
  unfold F__law_made
  refine wp_runB rfl ?_
  simp [m__law_made, sizeLine]
  refine wp_iR1 ?_
  simp
  refine (drawn_spec w hs (b := 3) (by decide) (k := 7999 + k) (hst.mono (by omega))).mono ?_
  rintro _ s1 ⟨c, rfl, hc0, hc1, hb1, hst1⟩
  simp
  refine ⟨(1 + c).toNat, by omega, by omega, ?_⟩
  refine lc_draws 1 (7996 + k) (fun i => 1 ≤ i ∧ i ≤ 6) (by omega) (hb1.mono (by omega)) (fun v s => ⟨_, rfl, ?_⟩) fun cs s2 hcl hcs hb2 hst2 => ?_
  · rintro j rfl hj0 hj1 k' s' hb'
    simp [wipeE]
    refine (drawn_spec w hs (b := 6) (by decide) (k := k') (hb'.mono (by omega))).mono ?_
    rintro _ s4 ⟨a, rfl, a0, a1, hb4, hst4⟩
    simp only [addV_int, Wp_ok]
    exact ⟨_, rfl, ⟨by omega, by omega⟩, hb4, hst4⟩
  refine (drawn_spec w hs (b := most) hm0 (k := 7995 + k) (hb2.mono (by omega))).mono ?_
  rintro _ s3 ⟨m, rfl, hm0, hm1, hb3, hst3⟩
  simp
  refine (called_spec w hs (N := (1 + m).toNat) (by omega) (by omega) (k := 7940 + k) (hb3.mono (by omega))).mono ?_
  rintro _ s4 ⟨F, rfl, hFl, hFn, hFo, hb4, hst4⟩
  simp [sizeLine]
  have hF8 : F.length ≤ 8 := by omega
  have h1' : 1 ≤ cs.length := by omega
  have h3' : cs.length ≤ 3 := by omega
  refine wp_for (fun p σ s => ∃ σ8 vs, σ = madeEnv ns most wild cs F s4.length σ8 ∧ MadeI st (700 * (F.length - p.length) + k) s4.length cs F p vs s) ?_ (fun _ _ _ _ => trivial) ?_ ?_
  · exact ⟨none, [], rfl, by simp, rfl, (fun _ h => nomatch h), (fun _ h => nomatch h), (hb4.mono (by simp; omega)).push, ((((hst1.trans hst2).trans hst3).trans hst4).push)⟩
  · rintro p v q _ s hL ⟨σ8, vs, rfl, hI⟩
    have hv : ∃ own, v = .str own ∧ own ∈ F := by
      have : v ∈ F.map Val.str := by rw [hL]; simp
      obtain ⟨x, hx, rfl⟩ := List.mem_map.mp this
      exact ⟨x, rfl, hx⟩
    obtain ⟨own, rfl, ho⟩ := hv
    have hpl : p.length < F.length := by
      have : (F.map Val.str).length = p.length + (q.length + 1) := by rw [hL]; simp
      rw [List.length_map] at this
      omega
    simp [madeEnv, sizeLine, tyM_loc hI.at_]
    refine (drawn_spec w hs (b := 3) (by decide) (k := 650 + (700 * (F.length - (p.length + 1)) + k)) (hI.bud.mono (by omega))).mono ?_
    rintro _ s5 ⟨d, rfl, hd0, hd1, hb5, hst5⟩
    refine wp_atI hd0 (by simp; omega) fun u hu => ?_
    obtain ⟨D, rfl, hD0, hD1⟩ : ∃ D : Int, u = .int D ∧ 0 ≤ D ∧ D ≤ 2 := by
      simp only [List.mem_cons, List.not_mem_nil, or_false] at hu
      rcases hu with e | e | e
      · exact ⟨1, e, by omega, by omega⟩
      · exact ⟨2, e, by omega, by omega⟩
      · exact ⟨0, e, by omega, by omega⟩
    rw [Wp_ok]
    refine (body16 w hs h1' h3' ho hFo hD0 hD1 hb5).mono ?_
    rintro _ s6 ⟨b, rfl, hb, hsm, hb6, hst6⟩
    have hat := (hst5.trans hst6).at (by have := hb4.pos; omega) hI.at_
    have hvl : vs.length = p.length := by rw [hI.nm]; simp
    have hap := appendM_loc (v := .tup [.str own, b.val]) hat (Nat.lt_of_le_of_lt (show (vs.map vaV).length ≤ 40 by rw [List.length_map]; omega) (Nat.lt_of_lt_of_le (by omega : 40 < 100000) line_big))
    simp [hap]
    refine ⟨vs ++ [(own, b)], ?_, ?_, ?_, ?_, (hb6.mono (by omega)).setN (by have := hb4.pos; omega), ((hI.st.trans hst5).trans hst6).setN (by have := ((hst1.trans hst2).trans hst3).trans hst4; exact this.len)⟩
    · rw [set_at hat]
      simp [vaV]
    · rw [List.map_append, hI.nm]; rfl
    · intro x hx
      rcases List.mem_append.mp hx with hx | hx
      · exact hI.ok x hx
      · rw [List.mem_singleton] at hx; subst hx; exact hb
    · intro x hx
      rcases List.mem_append.mp hx with hx | hx
      · exact hI.sm x hx
      · rw [List.mem_singleton] at hx; subst hx; exact hsm
  · rintro _ s ⟨σ8, vs, rfl, hI⟩
    simp [madeEnv, sizeLine, tupM_loc hI.at_]
    have hnm : vs.map (·.1) = F := by
      have e := hI.nm
      have : F.map Val.str = (vs.map (·.1)).map Val.str := by rw [e, List.map_map]; rfl
      exact (List.map_inj_right (fun a b h => by cases h; rfl)).mp this.symm
    have hvl : vs.length = F.length := by rw [← hnm]; simp
    refine ⟨⟨cs, vs⟩, rfl, ⟨h1', h3', hcs, by show 1 ≤ vs.length; omega, by show vs.length ≤ 40; omega, by rw [Rc.names, hnm]; exact hFn, by rw [Rc.names, hnm]; exact hFo, fun p hp => ?_⟩, hI.sm, hI.bud.mono (by omega), hI.st⟩
    rw [Rc.names, hnm]
    exact hI.ok p hp
end K35
end

section
set_option Elab.async false
set_option linter.all false
set_option maxRecDepth 100000
set_option maxHeartbeats 400000
namespace K35
open PySem PySem.Spec PyProof.Rows L2 L3
def wsize (W : List Bd) : Nat := (W.map Bd.size).sum
def wleaves (W : List Bd) : List Lf := (W.reverse.map Bd.leaves).flatten
theorem Bd.size_pos : ∀ b : Bd, 1 ≤ b.size
  | .lf _ => Nat.le_refl _
  | .two _ a b => by unfold Bd.size; omega
  | .pick a b c => by unfold Bd.size; omega
theorem wsize_len : ∀ W : List Bd, W.length ≤ wsize W
  | [] => Nat.zero_le _
  | b :: W => by
    have := wsize_len W
    have := b.size_pos
    simp [wsize] at *
    omega
theorem wsize_app {W : List Bd} {b : Bd} : wsize (W ++ [b]) = wsize W + b.size := by simp [wsize]
theorem wleaves_app {W : List Bd} {b : Bd} : wleaves (W ++ [b]) = b.leaves ++ wleaves W := by simp [wleaves]
/-- how a good expression looks -/
theorem bd_look {n : Int} {b : Bd} (h : b.Ok n) (hd : b.deep ≤ 40) : ∃ wd ps, b.val = .tup (.str wd :: ps) ∧ Dats 60 (.str wd :: ps) ∧ ps.length ≤ 4 := by
  cases b with
  | lf l =>
    have hl : l.Ok n := h
    have hdt := dat_lf hl
    cases l with
    | num i => exact ⟨_, _, rfl, dats_cons (dat_str (by decide +kernel)) (dats_cons .int dats_nil), by simp⟩
    | loop i => exact ⟨_, _, rfl, dats_cons (dat_str (by decide +kernel)) (dats_cons .int dats_nil), by simp⟩
    | given nm ps => exact ⟨_, _, rfl, dats_cons (dat_str (by decide +kernel)) (dats_cons (dat_str (signs_ok SM_ok hl.1)) (dats_cons (dat_subs.mono (by omega)) dats_nil)), by simp⟩
    | use v s nm ps => exact ⟨_, _, rfl, dats_cons (dat_str (by decide +kernel)) (dats_cons (dat_str (varOk_str hl.1)) (dats_cons (((Dat.tup (k := 1) dat_ints)).mono (by omega)) (dats_cons (dat_str (signs_ok SM_ok hl.2.2.1)) (dats_cons (dat_subs.mono (by omega)) dats_nil)))), by simp⟩
  | two o x y =>
    obtain ⟨h1, h2, h3⟩ := h
    have e : max x.deep y.deep + 1 ≤ 40 := by have : 1 + max x.deep y.deep ≤ 40 := hd; omega
    exact ⟨_, _, rfl, dats_cons (dat_str (ops_ok h1)) (dats_cons ((dat_bd h2).mono (by omega)) (dats_cons ((dat_bd h3).mono (by omega)) dats_nil)), by simp⟩
  | pick x y z =>
    obtain ⟨h1, h2, h3⟩ := h
    have e : max x.deep (max y.deep z.deep) + 1 ≤ 40 := by have : 1 + max x.deep (max y.deep z.deep) ≤ 40 := hd; omega
    exact ⟨_, _, rfl, dats_cons (dat_str (by decide +kernel)) (dats_cons ((dat_bd h1).mono (by omega)) (dats_cons ((dat_bd h2).mono (by omega)) (dats_cons ((dat_bd h3).mono (by omega)) dats_nil))), by simp⟩
def lvEnv (v : Val) (a : Nat) (many : Int) (σ4 σ5 σ6 : Option Val) : L3.Env := [some v, some (.loc a), some (.loc (a + 1)), some (.int many), σ4, σ5, σ6]
def lvSt (st : Sto) (F : List Lf) (W : List Bd) : Sto := st ++ [.lst (F.map Lf.val), .lst (W.map Bd.val)]
theorem lvSt_0 {st : Sto} {F : List Lf} {W : List Bd} : (lvSt st F W)[st.length]? = some (.lst (F.map Lf.val)) := by simp [lvSt]
theorem lvSt_1 {st : Sto} {F : List Lf} {W : List Bd} : (lvSt st F W)[st.length + 1]? = some (.lst (W.map Bd.val)) := by simp [lvSt]
def lvC : MT := mTest (mOp2 neM (mVar 2) (mLst aNil))
noncomputable def lvB : MSt := (mSeq (mAsg (mMet "list" popM (mVar 2) aNil) (gN 4))
  (mSeq (mAug 3 ipAddM (mVal (.int 1)))
  (mSeq (mIfS (mOrT (mTest (mOp2 (cmpV fun i j => decide (j < i)) (mVar 3) (mVal (.int 15)))) (mOrT (mNotT (mTest (mOps isiM (aCons (mVar 4) (aCons (mVal (.ty "tuple")) aNil))))) (mOrT (mTest (mOp2 eqM (mVar 4) (mTup aNil))) (mNotT (mTest (mOps isiM (aCons (mOp2 getM (mVar 4) (mVal (.int 0))) (aCons (mVal (.ty "str")) aNil)))))))) (mRet (mVal .non)) mNext)
  (mSeq (mAsg (mVar 4) (gTS 2 1 (gsCons (gN 5) (gsCons (gN 6) gsNil))))
  (mIfS (mOrT (mAndT (mTest (mOp2 eqM (mOps lenM (aCons (mVar 6) aNil)) (mVal (.int 2)))) (mTest (mOp2 inM (mVar 5) (mVal c_OPS)))) (mAndT (mTest (mOp2 eqM (mOps lenM (aCons (mVar 6) aNil)) (mVal (.int 3)))) (mTest (mOp2 eqM (mVar 5) (mVal (.str "pick")))))) (mExpr (mMet "list" extendM (mVar 2) (aCons (mOp1 revM (mVar 6)) aNil))) (mExpr (mMet "list" appendM (mVar 1) (aCons (mVar 4) aNil))))))))
theorem inOps (st : Sto) : (∀ o ∈ opsL, inM (.str o) c_OPS st = .ok (.bl true) st) ∧ inM (.str "given") c_OPS st = .ok (.bl false) st := by
  refine ⟨fun o ho => ?_, rfl⟩
  simp only [opsL, List.mem_cons, List.not_mem_nil, or_false] at ho
  rcases ho with rfl | rfl | rfl | rfl | rfl <;> rfl
theorem lv_while (w : World) {n : Int} {v : Val} {st : Sto} {Q : Fl → Sto → Prop} (all : List Lf) (hal : all.length ≤ 100) (hQ : ∀ (many : Int) (σ4 σ5 σ6 : Option Val), Q (.nx (lvEnv v st.length many σ4 σ5 σ6)) (lvSt st all [])) :
    ∀ (fuel : Nat) (W : List Bd) (F : List Lf) (many : Int) (σ4 σ5 σ6 : Option Val), wsize W < fuel → 0 ≤ many → many + wsize W ≤ 15 → (∀ b ∈ W, b.Ok n ∧ b.deep ≤ 40) → F ++ wleaves W = all → WpS (whileN lvC lvB fuel (lvEnv v st.length many σ4 σ5 σ6) (lvSt st F W)) Q := by
  intro fuel
  induction fuel with
  | zero => intro W F many σ4 σ5 σ6 h; omega
  | succ fuel ih =>
    intro W F many σ4 σ5 σ6 h1 h0 h2 h3 h4
    unfold whileN
    have hdW : Dats 60 (W.map Bd.val) := fun u hu => by
      obtain ⟨b, hb, rfl⟩ := List.mem_map.mp hu
      exact (dat_bd (h3 b hb).1).mono (by have := (h3 b hb).2; omega)
    have hne := neM_loc_nil (lvSt_1 (st := st) (F := F) (W := W)) hdW
    have ec : lvC (lvEnv v st.length many σ4 σ5 σ6) (lvSt st F W) = .ok (!(W.map Bd.val).isEmpty) (lvSt st F W) := by
      simp [lvC, lvEnv, hne]
    rw [ec]
    simp only [Res.go_ok]
    rcases List.eq_nil_or_concat W with rfl | ⟨W', b, rfl⟩
    · simp
      have e : F = all := by rw [← h4]; simp [wleaves]
      rw [e]
      exact hQ many σ4 σ5 σ6
    · rw [List.concat_eq_append] at *
      have hs := wsize_app (W := W') (b := b)
      have hp := b.size_pos
      have hb := h3 b (by simp)
      have hWl : (W' ++ [b]).length ≤ 100 := by
        have := wsize_len (W' ++ [b])
        omega
      rw [if_pos (by simp), WpS_loopNext]
      have hpop : popM (.loc (st.length + 1)) [] (lvSt st F (W' ++ [b])) = .ok b.val (lvSt st F W') := by
        rw [popM_loc (v := b.val) lvSt_1 (by simp)]
        simp [lvSt]
      obtain ⟨wd, ps, ebv, hdv, hpl⟩ := bd_look hb.1 hb.2
      have hnil : eqM b.val (.tup []) (lvSt st F W') = .ok (.bl false) (lvSt st F W') := by
        unfold eqM
        rw [ebv, eqW_tup_nil hdv]
        simp
      have hm : ¬ (15 < many + 1) := by omega
      generalize hK : lnxt (fun σ2 st2 => whileN lvC lvB fuel σ2 st2) Q = K2
      have cont : ∀ (W2 : List Bd) (F2 : List Lf) (σ4 σ5 σ6 : Option Val), wsize W2 + 1 ≤ wsize (W' ++ [b]) → (∀ b ∈ W2, b.Ok n ∧ b.deep ≤ 40) → F2 ++ wleaves W2 = all → K2 (.nx (lvEnv v st.length (many + 1) σ4 σ5 σ6)) (lvSt st F2 W2) := by
        intro W2 F2 σ4 σ5 σ6 c1 c2 c3
        rw [← hK]
        exact ih W2 F2 (many + 1) σ4 σ5 σ6 (by omega) (by omega) (by omega) c2 c3
      have hFl : F.length ≤ all.length := by rw [← h4]; simp
      have leafCase : ∀ (l : Lf) (σ5 σ6 : Option Val), b = .lf l → Wp (appendM (.loc st.length) [l.val] (lvSt st F W')) fun a s => K2 (.nx (lvEnv v st.length (many + 1) (some l.val) σ5 σ6)) s := by
        intro l σ5 σ6 e
        subst e
        rw [appendM_loc (l := F.map Lf.val) lvSt_0 (by rw [List.length_map]; exact Nat.lt_of_le_of_lt (Nat.le_trans hFl hal) (Nat.lt_of_lt_of_le (by decide) line_big)), Wp_ok]
        have e : (lvSt st F W').set st.length (.lst (F.map Lf.val ++ [l.val])) = lvSt st (F ++ [l]) W' := by simp [lvSt]
        rw [e]
        exact cont W' (F ++ [l]) _ _ _ (by rw [hs]; simp [Bd.size]) (fun b hb => h3 b (by simp [hb])) (by rw [← h4, wleaves_app, List.append_assoc]; rfl)
      have partsCase : ∀ (ps : List Bd) (σ4 σ5 σ6 : Option Val), wsize ps + 1 = b.size → b.leaves = (ps.map Bd.leaves).flatten → (∀ p ∈ ps, p.Ok n ∧ p.deep ≤ 40) → ps.length ≤ 4 → Wp (extendM (.loc (st.length + 1)) [.lst (ps.map Bd.val).reverse] (lvSt st F W')) fun a s => K2 (.nx (lvEnv v st.length (many + 1) σ4 σ5 σ6)) s := by
        intro ps σ4 σ5 σ6 e1 e2 e3 e4
        rw [extendM_loc (l := W'.map Bd.val) lvSt_1 (by rw [List.length_map, List.length_reverse, List.length_map]; rw [List.length_append] at hWl; exact Nat.le_trans (by omega) line_big), Wp_ok]
        have e : (lvSt st F W').set (st.length + 1) (.lst (W'.map Bd.val ++ (ps.map Bd.val).reverse)) = lvSt st F (W' ++ ps.reverse) := by simp [lvSt, List.set_append_right]
        rw [e]
        refine cont (W' ++ ps.reverse) F _ _ _ ?_ ?_ ?_
        · have : wsize (W' ++ ps.reverse) = wsize W' + wsize ps := by simp [wsize]
          omega
        · intro q hq
          rcases List.mem_append.mp hq with hq | hq
          · exact h3 q (by simp [hq])
          · exact e3 q (by simpa using hq)
        · have : wleaves (W' ++ ps.reverse) = b.leaves ++ wleaves W' := by simp [wleaves, e2]
          rw [this, ← h4, wleaves_app]
      cases b with
      | lf l =>
        have lc := fun σ5 σ6 => leafCase l σ5 σ6 rfl
        cases l with
        | num i =>
          simp only [Bd.val, Lf.val] at hnil hpop lc
          simp [lvB, lvEnv, tyM_loc lvSt_1, hpop, hnil, hm, sizeLine, Bd.val, Lf.val, tyM_loc lvSt_0]
          exact lc _ _
        | loop i =>
          simp only [Bd.val, Lf.val] at hnil hpop lc
          simp [lvB, lvEnv, tyM_loc lvSt_1, hpop, hnil, hm, sizeLine, Bd.val, Lf.val, tyM_loc lvSt_0]
          exact lc _ _
        | given nm ps =>
          simp only [Bd.val, Lf.val] at hnil hpop lc
          simp [lvB, lvEnv, tyM_loc lvSt_1, hpop, hnil, hm, sizeLine, Bd.val, Lf.val, tyM_loc lvSt_0, (inOps _).2]
          exact lc _ _
        | use u is nm ps =>
          simp only [Bd.val, Lf.val] at hnil hpop lc
          simp [lvB, lvEnv, tyM_loc lvSt_1, hpop, hnil, hm, sizeLine, Bd.val, Lf.val, tyM_loc lvSt_0]
          exact lc _ _
      | two o x y =>
        simp only [Bd.val] at hnil hpop
        simp [lvB, lvEnv, tyM_loc lvSt_1, hpop, hnil, hm, sizeLine, Bd.val, Lf.val, tyM_loc lvSt_0, (inOps _).1 o hb.1.1]
        exact partsCase [x, y] _ _ _ (by simp [wsize, Bd.size]; omega) (by simp [Bd.leaves]) (by
          have hd : 1 + max x.deep y.deep ≤ 40 := hb.2
          intro p hp
          simp only [List.mem_cons, List.not_mem_nil, or_false] at hp
          rcases hp with rfl | rfl
          · exact ⟨hb.1.2.1, by omega⟩
          · exact ⟨hb.1.2.2, by omega⟩) (by simp)
      | pick x y z =>
        simp only [Bd.val] at hnil hpop
        simp [lvB, lvEnv, tyM_loc lvSt_1, hpop, hnil, hm, sizeLine, Bd.val, Lf.val, tyM_loc lvSt_0]
        exact partsCase [x, y, z] _ _ _ (by simp [wsize, Bd.size]; omega) (by simp [Bd.leaves]) (by
          have hd : 1 + max x.deep (max y.deep z.deep) ≤ 40 := hb.2
          intro p hp
          simp only [List.mem_cons, List.not_mem_nil, or_false] at hp
          rcases hp with rfl | rfl | rfl
          · exact ⟨hb.1.1, by omega⟩
          · exact ⟨hb.1.2.1, by omega⟩
          · exact ⟨hb.1.2.2, by omega⟩) (by simp)
theorem leaves_len : ∀ b : Bd, b.leaves.length ≤ b.size
  | .lf _ => Nat.le_refl _
  | .two _ a b => by
    have := leaves_len a
    have := leaves_len b
    simp only [Bd.leaves, Bd.size, List.length_append]
    omega
  | .pick a b c => by
    have := leaves_len a
    have := leaves_len b
    have := leaves_len c
    simp only [Bd.leaves, Bd.size, List.length_append]
    omega
theorem leaves_spec (w : World) {n : Int} {b : Bd} (h : b.Ok n) (hd : b.deep ≤ 40) (hz : b.size ≤ 15) {st : Sto} : Wp (F_leaves_of w [b.val] st) fun v s => v = .lst (b.leaves.map Lf.val) ∧ Pre st s := by
  unfold F_leaves_of
  refine wp_runB rfl ?_
  simp [m_leaves_of, sizeLine]
  have key := lv_while w (n := n) (v := b.val) (st := st) (Q := nxt (mRet (mOp1 frzM (mVar 1))) (defQ fun v s => v = Val.lst (List.map Lf.val b.leaves) ∧ Pre st s)) b.leaves (by have := leaves_len b; omega) (fun many σ4 σ5 σ6 => by
    simp [lvEnv, frzM_loc lvSt_0]
    exact Pre.setN ⟨_, rfl⟩ (Nat.le_refl _)) 17 [b] [] 0 none none none (by simp [wsize]; omega) (by decide) (by simp [wsize]; omega) (by simpa using ⟨h, hd⟩) (by simp [wleaves])
  exact key
end K35
end

section
set_option Elab.async false
set_option linter.all false
set_option maxRecDepth 100000
set_option maxHeartbeats 400000
namespace K35
open PySem PySem.Spec PyProof.Rows L2 L3
def Lf.isUse : Lf → Bool
  | .use _ _ _ _ => true
  | _ => false
def Bd.uses (b : Bd) : List Lf := b.leaves.filter Lf.isUse
theorem lf_ok {n : Int} : ∀ {b : Bd}, b.Ok n → ∀ l ∈ b.leaves, l.Ok n
  | .lf l, h, l', hl => by rw [Bd.leaves, List.mem_singleton] at hl; subst hl; exact h
  | .two _ a b, h, l', hl => (List.mem_append.mp hl).elim (lf_ok h.2.1 l') (lf_ok h.2.2 l')
  | .pick a b c, h, l', hl => (List.mem_append.mp hl).elim (lf_ok h.1 l') fun hl => (List.mem_append.mp hl).elim (lf_ok h.2.1 l') (lf_ok h.2.2 l')
theorem uses_spec (w : World) {n : Int} {b : Bd} (h : b.Ok n) (hd : b.deep ≤ 40) (hz : b.size ≤ 15) {st : Sto} : Wp (F_uses_in w [b.val] st) fun v s => v = .tup (b.uses.map Lf.val) ∧ Pre st s := by
  unfold F_uses_in
  refine wp_runB rfl ?_
  simp [m_uses_in, -mLc_s]
  simp
  refine (leaves_spec w h hd hz).mono ?_
  rintro _ s ⟨rfl, hp⟩
  have hl := leaves_len b
  have e := lcGo_pure (keep := always) (g := gN 1) (c := mTest (mOp2 eqM (mOp2 getM (mVar 1) (mVal (.int 0))) (mVal (.str "use")))) (me := mVar 1) (σ0 := [some b.val, none]) (st := s)
    (fun v => match v with | .tup (.str x :: _) => decide (x = "use") | _ => false) id trivial (b.leaves.map Lf.val) [] (fun v hv => by
      obtain ⟨l, _, rfl⟩ := List.mem_map.mp hv
      refine ⟨_, rfl, ?_, fun _ => rfl⟩
      cases l <;> simp [Lf.val]) (by rw [List.length_map]; exact Nat.le_trans (show 0 + b.leaves.length ≤ 100000 by omega) line_big)
  simp [wipeE, e]
  refine ⟨?_, hp⟩
  rw [List.filter_map]
  congr 1
  refine List.filter_congr fun l _ => ?_
  cases l <;> simp [Lf.val, Lf.isUse]
theorem need_counts_ok (w : World) {cs : List Int} (h : ∀ i ∈ cs, 1 ≤ i ∧ i ≤ 6) (st : Sto) : Wp (F_need_counts w [.tup (cs.map .int)] st) fun v s => v = .non ∧ st = s := by
  unfold F_need_counts
  refine wp_runB rfl ?_
  simp [m_need_counts]
  refine wp_for (fun p σ s => (∃ σ1 σ2, σ = [some (.tup (cs.map .int)), σ1, σ2]) ∧ st = s) ⟨⟨_, _, rfl⟩, rfl⟩ (fun _ _ _ _ => trivial) ?_ ?_
  · rintro p v q _ _ hL ⟨⟨σ1, σ2, rfl⟩, rfl⟩
    obtain ⟨u, hu, rfl⟩ := numd_split hL
    obtain ⟨i, hi, rfl⟩ := List.mem_map.mp (List.mem_of_getElem? hu)
    have := h i hi
    simp [is_whole_int, this.1, this.2]
  · rintro _ _ ⟨⟨σ1, σ2, rfl⟩, rfl⟩
    simp
theorem is_variable_ok (w : World) {n : Int} (hn : n ≤ 3) {x : Str} {b : Bd} (hx : varOk x = true) (h : b.Ok n) (hd : b.deep ≤ 40) (hz : b.size ≤ 15) {st : Sto} {v : Val} {names : List Str} (hv : itemsOf st v = some (names.map .str)) (hnx : x ∉ names) :
    Wp (F_is_variable w [vaV (x, b), .int n, v] st) fun v s => v = .bl true ∧ Pre st s := by
  unfold F_is_variable
  refine wp_runB rfl ?_
  simp [m_is_variable, vaV, is_tuple_tup, is_var_ok w x st hx, inM_strs hv, hnx]
  refine (leaves_spec w h hd hz).mono ?_
  rintro _ s ⟨rfl, hp⟩
  have hl := leaves_len b
  have k1 := lcGo_map (keep := always) (g := gN 4) (me := mCall (F_is_leaf w) [] (aCons (mVar 4) (aCons (mVar 1) aNil))) (σ0 := [some (.tup [.str x, b.val]), some (.int n), some v, some (.lst (b.leaves.map Lf.val)), none]) (st := s) (fun _ => .bl true) trivial
    (b.leaves.map Lf.val) (fun v hv => by
      obtain ⟨l, hl, rfl⟩ := List.mem_map.mp hv
      exact ⟨_, rfl, by simp [is_leaf_ok w n l s hn (lf_ok h l hl)]⟩) (by rw [List.length_map]; exact Nat.le_trans (show b.leaves.length ≤ 100000 by omega) line_big)
  simp [isNoneV, wipeE, k1, all_true, -List.map_map]
  exact hp
/-- what is good is let by -/
theorem need_recs_ok (w : World) {r : Rc} (h : RcOk r) {st : Sto} : Wp (F_need_recurrences w [r.val] st) fun v s => v = .non ∧ Pre st s := by
  unfold F_need_recurrences
  refine wp_runB rfl ?_
  have hc1 := h.c1
  have hc3 := h.c3
  have hv1 := h.v1
  have hv40 := h.v40
  have a1 : (1 : Int) ≤ r.counts.length := by omega
  have a2 : (r.counts.length : Int) ≤ 3 := by omega
  have a3 : (1 : Int) ≤ r.vars.length := by omega
  have a4 : (r.vars.length : Int) ≤ 40 := by omega
  simp [m_need_recurrences, Rc.val, is_tuple_tup, a1, a2, a3, a4, sizeLine, -mFor_s]
  refine (need_counts_ok w h.c st).mono ?_
  rintro _ _ ⟨rfl, rfl⟩
  simp [isNoneV]
  have hnl : r.names.length = r.vars.length := by simp [Rc.names]
  refine wp_for (fun p σ s => (∃ σ5 σ6, σ = [some r.val, some (.tup (r.counts.map .int)), some (.tup (r.vars.map vaV)), some .non, some (.loc st.length), σ5, σ6, none, none, none]) ∧ s[st.length]? = some (.lst ((r.names.take p.length).map .str)) ∧ Pre st s) ⟨⟨_, _, rfl⟩, by simp, Pre.refl.push⟩ (fun _ _ _ _ => trivial) ?_ ?_
  · rintro p v q _ s hL ⟨⟨σ5, σ6, rfl⟩, hat, hpre⟩
    obtain ⟨u, hu, rfl⟩ := numd_split hL
    rw [List.getElem?_map] at hu
    obtain ⟨⟨x, b⟩, hxb, rfl⟩ := Option.map_eq_some_iff.mp hu
    have hva := h.va _ (List.mem_of_getElem? hxb)
    have hxn : r.names[p.length]? = some x := by rw [Rc.names, List.getElem?_map, hxb]; rfl
    have hplt : p.length < r.names.length := (List.getElem?_eq_some_iff.mp hxn).1
    have hnx : x ∉ r.names.take p.length := fun hc => by
      obtain ⟨j, hj, e⟩ := List.mem_take_iff_getElem.mp hc
      have := (List.getElem?_inj (by omega : j < r.names.length) h.nd).mp ((List.getElem?_eq_some_iff.mpr ⟨by omega, e⟩).trans hxn.symm)
      omega
    have hvo : varOk x = true := h.nm x (List.mem_of_getElem? hxn)
    generalize ((p.length : Nat) : Int) = J
    simp
    rw [Wp_asB]
    refine (is_variable_ok w (n := r.counts.length) (by omega) hvo hva.ok (by have := hva.deep; omega) hva.size (itemsOf_loc hat) hnx).mono ?_
    rintro _ s2 ⟨rfl, hp2⟩
    rw [asBQ_bl]
    have hat2 := hp2.at hat
    have hap := appendM_loc (v := .str x) hat2 (Nat.lt_of_le_of_lt (show ((r.names.take p.length).map Val.str).length ≤ 40 by rw [List.length_map, List.length_take]; omega) (Nat.lt_of_lt_of_le (by omega : 40 < 100000) line_big))
    simp [tyM_loc hat2, vaV, hap]
    refine ⟨?_, (hpre.trans hp2).setN (Nat.le_refl _)⟩
    rw [set_at hat2, List.take_add_one, List.getElem?_map, hxn]
    simp
  · rintro _ s ⟨⟨σ5, σ6, rfl⟩, hat, hpre⟩
    have hat : s[st.length]? = some (.lst (r.names.map .str)) := by
      rw [hat, numd_length, List.length_map, ← hnl, List.take_length]
    simp
    refine wp_for (fun p σ s => (∃ σ5 σ6 σ7 σ8, σ = [some r.val, some (.tup (r.counts.map .int)), some (.tup (r.vars.map vaV)), some .non, some (.loc st.length), σ5, σ6, σ7, σ8, none]) ∧ s[st.length]? = some (.lst (r.names.map .str)) ∧ Pre st s) ⟨⟨_, _, _, _, rfl⟩, hat, hpre⟩ (fun _ _ _ _ => trivial) ?_ ?_
    · rintro p v q _ s3 hL ⟨⟨σ5, σ6, σ7, σ8, rfl⟩, hat3, hpre3⟩
      obtain ⟨u, hu, rfl⟩ := numd_split hL
      rw [List.getElem?_map] at hu
      obtain ⟨⟨x, b⟩, hxb, rfl⟩ := Option.map_eq_some_iff.mp hu
      have hva := h.va _ (List.mem_of_getElem? hxb)
      generalize ((p.length : Nat) : Int) = J
      simp [vaV]
      refine (uses_spec w hva.ok (Nat.le_trans hva.deep (by decide)) hva.size).mono ?_
      rintro _ s4 ⟨rfl, hp4⟩
      have hl := leaves_len b
      have hzz : b.size ≤ 15 := hva.size
      have hul : b.uses.length ≤ b.leaves.length := List.length_filter_le ..
      have hat4 := hp4.at hat3
      have k1 := lcGo_map (keep := always) (g := gN 9) (me := mOp2 inM (mOp2 getM (mVar 9) (mVal (.int 1))) (mVar 4)) (σ0 := [some r.val, some (.tup (r.counts.map .int)), some (.tup (r.vars.map vaV)), some .non, some (.loc st.length), some (.int J), σ6, some (.str x), some b.val, none]) (st := s4) (fun _ => .bl true) trivial
        (b.uses.map Lf.val) (fun v hv => by
          obtain ⟨l, hl, rfl⟩ := List.mem_map.mp hv
          have hlu := (List.mem_filter.mp hl).2
          cases l with
          | use u is nm ps =>
            have hun := hva.uses u is nm ps (List.mem_filter.mp hl).1
            exact ⟨_, rfl, by simp [Lf.val, inM_strs (itemsOf_loc hat4), hun]⟩
          | _ => cases hlu) (by rw [List.length_map]; exact Nat.le_trans (show b.uses.length ≤ 100000 by omega) line_big)
      simp [wipeE, k1, all_true, -List.map_map]
      exact ⟨hat4, hpre3.trans hp4⟩
    · rintro _ s3 ⟨⟨σ5, σ6, σ7, σ8, rfl⟩, hat3, hpre3⟩
      simp
      exact hpre3
end K35
end

section
set_option Elab.async false
set_option linter.all false
set_option maxRecDepth 100000
set_option maxHeartbeats 400000
namespace L3
open PySem PySem.Spec PyProof.Rows L2
theorem toDs_ints : ∀ l : List Int, toDs (l.map .int) = some (l.map PyData.int)
  | [] => rfl
  | a :: l => by
    rw [List.map_cons, toDs, toDs_ints l]
    rfl
theorem eqv_ints : ∀ l m : List Int, PyData.eqvAll (l.map .int) (m.map .int) = decide (l = m)
  | [], [] => by simp [PyData.eqvAll]
  | [], _ :: _ => by simp [PyData.eqvAll]
  | _ :: _, [] => by simp [PyData.eqvAll]
  | a :: l, b :: m => by
    rw [List.map_cons, List.map_cons, PyData.eqvAll, eqv_ints l m]
    unfold PyData.eqv
    by_cases h : a = b <;> simp [h]
theorem nks_ints : ∀ l : List Int, nksOf (l.map .int) = some (l.map NestedKey.num)
  | [] => rfl
  | a :: l => by
    rw [List.map_cons, nksOf, nks_ints l]
    rfl
end L3
namespace K35
open PySem PySem.Spec PyProof.Rows L2 L3
structure Nd where
  own : Str
  used : Str
  step : List Int
deriving DecidableEq
def Nd.val (x : Nd) : Val := .tup [.str x.own, .str x.used, .tup (x.step.map .int)]
def Nd.nk (x : Nd) : NestedKey := .tup [.text x.own, .text x.used, .tup (x.step.map .num)]
def Nd.dat (x : Nd) : PyData := .tuple [.str x.own, .str x.used, .tuple (x.step.map .int)]
theorem nk_val (x : Nd) : nkOf x.val = some x.nk := by
  simp [Nd.val, Nd.nk, nkOf, nksOf, nks_ints]
theorem nk_inj {x y : Nd} (h : x.nk = y.nk) : x = y := by
  cases x; cases y
  simp only [Nd.nk, NestedKey.tup.injEq, List.cons.injEq, NestedKey.text.injEq, and_true] at h
  obtain ⟨h1, h2, h3⟩ := h
  have h3 := (List.map_inj_right (fun a b e => by cases e; rfl)).mp h3
  rw [h1, h2, h3]
theorem toD_val (x : Nd) : toD x.val = some x.dat := by
  simp [Nd.val, Nd.dat, toD, toDs, toDs_ints]
theorem dat_eqv (x y : Nd) : PyData.eqv x.dat y.dat = decide (x = y) := by
  cases x with
  | mk a b c => cases y with
    | mk a' b' c' =>
      simp only [Nd.dat, PyData.eqv, PyData.eqvAll, eqv_ints, Nd.mk.injEq]
      by_cases h1 : a = a' <;> by_cases h2 : b = b' <;> by_cases h3 : c = c' <;> simp [h1, h2, h3]
theorem toDs_val : ∀ l : List Nd, toDs (l.map Nd.val) = some (l.map Nd.dat)
  | [] => rfl
  | a :: l => by
    rw [List.map_cons, toDs, toDs_val l, toD_val]
    rfl
theorem dat_nd {x : Nd} (h1 : varOk x.own = true) (h2 : varOk x.used = true) : Dat 2 x.val :=
  Dat.tup (dats_cons (dat_str (varOk_str h1)) (dats_cons (dat_str (varOk_str h2)) (dats_cons (Dat.tup dat_ints) dats_nil)))
def NdOk (x : Nd) : Prop := varOk x.own = true ∧ varOk x.used = true
theorem dats_nds {l : List Nd} (h : ∀ x ∈ l, NdOk x) : Dats 2 (l.map Nd.val) := fun v hv => by
  obtain ⟨x, hx, rfl⟩ := List.mem_map.mp hv
  exact dat_nd (h x hx).1 (h x hx).2
theorem dat_shaped {k : Nat} {v : Val} {d : PyData} (h : Dat k v) (e : toD v = some d) (hk : k ≤ 60) : SeqAt.shaped d = true := by
  obtain ⟨d', a, b, c⟩ := h
  rw [a] at e
  cases e
  exact shaped_of b (by omega)
theorem notIn_nds {x : Nd} {l : List Nd} {a : Nat} {st : Sto} (ha : st[a]? = some (.lst (l.map Nd.val))) (hl : ∀ y ∈ l, NdOk y) (hx : NdOk x) : notInM x.val (.loc a) st = .ok (.bl (!decide (x ∈ l))) st := by
  have h1 : toDst st (.loc a) = some (.list (l.map Nd.dat)) := by
    simp [toDst, ha, toDs_val]
  have h2 : toDst st x.val = some x.dat := toD_val x
  have s1 : SeqAt.shaped x.dat = true := dat_shaped (dat_nd hx.1 hx.2) (toD_val x) (by decide)
  have s2 : SeqAt.shaped (.list (l.map Nd.dat)) = true := by
    refine dat_shaped (k := 3) (v := .lst (l.map Nd.val)) (Dat.lst (dats_nds hl)) ?_ (by decide)
    rw [toD, toDs_val]
    rfl
  have h3 : ((l.map Nd.dat).any fun z => PyData.eqv z x.dat) = decide (x ∈ l) := by
    rw [List.any_map]
    have : ((fun z => PyData.eqv z x.dat) ∘ Nd.dat) = fun y => decide (y = x) := by
      funext y
      exact dat_eqv y x
    rw [this]
    clear this h1 s2 ha hl
    induction l with
    | nil => simp
    | cons b l ih =>
      rw [List.any_cons, ih]
      by_cases e : b = x
      · subst e; simp
      · have e2 : ¬ x = b := fun q => e q.symm
        simp [e, e2]
  have hw : inW st x.val (.loc a) = some (decide (x ∈ l)) := by
    unfold inW
    simp only [Nd.val]
    rw [itemsOf_loc ha]
    simp only [flV]
    simp only [Nd.val] at h2
    rw [h2, h1]
    simp only [s1, s2, h3]
    rfl
  unfold notInM
  rw [hw]
def addN (l : List Nd) (x : Nd) : List Nd := if x ∈ l then l else l ++ [x]
def dnOf (l : List Nd) : List (Val × Val) := l.map fun x => (x.val, .bl true)
theorem putN_nds {l : List Nd} {x : Nd} : putN (dnOf l) x.val (.bl true) = dnOf (addN l x) := by
  unfold putN
  have e : ((dnOf l).any fun p => decide (nkOf p.1 = nkOf x.val)) = decide (x ∈ l) := by
    unfold dnOf
    induction l with
    | nil => simp
    | cons b l ih =>
      rw [List.map_cons, List.any_cons, ih, nk_val, nk_val]
      by_cases e : b = x
      · subst e; simp
      · have e2 : ¬ x = b := fun q => e q.symm
        have e3 : ¬ b.nk = x.nk := fun q => e (nk_inj q)
        simp [e2, e3]
  rw [e]
  unfold addN
  by_cases h : x ∈ l
  · rw [if_pos (decide_eq_true h), if_pos h]
    unfold dnOf
    rw [List.map_map]
    refine List.map_congr_left fun y _ => ?_
    show (if nkOf y.val = nkOf x.val then (y.val, Val.bl true) else (y.val, Val.bl true)) = _
    split <;> rfl
  · rw [if_neg (by simpa using h), if_neg h]
    simp [dnOf]
theorem setN_nds (w : World) {l : List Nd} {x : Nd} {a : Nat} {st : Sto} (ha : st[a]? = some (.dn w (dnOf l))) (hl : l.length ≤ 100000) : setNM w (.loc a) x.val (.bl true) st = .ok () (st.set a (.dn w (dnOf (addN l x)))) := by
  have hk : okKey x.val = true := by
    unfold okKey
    rw [nk_val]
    refine decide_eq_true ?_
    have h0 : ∀ l : List Int, NestedKey.depthAll (l.map NestedKey.num) = 0 := by
      intro l
      induction l with
      | nil => rfl
      | cons a l ih => rw [List.map_cons, NestedKey.depthAll, ih]; rfl
    simp [Nd.nk, NestedKey.depth, NestedKey.depthAll, h0]
  unfold setNM
  simp only [ha]
  rw [if_pos ⟨trivial, hk, Nat.le_trans (by simpa [dnOf] using hl) line_big⟩, putN_nds]
end K35
end

section
set_option Elab.async false
set_option linter.all false
set_option maxRecDepth 100000
set_option maxHeartbeats 400000
namespace K35
open PySem PySem.Spec PyProof.Rows L2 L3
def absI (i : Int) : Int := if i < 0 then -i else i
def nearB (s c : List Int) : Bool := (s.zip c).all fun p => decide (absI p.1 < p.2)
def Lf.up : Lf → Option (Str × List Int)
  | .use u s _ _ => some (u, s)
  | _ => none
def Bd.ups (b : Bd) : List (Str × List Int) := b.leaves.filterMap Lf.up
def addU (cs : List Int) (own : Str) (acc : List Nd) (p : Str × List Int) : List Nd := if nearB p.2 cs = true then addN acc ⟨own, p.1, p.2⟩ else acc
def needsB (cs : List Int) (acc : List Nd) (v : Str × Bd) : List Nd := v.2.ups.foldl (addU cs v.1) acc
def Rc.needs (r : Rc) : List Nd := r.vars.foldl (needsB r.counts) []
theorem addN_len {l : List Nd} {x : Nd} : (addN l x).length ≤ l.length + 1 := by
  unfold addN
  split <;> simp
theorem addU_len {cs : List Int} {own : Str} {l : List Nd} {p : Str × List Int} : (addU cs own l p).length ≤ l.length + 1 := by
  unfold addU
  split
  · exact addN_len
  · omega
theorem foldU_len {cs : List Int} {own : Str} : ∀ {ps : List (Str × List Int)} {l : List Nd}, (ps.foldl (addU cs own) l).length ≤ l.length + ps.length
  | [], l => by simp
  | p :: ps, l => by
    have h1 := foldU_len (cs := cs) (own := own) (ps := ps) (l := addU cs own l p)
    have h2 := addU_len (cs := cs) (own := own) (l := l) (p := p)
    rw [List.foldl_cons, List.length_cons]
    omega
theorem addN_ok {l : List Nd} {x : Nd} (hl : ∀ y ∈ l, NdOk y) (hx : NdOk x) : ∀ y ∈ addN l x, NdOk y := by
  unfold addN
  split
  · exact hl
  · intro y hy
    rcases List.mem_append.mp hy with hy | hy
    · exact hl y hy
    · rw [List.mem_singleton] at hy; subst hy; exact hx
theorem addU_ok {cs : List Int} {own : Str} {l : List Nd} {p : Str × List Int} (hl : ∀ y ∈ l, NdOk y) (h1 : varOk own = true) (h2 : varOk p.1 = true) : ∀ y ∈ addU cs own l p, NdOk y := by
  unfold addU
  split
  · exact addN_ok hl ⟨h1, h2⟩
  · exact hl
theorem ups_len {b : Bd} (h : b.size ≤ 15) : b.ups.length ≤ 15 := Nat.le_trans (List.length_filterMap_le ..) (Nat.le_trans (leaves_len b) h)
theorem ups_uses {b : Bd} : b.ups = b.uses.filterMap Lf.up := by
  unfold Bd.ups Bd.uses
  rw [List.filterMap_filter]
  congr 1
  funext l
  cases l <;> rfl
/-- what comes of the first variables -/
def needsK (r : Rc) (k : Nat) : List Nd := (r.vars.take k).foldl (needsB r.counts) []
theorem needsK_succ {r : Rc} {k : Nat} {v : Str × Bd} (h : r.vars[k]? = some v) : needsK r (k + 1) = needsB r.counts (needsK r k) v := by
  unfold needsK
  rw [List.take_add_one, h]
  simp
theorem needsB_len {cs : List Int} {l : List Nd} {v : Str × Bd} (h : v.2.size ≤ 15) : (needsB cs l v).length ≤ l.length + 15 := Nat.le_trans foldU_len (Nat.add_le_add_left (ups_len h) _)
theorem needsK_len {r : Rc} (h : RcOk r) : ∀ k, (needsK r k).length ≤ 15 * k
  | 0 => by simp [needsK]
  | k + 1 => by
    have ih := needsK_len h k
    cases hv : r.vars[k]? with
    | none =>
      have : needsK r (k + 1) = needsK r k := by
        unfold needsK
        rw [List.take_add_one, hv]
        simp
      rw [this]
      omega
    | some v =>
      rw [needsK_succ hv]
      have := needsB_len (cs := r.counts) (l := needsK r k) (h.va v (List.mem_of_getElem? hv)).size
      omega
theorem ups_ok {r : Rc} (h : RcOk r) {v : Str × Bd} (hv : v ∈ r.vars) : ∀ p ∈ v.2.ups, varOk p.1 = true ∧ p.2.length = r.counts.length := by
  intro p hp
  obtain ⟨l, hl, e⟩ := List.mem_filterMap.mp hp
  cases l with
  | use u s nm ps =>
    cases e
    have h1 := (h.va v hv).uses u s nm ps hl
    have h2 := lf_ok (h.va v hv).ok _ hl
    exact ⟨h2.1, by have := h2.2.1.len; show s.length = _; omega⟩
  | _ => cases e
theorem own_ok {r : Rc} (h : RcOk r) {v : Str × Bd} (hv : v ∈ r.vars) : varOk v.1 = true := h.nm v.1 (List.mem_map.mpr ⟨v, hv, rfl⟩)
theorem foldU_ok {cs : List Int} {own : Str} (h1 : varOk own = true) : ∀ {ps : List (Str × List Int)} {l : List Nd}, (∀ p ∈ ps, varOk p.1 = true) → (∀ y ∈ l, NdOk y) → ∀ y ∈ ps.foldl (addU cs own) l, NdOk y
  | [], l, _, hl => hl
  | p :: ps, l, h2, hl => by
    rw [List.foldl_cons]
    exact foldU_ok h1 (fun q hq => h2 q (List.mem_cons_of_mem _ hq)) (addU_ok hl h1 (h2 p List.mem_cons_self))
theorem needsK_ok {r : Rc} (h : RcOk r) : ∀ k, ∀ y ∈ needsK r k, NdOk y
  | 0 => by simp [needsK]
  | k + 1 => by
    have ih := needsK_ok h k
    cases hv : r.vars[k]? with
    | none =>
      have : needsK r (k + 1) = needsK r k := by
        unfold needsK
        rw [List.take_add_one, hv]
        simp
      rw [this]
      exact ih
    | some v =>
      rw [needsK_succ hv]
      have hm := List.mem_of_getElem? hv
      exact foldU_ok (own_ok h hm) (fun p hp => (ups_ok h hm p hp).1) ih
end K35
end

section
set_option Elab.async false
set_option linter.all false
set_option maxRecDepth 100000
set_option maxHeartbeats 400000
namespace K35
open PySem PySem.Spec PyProof.Rows L2 L3
theorem lf_up_val {l : Lf} {p : Str × List Int} (h : l.up = some p) : ∃ nm ps, l = .use p.1 p.2 nm ps := by
  cases l with
  | use u s nm ps => cases h; exact ⟨nm, ps, rfl⟩
  | _ => cases h
theorem uses_isUse {b : Bd} {l : Lf} (h : l ∈ b.uses) : ∃ u s nm ps, l = .use u s nm ps := by
  have := (List.mem_filter.mp h).2
  cases l with
  | use u s nm ps => exact ⟨u, s, nm, ps, rfl⟩
  | _ => cases this
def foldK (cs : List Int) (own : Str) (acc : List Nd) (us : List Lf) (k : Nat) : List Nd := ((us.take k).filterMap Lf.up).foldl (addU cs own) acc
theorem foldK_succ {cs : List Int} {own : Str} {acc : List Nd} {us : List Lf} {k : Nat} {u : Str} {s : List Int} {nm : Str} {ps : List (Int × Int)} (h : us[k]? = some (.use u s nm ps)) : foldK cs own acc us (k + 1) = addU cs own (foldK cs own acc us k) (u, s) := by
  unfold foldK
  rw [List.take_add_one, h, List.filterMap_append, List.foldl_append]
  rfl
theorem foldK_len {cs : List Int} {own : Str} {acc : List Nd} {us : List Lf} {k : Nat} : (foldK cs own acc us k).length ≤ acc.length + us.length := by
  unfold foldK
  refine Nat.le_trans foldU_len (Nat.add_le_add_left (Nat.le_trans (List.length_filterMap_le ..) ?_) _)
  rw [List.length_take]
  omega
theorem near_spec (w : World) {keep : Sto → Prop} {s c : List Int} {st : Sto} (hk : keep st) {i j : Nat} {σ0 : L3.Env} (hl : s.length ≤ 3) (hi : ∀ a b : Val, ((σ0.set i (some a)).set j (some b))[i]? = some (some a)) (hj : ∀ a b : Val, ((σ0.set i (some a)).set j (some b))[j]? = some (some b)) :
    lcGo keep (gT 2 (gsCons (gN i) (gsCons (gN j) gsNil))) mYes (mOp2 (cmpV fun i j => decide (i < j)) (mOps absM (aCons (mVar i) aNil)) (mVar j)) σ0 (zipL (s.map .int) (c.map .int)) [] st = .ok ((s.zip c).map fun p => Val.bl (decide (absI p.1 < p.2))) st := by
  have hz : zipL (s.map .int) (c.map .int) = (s.zip c).map fun p => Val.tup [.int p.1, .int p.2] := by
    unfold zipL
    rw [List.zip_map, List.map_map]
    rfl
  have k := lcGo_map (keep := keep) (g := gT 2 (gsCons (gN i) (gsCons (gN j) gsNil))) (me := mOp2 (cmpV fun i j => decide (i < j)) (mOps absM (aCons (mVar i) aNil)) (mVar j)) (σ0 := σ0) (st := st)
    (fun v => match v with | .tup [.int a, .int b] => .bl (decide (absI a < b)) | _ => .non) hk (zipL (s.map .int) (c.map .int)) (fun v hv => by
      rw [hz] at hv
      obtain ⟨p, _, rfl⟩ := List.mem_map.mp hv
      exact ⟨(σ0.set i (some (.int p.1))).set j (some (.int p.2)), rfl, by
        simp only [mOp2_s, mOps_s, aCons_s, aNil_s, mVar_s, hi, hj, Res.bind_ok, absM_int, cmpV_int]
        rfl⟩) (by
      rw [hz, List.length_map, List.length_zip]
      exact Nat.le_trans (show min s.length c.length ≤ 100000 by omega) line_big)
  rw [k, hz, List.map_map]
  rfl
theorem needs_by_spec (w : World) {r : Rc} (h : RcOk r) {st : Sto} : Wp (F_needs_by w [r.val] st) fun v s => v = .tup (r.needs.map Nd.val) ∧ Pre st s := by
  unfold F_needs_by
  refine wp_runB rfl ?_
  simp [m_needs_by, Rc.val]
  refine wp_for (fun p σ s => (∃ σ4 σ5 σ6 σ7 σ8 σ9 σ10, σ = [some r.val, some (.tup (r.counts.map .int)), some (.tup (r.vars.map vaV)), some (.loc st.length), σ4, σ5, σ6, σ7, σ8, σ9, σ10, none, none]) ∧ s[st.length]? = some (.dn w (dnOf (needsK r p.length))) ∧ Pre st s) ⟨⟨_, _, _, _, _, _, _, rfl⟩, by simp [dnOf, needsK], Pre.refl.push⟩ (fun _ _ _ _ => trivial) ?_ ?_
  · rintro p v q _ s hL ⟨⟨σ4, σ5, σ6, σ7, σ8, σ9, σ10, rfl⟩, hat, hpre⟩
    obtain ⟨⟨x, b⟩, hxb, rfl⟩ : ∃ xb, r.vars[p.length]? = some xb ∧ v = vaV xb := by
      have h1 : (r.vars.map vaV)[p.length]? = some v := by rw [hL]; simp
      rw [List.getElem?_map] at h1
      obtain ⟨xb, e, rfl⟩ := Option.map_eq_some_iff.mp h1
      exact ⟨xb, e, rfl⟩
    have hm := List.mem_of_getElem? hxb
    have hva := h.va _ hm
    simp [vaV]
    refine (uses_spec w hva.ok (Nat.le_trans hva.deep (by decide)) hva.size).mono ?_
    rintro _ s2 ⟨rfl, hp2⟩
    rw [Wp_ok]
    have hul : b.uses.length ≤ 15 := Nat.le_trans (List.length_filter_le ..) (Nat.le_trans (leaves_len b) hva.size)
    have hp40 : p.length ≤ 40 := by
      have := (List.getElem?_eq_some_iff.mp hxb).1
      have := h.v40
      omega
    refine wp_for (fun p2 σ s => (∃ σ6 σ7 σ8 σ9 σ10, σ = [some r.val, some (.tup (r.counts.map .int)), some (.tup (r.vars.map vaV)), some (.loc st.length), some (.str x), some b.val, σ6, σ7, σ8, σ9, σ10, none, none]) ∧ s[st.length]? = some (.dn w (dnOf (foldK r.counts x (needsK r p.length) b.uses p2.length))) ∧ Pre st s) ⟨⟨_, _, _, _, _, rfl⟩, by
        have := hp2.at hat
        simpa [foldK] using this, hpre.trans hp2⟩ (fun _ _ _ _ => trivial) ?_ ?_
    · rintro p2 v q2 _ s3 hL2 ⟨⟨σ6, σ7, σ8, σ9, σ10, rfl⟩, hat3, hpre3⟩
      obtain ⟨l, hl, rfl⟩ : ∃ l, b.uses[p2.length]? = some l ∧ v = l.val := by
        have h1 : (b.uses.map Lf.val)[p2.length]? = some v := by rw [show b.uses.map Lf.val = p2 ++ v :: q2 from hL2]; simp
        rw [List.getElem?_map] at h1
        obtain ⟨xb, e, rfl⟩ := Option.map_eq_some_iff.mp h1
        exact ⟨xb, e, rfl⟩
      obtain ⟨u, sp, nm, ps, rfl⟩ := uses_isUse (List.mem_of_getElem? hl)
      have hso : StepOk r.counts.length sp := (lf_ok hva.ok _ (List.mem_filter.mp (List.mem_of_getElem? hl)).1).2.1
      have hsl : sp.length = r.counts.length := by have := hso.len; omega
      have hc3 := h.c3
      rw [List.length_append]
      simp only [List.length_singleton, foldK_succ hl]
      simp [Lf.val, hsl]
      have hfl := foldK_len (cs := r.counts) (own := x) (acc := needsK r p.length) (us := b.uses) (k := p2.length)
      have hkl := needsK_len h p.length
      have hnr := near_spec w (keep := fun _ => True) (s := sp) (c := r.counts) (st := s3) (i := 11) (j := 12) (σ0 := [some r.val, some (.tup (r.counts.map .int)), some (.tup (r.vars.map vaV)), some (.loc st.length), some (.str x), some b.val, some (.str "use"), some (.str u), some (.tup (sp.map .int)), some (.str nm), some (subsV ps), none, none]) trivial (by omega) (fun a b => rfl) (fun a b => rfl)
      have hbl : blsOf ((sp.zip r.counts).map fun p => Val.bl (decide (absI p.1 < p.2))) = some ((sp.zip r.counts).map fun p => decide (absI p.1 < p.2)) := bls_map _ _
      have hall : ((sp.zip r.counts).map fun p => decide (absI p.1 < p.2)).all id = nearB sp r.counts := by
        rw [List.all_map]
        rfl
      simp only [wipeE, List.set_cons_succ, List.set_cons_zero]
      rw [hnr, Wp_ok, hbl]
      simp only [hall]
      have hset := setN_nds w (x := ⟨x, u, sp⟩) hat3 (by omega)
      simp only [Nd.val] at hset
      by_cases hb : nearB sp r.counts = true
      · simp [hb, sizeLine, hset, addU]
        exact ⟨set_at hat3, hpre3.setN (Nat.le_refl _)⟩
      · simp [hb, addU]
        exact ⟨hat3, hpre3⟩
    · rintro _ s3 ⟨⟨σ6, σ7, σ8, σ9, σ10, rfl⟩, hat3, hpre3⟩
      simp
      refine ⟨?_, hpre3⟩
      rw [hat3, needsK_succ hxb]
      have : foldK r.counts x (needsK r p.length) b.uses (b.uses.map Lf.val).length = needsB r.counts (needsK r p.length) (x, b) := by
        unfold foldK needsB
        rw [List.length_map, List.take_length, ups_uses]
      exact congrArg (fun z => some (Ob.dn w (dnOf z))) this
  · rintro _ s ⟨⟨σ4, σ5, σ6, σ7, σ8, σ9, σ10, rfl⟩, hat, hpre⟩
    have e : needsK r (r.vars.map vaV).length = r.needs := by
      unfold needsK Rc.needs
      rw [List.length_map, List.take_length]
    rw [e] at hat
    have hl : r.needs.length ≤ 600 := by
      rw [← e]
      have := needsK_len h (r.vars.map vaV).length
      rw [List.length_map] at *
      have := h.v40
      omega
    have ht : tupAM w [.loc st.length] s = .ok (.tup (r.needs.map Nd.val)) s := by
      unfold tupAM
      simp only [hat]
      rw [if_pos ⟨trivial, by rw [dnOf, List.length_map]; exact Nat.le_trans (by omega) line_big⟩]
      simp [dnOf]
    simp [ht]
    exact hpre
end K35
end

section
set_option Elab.async false
set_option linter.all false
set_option maxRecDepth 100000
set_option maxHeartbeats 400000
namespace K35
open PySem PySem.Spec PyProof.Rows L2 L3
theorem needs_of_spec (w : World) {r : Rc} (h : RcOk r) {st : Sto} : Wp (F_needs_of w [r.val] st) fun v s => v = .tup (r.needs.map Nd.val) ∧ Pre st s := by
  unfold F_needs_of
  refine wp_runB rfl ?_
  simp [m_needs_of]
  refine (need_recs_ok w h).mono ?_
  rintro _ s ⟨rfl, hp⟩
  refine (needs_by_spec w h).mono ?_
  rintro _ s2 ⟨rfl, hp2⟩
  exact ⟨rfl, hp.trans hp2⟩
end K35
end

section
set_option Elab.async false
set_option linter.all false
set_option maxRecDepth 100000
set_option maxHeartbeats 400000
namespace K35
open PySem PySem.Spec PyProof.Rows L2 L3
theorem sh_word {k : Nat} {s : Str} (h : PyData.strOk s = true) (hl : s.length ≤ 6) : Sh k 62 (.str s) := (Sh.str h).mono (Nat.le_refl _) (by omega)
theorem sh_signs {k : Nat} {z s : Str} (hz : ∀ c ∈ z.cps, c < 0x110000) (h : signsOk z s = true) : Sh k 62 (.str s) := sh_word (signs_ok hz h) (signs_len h).2
theorem sh_name {k : Nat} {s : Str} (h : signsOk SM s = true) : Sh k 62 (.str s) := sh_signs SM_ok h
theorem sh_var {k : Nat} {s : Str} (h : varOk s = true) : Sh k 62 (.str s) := sh_signs SF_ok (Bool.and_eq_true_iff.mp h).1
theorem sh_ints {k : Nat} {l : List Int} (hl : l.length ≤ 3) (h : ∀ i ∈ l, -100 ≤ i ∧ i ≤ 100) : Sh (k + 1) 48 (.tup (l.map .int)) := by
  have h1 := shs_map (k := k) (n := 13) (f := Val.int) (l := l) fun i hi => Sh.int (by have := h i hi; omega)
  exact (sh_tup h1).mono (Nat.le_refl _) (by omega)
theorem sh_subs {n : Int} {ps : List (Int × Int)} (h : SubsOk n ps) : Sh 2 108 (subsV ps) := by
  have hl : ps.length ≤ 3 := by have := h.hi; have := h.small; omega
  have h1 := shs_map (k := 1) (n := 33) (f := pv) (l := ps) fun p hp => by
    have := h.at_ p hp
    have := h.small
    exact (sh_tup (k := 0) (shs_cons (Sh.int (i := p.1) (by omega)) (shs_cons (Sh.int (i := p.2) (by omega)) shs_nil))).mono (Nat.le_refl _) (by omega)
  exact (sh_tup h1).mono (Nat.le_refl _) (by omega)
theorem sh_lf {n : Int} (hn : n ≤ 3) {l : Lf} (h : l.Ok n) : Sh 3 1000 l.val := by
  cases l with
  | num i => exact (sh_tup (k := 2) (shs_cons (sh_word (by decide +kernel) (by decide +kernel)) (shs_cons (Sh.int (by have := h.1; have := h.2; omega)) shs_nil))).mono (Nat.le_refl _) (by omega)
  | loop i => exact (sh_tup (k := 2) (shs_cons (sh_word (by decide +kernel) (by decide +kernel)) (shs_cons (Sh.int (by have := h.1; have := h.2; omega)) shs_nil))).mono (Nat.le_refl _) (by omega)
  | given nm ps => exact (sh_tup (k := 2) (shs_cons (sh_word (by decide +kernel) (by decide +kernel)) (shs_cons (sh_name h.1) (shs_cons (sh_subs h.2) shs_nil)))).mono (Nat.le_refl _) (by omega)
  | use v s nm ps =>
    have hs : Sh 2 48 (.tup (s.map .int)) := sh_ints (by have := h.2.1.len; omega) fun i hi => by have := h.2.1.at_ i hi; omega
    exact (sh_tup (k := 2) (shs_cons (sh_word (by decide +kernel) (by decide +kernel)) (shs_cons (sh_var h.1) (shs_cons hs (shs_cons (sh_name h.2.2.1) (shs_cons (sh_subs h.2.2.2) shs_nil)))))).mono (Nat.le_refl _) (by omega)
theorem ops_len {o : Str} (h : o ∈ opsL) : o.length ≤ 6 := by
  have : ∀ o ∈ opsL, o.length ≤ 6 := by decide +kernel
  exact this o h
theorem sh_bd {n : Int} (hn : n ≤ 3) : ∀ {b : Bd}, b.Ok n → Sh (3 + b.deep) (1000 * b.size) b.val
  | .lf l, h => sh_lf hn h
  | .two o a b, h => (sh_tup (k := 2 + (1 + max a.deep b.deep)) (shs_cons (sh_word (ops_ok h.1) (ops_len h.1)) (shs_cons ((sh_bd hn h.2.1).mono (by omega) (Nat.le_refl _)) (shs_cons ((sh_bd hn h.2.2).mono (by omega) (Nat.le_refl _)) shs_nil)))).mono (by show _ ≤ 3 + (1 + max a.deep b.deep); omega) (by show _ ≤ 1000 * (1 + (a.size + b.size)); omega)
  | .pick a b c, h => (sh_tup (k := 2 + (1 + max a.deep (max b.deep c.deep))) (shs_cons (sh_word (by decide +kernel) (by decide +kernel)) (shs_cons ((sh_bd hn h.1).mono (by omega) (Nat.le_refl _)) (shs_cons ((sh_bd hn h.2.1).mono (by omega) (Nat.le_refl _)) (shs_cons ((sh_bd hn h.2.2).mono (by omega) (Nat.le_refl _)) shs_nil))))).mono (by show _ ≤ 3 + (1 + max a.deep (max b.deep c.deep)); omega) (by show _ ≤ 1000 * (1 + (a.size + (b.size + c.size))); omega)
theorem sh_rc {r : Rc} (h : RcOk r) : Sh 20 1000000 r.val := by
  have hc3 := h.c3
  have h1 : Sh 18 48 (.tup (r.counts.map .int)) := sh_ints (k := 17) hc3 fun i hi => by have := h.c i hi; omega
  have h2 := shs_map (k := 17) (n := 16000) (f := vaV) (l := r.vars) fun p hp => by
    have hva := h.va p hp
    have hd := hva.deep
    have hz := hva.size
    exact (sh_tup (k := 16) (shs_cons (sh_var (own_ok h hp)) (shs_cons ((sh_bd (by omega) hva.ok).mono (by omega) (Nat.le_refl _)) shs_nil))).mono (Nat.le_refl _) (by omega)
  have hv := h.v40
  exact (sh_tup (k := 18) (shs_cons h1 (shs_cons ((sh_tup h2).mono (Nat.le_refl _) (Nat.le_refl _)) shs_nil))).mono (by omega) (by omega)
theorem mem_addU {cs : List Int} {own : Str} {l : List Nd} {p : Str × List Int} {y : Nd} (h : y ∈ addU cs own l p) : y ∈ l ∨ y = ⟨own, p.1, p.2⟩ := by
  unfold addU addN at h
  split at h
  · split at h
    · exact .inl h
    · rcases List.mem_append.mp h with h | h
      · exact .inl h
      · exact .inr (List.mem_singleton.mp h)
  · exact .inl h
theorem mem_foldU {cs : List Int} {own : Str} {y : Nd} : ∀ {ps : List (Str × List Int)} {l : List Nd}, y ∈ ps.foldl (addU cs own) l → y ∈ l ∨ (y.own = own ∧ (y.used, y.step) ∈ ps)
  | [], l, h => .inl h
  | p :: ps, l, h => by
    rw [List.foldl_cons] at h
    rcases mem_foldU h with h | ⟨h1, h2⟩
    · rcases mem_addU h with h | rfl
      · exact .inl h
      · exact .inr ⟨rfl, List.mem_cons_self⟩
    · exact .inr ⟨h1, List.mem_cons_of_mem _ h2⟩
theorem mem_needs_aux {cs : List Int} {y : Nd} : ∀ {vs : List (Str × Bd)} {l : List Nd}, y ∈ vs.foldl (needsB cs) l → y ∈ l ∨ ∃ v ∈ vs, y.own = v.1 ∧ (y.used, y.step) ∈ v.2.ups
  | [], l, h => .inl h
  | v :: vs, l, h => by
    rw [List.foldl_cons] at h
    rcases mem_needs_aux h with h | ⟨v', h1, h2⟩
    · rcases mem_foldU h with h | h
      · exact .inl h
      · exact .inr ⟨v, List.mem_cons_self, h⟩
    · exact .inr ⟨v', List.mem_cons_of_mem _ h1, h2⟩
theorem mem_needs {r : Rc} {y : Nd} (h : y ∈ r.needs) : ∃ v ∈ r.vars, y.own = v.1 ∧ (y.used, y.step) ∈ v.2.ups := (mem_needs_aux h).elim (fun h => nomatch h) id
theorem ups_step {r : Rc} (h : RcOk r) {v : Str × Bd} (hv : v ∈ r.vars) : ∀ p ∈ v.2.ups, StepOk r.counts.length p.2 := by
  intro p hp
  obtain ⟨l, hl, e⟩ := List.mem_filterMap.mp hp
  cases l with
  | use u s nm ps =>
    cases e
    exact (lf_ok (h.va v hv).ok _ hl).2.1
  | _ => cases e
theorem sh_nds {r : Rc} (h : RcOk r) : Sh 20 1000000 (.tup (r.needs.map Nd.val)) := by
  have e : needsK r r.vars.length = r.needs := by
    unfold needsK Rc.needs
    rw [List.take_length]
  have hl := needsK_len h r.vars.length
  rw [e] at hl
  have hv := h.v40
  have hc3 := h.c3
  have h2 := shs_map (k := 19) (n := 500) (f := Nd.val) (l := r.needs) fun y hy => by
    obtain ⟨v, hv, h1, h2⟩ := mem_needs hy
    have hs := ups_step h hv _ h2
    have hsh : Sh 18 48 (.tup (y.step.map .int)) := sh_ints (k := 17) (by have : (y.step.length : Int) = _ := hs.len; omega) fun i hi => by have := hs.at_ i hi; omega
    exact (sh_tup (k := 18) (shs_cons (sh_var (by rw [h1]; exact own_ok h hv)) (shs_cons (sh_var (ups_ok h hv _ h2).1) (shs_cons hsh shs_nil)))).mono (Nat.le_refl _) (by omega)
  exact (sh_tup h2).mono (Nat.le_refl _) (by omega)
end K35
end

section
set_option Elab.async false
set_option linter.all false
set_option maxRecDepth 100000
set_option maxHeartbeats 400000
/-! BF: least values by which constraints are kept; all at once, one behind the other. -/
namespace BF
variable {α : Type} [DecidableEq α]
structure C (α : Type) where
  to : α
  fr : α
  wt : Int
def up (p : α → Int) (a : α) (z : Int) : α → Int := fun x => if x = a then z else p x
/-- q keeps all constraints and is b at least -/
structure Feas (cs : List (C α)) (b : Int) (ns : List α) (q : α → Int) : Prop where
  base : ∀ x ∈ ns, b ≤ q x
  keep : ∀ c ∈ cs, q c.fr + c.wt ≤ q c.to
structure Least (cs : List (C α)) (b : Int) (ns : List α) (q : α → Int) : Prop where
  feas : Feas cs b ns q
  le : ∀ r, Feas cs b ns r → ∀ x ∈ ns, q x ≤ r x
theorem Least.same {cs : List (C α)} {b : Int} {ns : List α} {q r : α → Int} (h : Least cs b ns q) (k : Least cs b ns r) : ∀ x ∈ ns, q x = r x := fun x hx => Int.le_antisymm (h.le r k.feas x hx) (k.le q h.feas x hx)
def jstep (p acc : α → Int) (c : C α) : α → Int := up acc c.to (if p c.fr + c.wt > acc c.to then p c.fr + c.wt else acc c.to)
def jac (cs : List (C α)) (p : α → Int) : α → Int := cs.foldl (jstep p) p
def gstep (s : (α → Int) × Bool) (c : C α) : (α → Int) × Bool := if s.1 c.to < s.1 c.fr + c.wt then (up s.1 c.to (s.1 c.fr + c.wt), false) else s
def gs (cs : List (C α)) (p : α → Int) : (α → Int) × Bool := cs.foldl gstep (p, true)
theorem jstep_ge (p acc : α → Int) (c : C α) (x : α) : acc x ≤ jstep p acc c x := by
  unfold jstep up
  split
  · rename_i h; subst h; split <;> omega
  · exact Int.le_refl _
theorem jstep_at (p acc : α → Int) (c : C α) : p c.fr + c.wt ≤ jstep p acc c c.to := by
  unfold jstep up
  rw [if_pos rfl]
  split <;> omega
theorem jfold_ge (p : α → Int) (x : α) : ∀ (cs : List (C α)) (acc : α → Int), acc x ≤ cs.foldl (jstep p) acc x
  | [], acc => Int.le_refl _
  | c :: cs, acc => Int.le_trans (jstep_ge p acc c x) (jfold_ge p x cs (jstep p acc c))
theorem jfold_at (p : α → Int) : ∀ (cs : List (C α)) (acc : α → Int), ∀ c ∈ cs, p c.fr + c.wt ≤ cs.foldl (jstep p) acc c.to
  | [], _, _, h => nomatch h
  | c :: cs, acc, d, h => by
    rcases List.mem_cons.mp h with rfl | h
    · exact Int.le_trans (jstep_at p acc d) (jfold_ge p d.to cs _)
    · exact jfold_at p cs (jstep p acc c) d h
theorem jfold_le {p q : α → Int} {ns : List α} (hp : ∀ x ∈ ns, p x ≤ q x) : ∀ (cs : List (C α)) (acc : α → Int), (∀ c ∈ cs, c.to ∈ ns ∧ c.fr ∈ ns ∧ q c.fr + c.wt ≤ q c.to) → (∀ x ∈ ns, acc x ≤ q x) → ∀ x ∈ ns, cs.foldl (jstep p) acc x ≤ q x
  | [], acc, _, ha => ha
  | c :: cs, acc, hc, ha => by
    refine jfold_le hp cs (jstep p acc c) (fun d hd => hc d (List.mem_cons_of_mem _ hd)) fun x hx => ?_
    obtain ⟨h1, h2, h3⟩ := hc c List.mem_cons_self
    have := hp c.fr h2
    have := ha x hx
    unfold jstep up
    split
    · rename_i h; subst h; split <;> omega
    · exact ha x hx
theorem jac_ge (cs : List (C α)) (p : α → Int) (x : α) : p x ≤ jac cs p x := jfold_ge p x cs p
theorem jac_at {cs : List (C α)} (p : α → Int) {c : C α} (h : c ∈ cs) : p c.fr + c.wt ≤ jac cs p c.to := jfold_at p cs p c h
def In (cs : List (C α)) (ns : List α) : Prop := ∀ c ∈ cs, c.to ∈ ns ∧ c.fr ∈ ns
theorem jac_le {cs : List (C α)} {b : Int} {ns : List α} {p q : α → Int} (hi : In cs ns) (hq : Feas cs b ns q) (hp : ∀ x ∈ ns, p x ≤ q x) : ∀ x ∈ ns, jac cs p x ≤ q x :=
  jfold_le hp cs p (fun c hc => ⟨(hi c hc).1, (hi c hc).2, hq.keep c hc⟩) hp
/-! how many are still below -/
def below (ns : List α) (p q : α → Int) : Nat := (ns.filter fun x => decide (p x < q x)).length
theorem filter_le {P Q : α → Bool} : ∀ {l : List α}, (∀ a ∈ l, P a = true → Q a = true) → (l.filter P).length ≤ (l.filter Q).length
  | [], _ => Nat.le_refl _
  | a :: l, h => by
    have i1 := filter_le fun b hb => h b (List.mem_cons_of_mem a hb)
    by_cases hp : P a = true
    · have hq := h a List.mem_cons_self hp
      rw [List.filter_cons_of_pos hp, List.filter_cons_of_pos hq]
      simp only [List.length_cons]
      omega
    · rw [List.filter_cons_of_neg hp]
      by_cases hq : Q a = true
      · rw [List.filter_cons_of_pos hq, List.length_cons]; omega
      · rw [List.filter_cons_of_neg hq]; exact i1
theorem filter_same {P Q : α → Bool} : ∀ {l : List α}, (∀ a ∈ l, P a = true → Q a = true) → (l.filter Q).length ≤ (l.filter P).length → ∀ a ∈ l, Q a = true → P a = true
  | [], _, _, _, h, _ => nomatch h
  | a :: l, h, hl, x, hx, hq => by
    have mono : ∀ l : List α, (∀ a ∈ l, P a = true → Q a = true) → (l.filter P).length ≤ (l.filter Q).length := by
      intro l
      induction l with
      | nil => intro _; exact Nat.le_refl _
      | cons a l ih =>
        intro h
        have i1 := ih fun b hb => h b (List.mem_cons_of_mem _ hb)
        by_cases hp : P a = true
        · have hq := h a List.mem_cons_self hp
          rw [List.filter_cons_of_pos hp, List.filter_cons_of_pos hq]
          simp only [List.length_cons]
          omega
        · rw [List.filter_cons_of_neg hp]
          by_cases hq : Q a = true
          · rw [List.filter_cons_of_pos hq, List.length_cons]; omega
          · rw [List.filter_cons_of_neg hq]; exact i1
    have hr := fun b hb => h b (List.mem_cons_of_mem a hb)
    have m := mono l hr
    by_cases hp : P a = true
    · have hqa := h a List.mem_cons_self hp
      rw [List.filter_cons_of_pos hp, List.filter_cons_of_pos hqa] at hl
      simp only [List.length_cons] at hl
      rcases List.mem_cons.mp hx with rfl | hx
      · exact hp
      · exact filter_same hr (by omega) x hx hq
    · rw [List.filter_cons_of_neg hp] at hl
      by_cases hqa : Q a = true
      · rw [List.filter_cons_of_pos hqa, List.length_cons] at hl
        omega
      · rw [List.filter_cons_of_neg hqa] at hl
        rcases List.mem_cons.mp hx with rfl | hx
        · exact absurd hq hqa
        · exact filter_same hr hl x hx hq
theorem sum_lt {f g : α → Nat} : ∀ {l : List α}, (∀ a ∈ l, f a ≤ g a) → (∃ a ∈ l, f a < g a) → (l.map f).sum < (l.map g).sum
  | [], _, ⟨_, h, _⟩ => nomatch h
  | a :: l, h, ⟨x, hx, hlt⟩ => by
    have le : ∀ l : List α, (∀ a ∈ l, f a ≤ g a) → (l.map f).sum ≤ (l.map g).sum := by
      intro l
      induction l with
      | nil => intro _; exact Nat.le_refl _
      | cons a l ih =>
        intro h
        have := ih fun b hb => h b (List.mem_cons_of_mem _ hb)
        have := h a List.mem_cons_self
        simp only [List.map_cons, List.sum_cons]
        omega
    have h0 := h a List.mem_cons_self
    have hr := fun b hb => h b (List.mem_cons_of_mem a hb)
    have h1 := le l hr
    simp only [List.map_cons, List.sum_cons]
    rcases List.mem_cons.mp hx with rfl | hx
    · omega
    · have := sum_lt hr ⟨x, hx, hlt⟩
      omega
def far (b : Int) (ns : List α) (q : α → Int) : Nat := (ns.map fun x => (q x - b).toNat).sum
theorem ex_min {β : Type} {P : β → Prop} (f : β → Nat) (h : ∃ x, P x) : ∃ x, P x ∧ ∀ y, P y → f x ≤ f y := by
  obtain ⟨x, hx⟩ := h
  have : ∀ n x, f x = n → P x → ∃ x, P x ∧ ∀ y, P y → f x ≤ f y := by
    intro n
    induction n using Nat.strongRecOn with
    | _ n ih =>
      intro x hn hx
      by_cases hy : ∃ y, P y ∧ f y < f x
      · obtain ⟨y, py, hy⟩ := hy
        exact ih (f y) (by omega) y rfl py
      · refine ⟨x, hx, fun y py => ?_⟩
        by_cases h : f x ≤ f y
        · exact h
        · exact absurd ⟨y, py, by omega⟩ hy
  exact this _ x rfl hx
/-- below a least one, each turn brings one more up -/
theorem below_lt {cs : List (C α)} {b : Int} {ns : List α} {p q : α → Int} (hi : In cs ns) (hq : Feas cs b ns q) (hm : ∀ r, Feas cs b ns r → far b ns q ≤ far b ns r) (hb : ∀ x ∈ ns, b ≤ p x) (hp : ∀ x ∈ ns, p x ≤ q x) (h0 : below ns p q ≠ 0) : below ns (jac cs p) q < below ns p q := by
  by_cases hlt : below ns (jac cs p) q < below ns p q
  · exact hlt
  · exfalso
    have same : ∀ x ∈ ns, p x < q x → jac cs p x < q x := by
      intro x hx h
      have := filter_same (P := fun x => decide (jac cs p x < q x)) (Q := fun x => decide (p x < q x)) (l := ns) (fun a ha h => by
        have := of_decide_eq_true h
        have := jac_ge cs p a
        exact decide_eq_true (by omega)) (by unfold below at hlt; omega) x hx (decide_eq_true h)
      exact of_decide_eq_true this
    have hne : ∃ x ∈ ns, p x < q x := by
      cases e : ns.filter fun x => decide (p x < q x) with
      | nil => exact absurd (by unfold below; rw [e]; rfl) h0
      | cons a l =>
        have : a ∈ ns.filter fun x => decide (p x < q x) := by rw [e]; exact List.mem_cons_self
        have := List.mem_filter.mp this
        exact ⟨a, this.1, of_decide_eq_true this.2⟩
    let r : α → Int := fun x => if x ∈ ns ∧ p x < q x then q x - 1 else q x
    have rin : ∀ x, x ∈ ns → p x < q x → r x = q x - 1 := fun x h1 h2 => if_pos ⟨h1, h2⟩
    have rout : ∀ x, ¬ (p x < q x) → r x = q x := fun x h => if_neg fun z => h z.2
    have hr : Feas cs b ns r := by
      refine ⟨fun x hx => ?_, fun c hc => ?_⟩
      · by_cases h : p x < q x
        · rw [rin x hx h]; have := hb x hx; omega
        · rw [rout x h]; exact hq.base x hx
      · obtain ⟨h1, h2⟩ := hi c hc
        have hk := hq.keep c hc
        by_cases ht : p c.to < q c.to
        · rw [rin _ h1 ht]
          by_cases hf : p c.fr < q c.fr
          · rw [rin _ h2 hf]; omega
          · rw [rout _ hf]
            have e1 := jac_at p hc
            have e2 := same c.to h1 ht
            have e3 := hp c.fr h2
            omega
        · rw [rout _ ht]
          by_cases hf : p c.fr < q c.fr
          · rw [rin _ h2 hf]; omega
          · rw [rout _ hf]; exact hk
    have := hm r hr
    obtain ⟨a, ha, hlt2⟩ := hne
    have hs : far b ns r < far b ns q := sum_lt (fun x hx => by
      by_cases h : p x < q x
      · rw [rin x hx h]; omega
      · rw [rout x h]; exact Nat.le_refl _) ⟨a, ha, by
      rw [rin a ha hlt2]
      have := hb a ha
      omega⟩
    omega
theorem below_zero {ns : List α} {p q : α → Int} (hp : ∀ x ∈ ns, p x ≤ q x) (h : below ns p q = 0) : ∀ x ∈ ns, p x = q x := by
  intro x hx
  by_cases hlt : p x < q x
  · have hm : x ∈ ns.filter fun x => decide (p x < q x) := List.mem_filter.mpr ⟨hx, decide_eq_true hlt⟩
    rw [List.length_eq_zero_iff.mp h] at hm
    cases hm
  · have := hp x hx
    omega
/-! all at once -/
def jrun (cs : List (C α)) (ns : List α) : Nat → (α → Int) → Option (α → Int)
  | 0, _ => none
  | n + 1, p => if (ns.all fun x => decide (jac cs p x = p x)) = true then some p else jrun cs ns n (jac cs p)
theorem jrun_none {cs : List (C α)} {b : Int} {ns : List α} (hi : In cs ns) : ∀ (n : Nat) (p l : α → Int), (∀ x ∈ ns, b ≤ p x) → (∀ r, Feas cs b ns r → ∀ x ∈ ns, p x ≤ r x) → jrun cs ns n p = some l → Least cs b ns l
  | 0, _, _, _, _, h => by cases h
  | n + 1, p, l, hb, hle, h => by
    unfold jrun at h
    split at h
    · rename_i hall
      cases h
      have same : ∀ x ∈ ns, jac cs p x = p x := fun x hx => of_decide_eq_true (List.all_eq_true.mp hall x hx)
      refine ⟨⟨hb, fun c hc => ?_⟩, hle⟩
      have := jac_at p hc
      rw [same _ (hi c hc).1] at this
      exact this
    · exact jrun_none hi n (jac cs p) l (fun x hx => Int.le_trans (hb x hx) (jac_ge cs p x)) (fun r hr => jac_le hi hr (hle r hr)) h
theorem jrun_some {cs : List (C α)} {b : Int} {ns : List α} {q : α → Int} (hi : In cs ns) (hq : Feas cs b ns q) (hm : ∀ r, Feas cs b ns r → far b ns q ≤ far b ns r) : ∀ (n : Nat) (p : α → Int), (∀ x ∈ ns, b ≤ p x) → (∀ x ∈ ns, p x ≤ q x) → below ns p q ≤ n → ∃ l, jrun cs ns (n + 1) p = some l
  | n, p, hb, hp, hn => by
    unfold jrun
    by_cases hall : (ns.all fun x => decide (jac cs p x = p x)) = true
    · rw [if_pos hall]; exact ⟨p, rfl⟩
    · rw [if_neg hall]
      by_cases h0 : below ns p q = 0
      · exfalso
        apply hall
        rw [List.all_eq_true]
        intro x hx
        have e1 := below_zero hp h0 x hx
        have e2 := jac_le hi hq hp x hx
        have e3 := jac_ge cs p x
        exact decide_eq_true (by omega)
      · have := below_lt hi hq hm hb hp h0
        cases n with
        | zero => omega
        | succ n => exact jrun_some hi hq hm n (jac cs p) (fun x hx => Int.le_trans (hb x hx) (jac_ge cs p x)) (jac_le hi hq hp) (by omega)
theorem below_le {ns : List α} {p q : α → Int} : below ns p q ≤ ns.length := List.length_filter_le ..
/-- what it comes to -/
theorem jrun_spec {cs : List (C α)} {b : Int} {ns : List α} (hi : In cs ns) : (∀ l, jrun cs ns (ns.length + 1) (fun _ => b) = some l → Least cs b ns l) ∧ ((∃ q, Feas cs b ns q) → ∃ l, jrun cs ns (ns.length + 1) (fun _ => b) = some l) := by
  refine ⟨fun l h => jrun_none hi _ _ l (fun _ _ => Int.le_refl _) (fun r hr x hx => hr.base x hx) h, fun h => ?_⟩
  obtain ⟨q, hq, hm⟩ := ex_min (far b ns) h
  exact jrun_some hi hq hm _ _ (fun _ _ => Int.le_refl _) (fun x hx => hq.base x hx) below_le
/-! one behind the other -/
theorem gstep_ge (s : (α → Int) × Bool) (c : C α) (x : α) : s.1 x ≤ (gstep s c).1 x := by
  unfold gstep
  split
  · show _ ≤ up s.1 c.to (s.1 c.fr + c.wt) x
    unfold up
    split
    · rename_i h; subst h; omega
    · exact Int.le_refl _
  · exact Int.le_refl _
theorem gfold_ge (x : α) : ∀ (cs : List (C α)) (s : (α → Int) × Bool), s.1 x ≤ (cs.foldl gstep s).1 x
  | [], s => Int.le_refl _
  | c :: cs, s => Int.le_trans (gstep_ge s c x) (gfold_ge x cs (gstep s c))
theorem gfold_false : ∀ (cs : List (C α)) (p : α → Int), (cs.foldl gstep (p, false)).2 = false
  | [], p => rfl
  | c :: cs, p => by
    rw [List.foldl_cons]
    unfold gstep
    split
    · exact gfold_false cs _
    · exact gfold_false cs _
theorem gfold_true : ∀ (cs : List (C α)) (p : α → Int), (cs.foldl gstep (p, true)).2 = true → cs.foldl gstep (p, true) = (p, true) ∧ ∀ c ∈ cs, p c.fr + c.wt ≤ p c.to
  | [], p, _ => ⟨rfl, fun _ h => nomatch h⟩
  | c :: cs, p, h => by
    rw [List.foldl_cons] at h ⊢
    unfold gstep at h ⊢
    by_cases hc : p c.to < p c.fr + c.wt
    · simp only [if_pos hc] at h
      have := gfold_false cs (up p c.to (p c.fr + c.wt))
      unfold gstep at this
      rw [this] at h
      cases h
    · simp only [if_neg hc] at h ⊢
      obtain ⟨h1, h2⟩ := gfold_true cs p h
      refine ⟨h1, fun d hd => ?_⟩
      rcases List.mem_cons.mp hd with rfl | hd
      · omega
      · exact h2 d hd
theorem gfold_keep : ∀ (cs : List (C α)) (p : α → Int), (∀ c ∈ cs, p c.fr + c.wt ≤ p c.to) → cs.foldl gstep (p, true) = (p, true)
  | [], p, _ => rfl
  | c :: cs, p, h => by
    have hc := h c List.mem_cons_self
    rw [List.foldl_cons]
    have : gstep (p, true) c = (p, true) := if_neg (by show ¬ p c.to < p c.fr + c.wt; omega)
    rw [this]
    exact gfold_keep cs p fun d hd => h d (List.mem_cons_of_mem _ hd)
theorem gfold_le {q : α → Int} {ns : List α} : ∀ (cs : List (C α)) (s : (α → Int) × Bool), (∀ c ∈ cs, c.to ∈ ns ∧ c.fr ∈ ns ∧ q c.fr + c.wt ≤ q c.to) → (∀ x ∈ ns, s.1 x ≤ q x) → ∀ x ∈ ns, (cs.foldl gstep s).1 x ≤ q x
  | [], s, _, h => h
  | c :: cs, s, hc, h => by
    refine gfold_le cs (gstep s c) (fun d hd => hc d (List.mem_cons_of_mem _ hd)) fun x hx => ?_
    obtain ⟨h1, h2, h3⟩ := hc c List.mem_cons_self
    have e1 := h c.fr h2
    unfold gstep
    split
    · show up s.1 c.to (s.1 c.fr + c.wt) x ≤ q x
      unfold up
      split
      · rename_i e; subst e; omega
      · exact h x hx
    · exact h x hx
theorem jg_le (p : α → Int) : ∀ (cs : List (C α)) (a : α → Int) (s : (α → Int) × Bool), (∀ x, a x ≤ s.1 x) → (∀ x, p x ≤ s.1 x) → ∀ x, cs.foldl (jstep p) a x ≤ (cs.foldl gstep s).1 x
  | [], a, s, h, _ => h
  | c :: cs, a, s, h, hp => by
    refine jg_le p cs (jstep p a c) (gstep s c) (fun x => ?_) fun x => Int.le_trans (hp x) (gstep_ge s c x)
    have e1 := hp c.fr
    have e2 := h c.to
    unfold jstep up gstep
    by_cases hx : x = c.to
    · subst hx
      rw [if_pos rfl]
      by_cases hc : s.1 c.to < s.1 c.fr + c.wt
      · rw [if_pos hc]
        show _ ≤ up s.1 c.to (s.1 c.fr + c.wt) c.to
        unfold up
        rw [if_pos rfl]
        split <;> omega
      · rw [if_neg hc]
        split <;> omega
    · rw [if_neg hx]
      by_cases hc : s.1 c.to < s.1 c.fr + c.wt
      · rw [if_pos hc]
        show _ ≤ up s.1 c.to (s.1 c.fr + c.wt) x
        unfold up
        rw [if_neg hx]
        exact h x
      · rw [if_neg hc]; exact h x
def grun (cs : List (C α)) : Nat → (α → Int) → Option (α → Int)
  | 0, _ => none
  | n + 1, p => if (gs cs p).2 = true then some (gs cs p).1 else grun cs n (gs cs p).1
theorem grun_none {cs : List (C α)} {b : Int} {ns : List α} (hi : In cs ns) : ∀ (n : Nat) (p l : α → Int), (∀ x ∈ ns, b ≤ p x) → (∀ r, Feas cs b ns r → ∀ x ∈ ns, p x ≤ r x) → grun cs n p = some l → Least cs b ns l
  | 0, _, _, _, _, h => by cases h
  | n + 1, p, l, hb, hle, h => by
    unfold grun at h
    split at h
    · rename_i hall
      cases h
      obtain ⟨h1, h2⟩ := gfold_true cs p hall
      have e : (gs cs p).1 = p := by unfold gs; rw [h1]
      rw [e]
      exact ⟨⟨hb, h2⟩, hle⟩
    · exact grun_none hi n _ l (fun x hx => Int.le_trans (hb x hx) (gfold_ge x cs _)) (fun r hr => gfold_le cs _ (fun c hc => ⟨(hi c hc).1, (hi c hc).2, hr.keep c hc⟩) (hle r hr)) h
theorem grun_some {cs : List (C α)} {b : Int} {ns : List α} {q : α → Int} (hi : In cs ns) (hq : Feas cs b ns q) (hm : ∀ r, Feas cs b ns r → far b ns q ≤ far b ns r) : ∀ (n : Nat) (p : α → Int), (∀ x ∈ ns, b ≤ p x) → (∀ x ∈ ns, p x ≤ q x) → below ns p q ≤ n → ∃ l, grun cs (n + 1) p = some l
  | n, p, hb, hp, hn => by
    unfold grun
    by_cases hall : (gs cs p).2 = true
    · rw [if_pos hall]; exact ⟨_, rfl⟩
    · rw [if_neg hall]
      have hge : ∀ x, p x ≤ (gs cs p).1 x := fun x => gfold_ge x cs _
      have hle : ∀ x ∈ ns, (gs cs p).1 x ≤ q x := gfold_le cs _ (fun c hc => ⟨(hi c hc).1, (hi c hc).2, hq.keep c hc⟩) hp
      by_cases h0 : below ns p q = 0
      · exfalso
        apply hall
        have e := below_zero hp h0
        unfold gs
        rw [gfold_keep cs p fun c hc => by
          rw [e _ (hi c hc).1, e _ (hi c hc).2]
          exact hq.keep c hc]
      · have h1 := below_lt hi hq hm hb hp h0
        have h2 : below ns (gs cs p).1 q ≤ below ns (jac cs p) q := by
          unfold below
          have hj : ∀ x, jac cs p x ≤ (gs cs p).1 x := jg_le p cs p (p, true) (fun x => Int.le_refl _) (fun x => Int.le_refl _)
          exact filter_le fun a _ h => by
            have h3 := of_decide_eq_true h
            have h4 := hj a
            exact decide_eq_true (by omega)
        cases n with
        | zero => omega
        | succ n => exact grun_some hi hq hm n _ (fun x hx => Int.le_trans (hb x hx) (hge x)) hle (by omega)
theorem grun_spec {cs : List (C α)} {b : Int} {ns : List α} (hi : In cs ns) : (∀ l, grun cs (ns.length + 1) (fun _ => b) = some l → Least cs b ns l) ∧ ((∃ q, Feas cs b ns q) → ∃ l, grun cs (ns.length + 1) (fun _ => b) = some l) := by
  refine ⟨fun l h => grun_none hi _ _ l (fun _ _ => Int.le_refl _) (fun r hr x hx => hr.base x hx) h, fun h => ?_⟩
  obtain ⟨q, hq, hm⟩ := ex_min (far b ns) h
  exact grun_some hi hq hm _ _ (fun _ _ => Int.le_refl _) (fun x hx => hq.base x hx) below_le
end BF
end

section
set_option Elab.async false
set_option linter.all false
set_option maxRecDepth 100000
set_option maxHeartbeats 400000
namespace L3
open PySem PySem.Spec PyProof.Rows L2
/-! ### dicts by texts, of ints -/
def dkP (ns : List Str) (p : Str → Int) : List (Key × Val) := ns.map fun x => ((Sum.inr x : Key), Val.int (p x))
theorem dkP_length {ns : List Str} {p : Str → Int} : (dkP ns p).length = ns.length := by simp [dkP]
theorem valD_dkP {p : Str → Int} {x : Str} : ∀ {ns : List Str}, x ∈ ns → valD (dkP ns p) (.inr x) = some (.int (p x))
  | [], h => nomatch h
  | a :: ns, h => by
    unfold dkP valD
    rw [List.map_cons, List.find?_cons]
    by_cases e : a = x
    · subst e; simp
    · have hx := (List.mem_cons.mp h).resolve_left fun q => e q.symm
      have := valD_dkP (p := p) hx
      unfold dkP valD at this
      have ne : decide ((Sum.inr a : Key) = Sum.inr x) = false := decide_eq_false fun q => e (Sum.inr.inj q)
      rw [ne]
      exact this
theorem putD_dkP {ns : List Str} {p : Str → Int} {x : Str} {z : Int} (h : x ∈ ns) : putD (dkP ns p) (.inr x) (.int z) = dkP ns (BF.up p x z) := by
  have hany : ((dkP ns p).any fun kv => decide (kv.1 = (Sum.inr x : Key))) = true := by
    rw [List.any_eq_true]
    exact ⟨(.inr x, .int (p x)), List.mem_map.mpr ⟨x, h, rfl⟩, decide_eq_true rfl⟩
  unfold putD
  rw [if_pos hany]
  unfold dkP
  rw [List.map_map]
  refine List.map_congr_left fun a _ => ?_
  show (if (Sum.inr a : Key) = Sum.inr x then _ else _) = _
  unfold BF.up
  by_cases e : a = x
  · subst e; simp
  · have : ¬ (Sum.inr a : Key) = Sum.inr x := fun q => e (Sum.inr.inj q)
    simp [e, this]
theorem dkOf_at {st : Sto} {n : Nat} {l : List (Key × Val)} (h : st[n]? = some (.dk l)) : dkOf st (.loc n) = some l := by
  simp [dkOf, h]
theorem dgetM_dkP {st : Sto} {n : Nat} {ns : List Str} {p : Str → Int} {x : Str} (h : st[n]? = some (.dk (dkP ns p))) (hx : x ∈ ns) : dgetM (.loc n) (.str x) st = .ok (.int (p x)) st := by
  unfold dgetM
  rw [dkOf_at h]
  simp only [keyV, valD_dkP hx]
theorem setKM_dkP {st : Sto} {n : Nat} {ns : List Str} {p : Str → Int} {x : Str} {z : Int} (h : st[n]? = some (.dk (dkP ns p))) (hx : x ∈ ns) (hl : ns.length ≤ 1000) : setKM (.loc n) (.str x) (.int z) st = .ok () (st.set n (.dk (dkP ns (BF.up p x z)))) := by
  unfold setKM
  simp only [keyV, dkOf_at h]
  rw [if_pos (by rw [dkP_length]; exact Nat.lt_of_lt_of_le (by omega : ns.length < 100000) line_big), putD_dkP hx]
theorem lenDM_at {st : Sto} {n : Nat} {l : List (Key × Val)} (h : st[n]? = some (.dk l)) : lenDM [.loc n] st = .ok (.int l.length) st := by
  unfold lenDM
  simp only [dkOf_at h]
theorem dictDM_at {st : Sto} {n : Nat} {l : List (Key × Val)} (h : st[n]? = some (.dk l)) : dictDM [.loc n] st = .ok (.loc st.length) (st ++ [.dk l]) := by
  unfold dictDM
  simp only [dkOf_at h]
theorem flD_dkP {p : Str → Int} : ∀ {ns : List Str}, flD (dkP ns p) = some (ns.map fun x => ((Sum.inr x : Key), V.int (p x)))
  | [] => rfl
  | a :: ns => by
    have := flD_dkP (p := p) (ns := ns)
    unfold dkP at this ⊢
    rw [List.map_cons, flD, this]
    rfl
theorem valV_ints {p : Str → Int} {x : Str} : ∀ {ns : List Str}, x ∈ ns → valV (ns.map fun x => ((Sum.inr x : Key), V.int (p x))) (.inr x) = some (.int (p x))
  | [], h => nomatch h
  | a :: ns, h => by
    rw [List.map_cons]
    by_cases e : a = x
    · subst e; exact valV_pos rfl
    · have hx := (List.mem_cons.mp h).resolve_left fun q => e q.symm
      rw [valV_neg (fun q => e (Sum.inr.inj q))]
      exact valV_ints hx
theorem eqDM_dkP {st : Sto} {n m : Nat} {ns : List Str} {p q : Str → Int} (h1 : st[n]? = some (.dk (dkP ns p))) (h2 : st[m]? = some (.dk (dkP ns q))) : eqDM (.loc n) (.loc m) st = .ok (.bl (ns.all fun x => decide (p x = q x))) st := by
  unfold eqDM
  rw [dkOf_at h1, dkOf_at h2]
  simp only [Option.bind_some, flD_dkP]
  have : eqDV (ns.map fun x => ((Sum.inr x : Key), V.int (p x))) (ns.map fun x => ((Sum.inr x : Key), V.int (q x))) = ns.all fun x => decide (p x = q x) := by
    unfold eqDV
    rw [List.length_map, List.length_map, beq_self_eq_true, Bool.true_and, List.all_map]
    rw [Bool.eq_iff_iff, List.all_eq_true, List.all_eq_true]
    constructor
    · intro h x hx
      have := h x hx
      simp only [Function.comp, valV_ints hx, eqV] at this
      simpa using this
    · intro h x hx
      have := h x hx
      simp only [Function.comp, valV_ints hx, eqV]
      simpa using this
  rw [this]
/-- unlike keys, one behind the other -/
theorem putD_new {l : List (Key × Val)} {k : Key} {v : Val} (h : k ∉ l.map (·.1)) : putD l k v = l ++ [(k, v)] := by
  unfold putD
  rw [if_neg]
  intro q
  obtain ⟨kv, h1, h2⟩ := List.any_eq_true.mp q
  exact h (List.mem_map.mpr ⟨kv, h1, of_decide_eq_true h2⟩)
theorem mergeD_new : ∀ {more l : List (Key × Val)}, ((l ++ more).map (·.1)).Nodup → mergeD l more = l ++ more
  | [], l, _ => (List.append_nil l).symm
  | kv :: more, l, h => by
    have hn : kv.1 ∉ l.map (·.1) := fun q => by
      rw [List.map_append, List.nodup_append] at h
      exact h.2.2 _ q _ (by simp) rfl
    show mergeD (putD l kv.1 kv.2) more = _
    rw [putD_new hn, mergeD_new (by rw [List.append_assoc]; exact h), List.append_assoc]
    rfl
theorem dcGo_new {keep : Sto → Prop} {g : MG} {mk mv : ME} {σ0 : L3.Env} {st : Sto} (f : Val → Key) (v : Val → Val) (hk : keep st) : ∀ (l : List Val) (acc : List (Key × Val)), (∀ u ∈ l, ∃ σ1 kv, g u σ0 st = .ok σ1 st ∧ mk σ1 st = .ok kv st ∧ keyV kv = some (f u) ∧ mv σ1 st = .ok (v u) st) →
    (acc.map (·.1) ++ l.map f).Nodup → acc.length + l.length ≤ 100000 → dcGo keep g mYes mk mv σ0 l acc st = .ok (acc ++ l.map fun u => (f u, v u)) st
  | [], acc, _, _, _ => by
    unfold dcGo
    rw [if_pos hk]
    simp
  | u :: l, acc, h, hn, hz => by
    obtain ⟨σ1, kv, h1, h2, h3, h4⟩ := h u List.mem_cons_self
    rw [List.length_cons] at hz
    have hno : f u ∉ acc.map (·.1) := fun q => (List.nodup_append.mp hn).2.2 _ q _ (by simp) rfl
    unfold dcGo
    rw [if_pos hk, h1, Res.calm_ok]
    show Res.calm (.ok true st) _ = _
    rw [Res.calm_ok, if_pos rfl, h2, Res.calm_ok, h4, Res.calm_ok, h3]
    show (if acc.length < sizeLine then _ else _) = _
    rw [if_pos (Nat.lt_of_lt_of_le (by omega) line_big), putD_new hno, dcGo_new f v hk l _ (fun w hw => h w (List.mem_cons_of_mem _ hw)) (by rw [List.map_append, List.append_assoc]; exact hn) (by rw [List.length_append, List.length_singleton]; omega), List.append_assoc]
    rfl
@[simp] theorem gIxK_s (mo mi : ME) {v} {σ} {st} : gIxK mo mi v σ st = (mo σ st).bind fun o st1 => (mi σ st1).bind fun i st2 => (setKM o i v st2).bind fun _ st3 => .ok σ st3 := rfl
@[simp] theorem mNewK_s {σ} {st} : mNewK σ st = .ok (.loc st.length) (st ++ [.dk []]) := rfl
@[simp] theorem mDc_s (mi : MI) (g : MG) (c : MT) (mk mv : ME) (vs : List Nat) {σ} {st} : mDc mi g c mk mv vs σ st = (mi σ st).bind fun p st1 => (dcGo p.2 g c mk mv (wipeE σ vs) p.1 [] st1).bind fun l st2 => .ok (.loc st2.length) (st2 ++ [.dk l]) := rfl
@[simp] theorem reprAM_tup {l : List Val} {st : Sto} : reprAM [.tup l] st = reprM [.tup l] st := rfl
@[simp] theorem reprAM_non {st : Sto} : reprAM [.non] st = .ok (.str "None") st := rfl
end L3
namespace K35
open PySem PySem.Spec PyProof.Rows L2 L3
def dot (v s : List Int) : Int := ((v.zip s).map fun p => p.1 * p.2).sum
def low (c v : List Int) : Int := ((v.zip c).map fun p => if p.1 * (p.2 - 1) < 0 then p.1 * (p.2 - 1) else 0).sum
def Small (l : List Int) : Prop := l.length ≤ 3 ∧ ∀ i ∈ l, -10 ≤ i ∧ i ≤ 10
theorem small_mul {a b : Int} {st : Sto} (h1 : -10 ≤ a ∧ a ≤ 10) (h2 : -10 ≤ b ∧ b ≤ 10) : mulV (.int a) (.int b) st = .ok (.int (a * b)) st := by
  have e1 := log2_lt (n := a.natAbs) (k := 10) (by decide) (by omega)
  have e2 := log2_lt (n := b.natAbs) (k := 10) (by decide) (by omega)
  rw [mulV_int, if_pos (by omega)]
theorem zip_val {s c : List Int} : zipL (s.map .int) (c.map .int) = (s.zip c).map fun p => Val.tup [.int p.1, .int p.2] := by
  unfold zipL
  rw [List.zip_map, List.map_map]
  rfl
theorem mem_zip_small {v s : List Int} (hv : Small v) (hs : Small s) {p : Int × Int} (h : p ∈ v.zip s) : (-10 ≤ p.1 ∧ p.1 ≤ 10) ∧ (-10 ≤ p.2 ∧ p.2 ≤ 10) := ⟨hv.2 _ (List.of_mem_zip h).1, hs.2 _ (List.of_mem_zip h).2⟩
theorem dot_go {keep : Sto → Prop} {v s : List Int} {st : Sto} (hk : keep st) {σ0 : L3.Env} (hv : Small v) (hs : Small s) (hi : ∀ a b : Val, ((σ0.set 2 (some a)).set 3 (some b))[2]? = some (some a)) (hj : ∀ a b : Val, ((σ0.set 2 (some a)).set 3 (some b))[3]? = some (some b)) :
    lcGo keep (gT 2 (gsCons (gN 2) (gsCons (gN 3) gsNil))) mYes (mOp2 mulV (mVar 2) (mVar 3)) σ0 (zipL (v.map .int) (s.map .int)) [] st = .ok (((v.zip s).map fun p => p.1 * p.2).map .int) st := by
  have k := lcGo_map (keep := keep) (g := gT 2 (gsCons (gN 2) (gsCons (gN 3) gsNil))) (me := mOp2 mulV (mVar 2) (mVar 3)) (σ0 := σ0) (st := st) (fun u => match u with | .tup [.int a, .int b] => .int (a * b) | _ => .non) hk (zipL (v.map .int) (s.map .int)) (fun u hu => by
    rw [zip_val] at hu
    obtain ⟨p, hp, rfl⟩ := List.mem_map.mp hu
    obtain ⟨h1, h2⟩ := mem_zip_small hv hs hp
    refine ⟨(σ0.set 2 (some (.int p.1))).set 3 (some (.int p.2)), rfl, ?_⟩
    simp only [mOp2_s, mVar_s, hi, hj, Res.bind_ok, small_mul h1 h2]) (by
    rw [zip_val, List.length_map, List.length_zip]
    have := hv.1
    exact Nat.le_trans (show min v.length s.length ≤ 100000 by omega) line_big)
  rw [k, zip_val, List.map_map, List.map_map]
  rfl
theorem summed_eq (w : World) {v s : List Int} (hv : Small v) (hs : Small s) (hl : v.length = s.length) (st : Sto) : F_summed w [.tup (v.map .int), .tup (s.map .int)] st = .ok (.int (dot v s)) st := by
  have k := dot_go (keep := fun _ => True) (st := st) trivial (σ0 := [some (.tup (v.map .int)), some (.tup (s.map .int)), none, none]) hv hs (fun a b => rfl) (fun a b => rfl)
  simp only [F_summed, m_summed, runB]
  simp [hl, wipeE, k, sumM, dot, -List.map_map]
theorem low_go {keep : Sto → Prop} {v s : List Int} {st : Sto} (hk : keep st) {σ0 : L3.Env} (hv : Small v) (hs : Small s) (hs2 : ∀ i ∈ s, 1 ≤ i) (hi : ∀ a b : Val, ((σ0.set 2 (some a)).set 3 (some b))[2]? = some (some a)) (hj : ∀ a b : Val, ((σ0.set 2 (some a)).set 3 (some b))[3]? = some (some b)) :
    lcGo keep (gT 2 (gsCons (gN 2) (gsCons (gN 3) gsNil))) mYes (mOps min2M (aCons (mVal (.int 0)) (aCons (mOp2 mulV (mVar 2) (mOp2 subV (mVar 3) (mVal (.int 1)))) aNil))) σ0 (zipL (v.map .int) (s.map .int)) [] st = .ok (((v.zip s).map fun p => if p.1 * (p.2 - 1) < 0 then p.1 * (p.2 - 1) else 0).map .int) st := by
  have k := lcGo_map (keep := keep) (g := gT 2 (gsCons (gN 2) (gsCons (gN 3) gsNil))) (me := mOps min2M (aCons (mVal (.int 0)) (aCons (mOp2 mulV (mVar 2) (mOp2 subV (mVar 3) (mVal (.int 1)))) aNil))) (σ0 := σ0) (st := st) (fun u => match u with | .tup [.int a, .int b] => .int (if a * (b - 1) < 0 then a * (b - 1) else 0) | _ => .non) hk (zipL (v.map .int) (s.map .int)) (fun u hu => by
    rw [zip_val] at hu
    obtain ⟨p, hp, rfl⟩ := List.mem_map.mp hu
    obtain ⟨h1, h2⟩ := mem_zip_small hv hs hp
    have h3 := hs2 _ (List.of_mem_zip hp).2
    refine ⟨(σ0.set 2 (some (.int p.1))).set 3 (some (.int p.2)), rfl, ?_⟩
    simp only [mOps_s, aCons_s, aNil_s, mVal_s, mOp2_s, mVar_s, hi, hj, Res.bind_ok, subV_int, small_mul h1 (show -10 ≤ p.2 - 1 ∧ p.2 - 1 ≤ 10 by omega), min2M_int]) (by
    rw [zip_val, List.length_map, List.length_zip]
    have := hv.1
    exact Nat.le_trans (show min v.length s.length ≤ 100000 by omega) line_big)
  rw [k, zip_val, List.map_map, List.map_map]
  rfl
theorem lowest_eq (w : World) {v c : List Int} (hv : Small v) (hc : Small c) (hc2 : ∀ i ∈ c, 1 ≤ i) (hl : v.length = c.length) (st : Sto) : F_lowest w [.tup (c.map .int), .tup (v.map .int)] st = .ok (.int (low c v)) st := by
  have k := low_go (keep := fun _ => True) (st := st) trivial (σ0 := [some (.tup (c.map .int)), some (.tup (v.map .int)), none, none]) hv hc hc2 (fun a b => rfl) (fun a b => rfl)
  simp only [F_lowest, m_lowest, runB]
  simp [hl, wipeE, k, sumM, low, -List.map_map]
end K35
end

section
set_option Elab.async false
set_option linter.all false
set_option maxRecDepth 100000
set_option maxHeartbeats 400000
namespace K35
open PySem PySem.Spec PyProof.Rows L2 L3
def VecOk (n : Nat) (v : List Int) : Prop := v.length = n ∧ ∀ i ∈ v, -4 ≤ i ∧ i ≤ 4
theorem VecOk.small {n : Nat} {v : List Int} (h : VecOk n v) (hn : n ≤ 3) : Small v := ⟨by rw [h.1]; exact hn, fun i hi => by have := h.2 i hi; omega⟩
def VecQ (st0 : Sto) (k n : Nat) (v : Val) (s : Sto) : Prop := ∃ l : List Int, v = .tup (l.map .int) ∧ VecOk n l ∧ Bud k s ∧ Stay st0 s
theorem vector_spec (w : World) {ns : List Int} (hs : ns.length ≤ 63) {n : Nat} {M : Int} (hM : M = n) (hn : n ≤ 3) {k : Nat} {st : Sto} (hst : Bud (20 + k) st) :
    Wp (F__law_vector w [scr ns, .loc 0, .int M] st) (VecQ st k n) := by
  unfold F__law_vector
  refine wp_runB rfl ?_
  simp [m__law_vector, sizeLine]
  refine wp_draws 1 (17 + k) (fun i => -4 ≤ i ∧ i ≤ 4) (n := n) (by simp [hM]) (by omega) (hst.mono (by omega)) (fun v s => ⟨_, rfl, ?_⟩) fun l1 s1 e1 p1 hb1 hst1 => ?_
  · rintro j rfl hj0 hj1 k' s' hb'
    simp [wipeE]
    refine (drawn_spec w hs (b := 4) (by decide) (k := k') (hb'.mono (by omega))).mono ?_
    rintro _ s4 ⟨a, rfl, a0, a1, hb4, hst4⟩
    exact ⟨_, rfl, ⟨by omega, by omega⟩, hb4, hst4⟩
  refine wp_draws 1 (14 + k) (fun i => -4 ≤ i ∧ i ≤ 4) (n := n) (by simp [hM]) (by omega) (hb1.mono (by omega)) (fun v s => ⟨_, rfl, ?_⟩) fun l2 s2 e2 p2 hb2 hst2 => ?_
  · rintro j rfl hj0 hj1 k' s' hb'
    simp [wipeE]
    refine (drawn_spec w hs (b := 9) (by decide) (k := k') (hb'.mono (by omega))).mono ?_
    rintro _ s4 ⟨a, rfl, a0, a1, hb4, hst4⟩
    exact ⟨_, rfl, ⟨by omega, by omega⟩, hb4, hst4⟩
  have hm : ∀ (z : Int) (s : Sto), mulV (.lst [.int z]) (.int M) s = .ok (.lst ((List.replicate n z).map .int)) s := by
    intro z s
    rw [mulV_lst, if_pos ⟨by omega, by omega, Nat.le_trans (by simp; omega) line_big⟩]
    have : M.toNat = n := by omega
    rw [this]
    simp
  simp [hm, -List.map_replicate]
  refine wp_draws 1 (11 + k) (fun i => -4 ≤ i ∧ i ≤ 4) (n := n) (by simp [hM]) (by omega) (hb2.mono (by omega)) (fun v s => ⟨_, rfl, ?_⟩) fun l3 s3 e3 p3 hb3 hst3 => ?_
  · rintro j rfl hj0 hj1 k' s' hb'
    simp [wipeE]
    refine (drawn_spec w hs (b := 3) (by decide) (k := k') (hb'.mono (by omega))).mono ?_
    rintro _ s4 ⟨a, rfl, a0, a1, hb4, hst4⟩
    exact ⟨_, rfl, ⟨by omega, by omega⟩, hb4, hst4⟩
  simp [hm, addV_lst, sizeLine, -List.map_replicate]
  refine (drawn_spec w hs (b := 8) (by decide) (k := 10 + k) (hb3.mono (by omega))).mono ?_
  rintro _ s4 ⟨d, rfl, hd0, hd1, hb4, hst4⟩
  refine wp_atI hd0 (by simp; omega) fun u hu => ?_
  have hu5 : ∃ z : Int, u = .int z ∧ 0 ≤ z ∧ z < 5 := by
    simp only [List.mem_cons, List.not_mem_nil, or_false] at hu
    rcases hu with e | e | e | e | e | e | e | e
    · exact ⟨0, e, by omega, by omega⟩
    · exact ⟨0, e, by omega, by omega⟩
    · exact ⟨1, e, by omega, by omega⟩
    · exact ⟨2, e, by omega, by omega⟩
    · exact ⟨3, e, by omega, by omega⟩
    · exact ⟨0, e, by omega, by omega⟩
    · exact ⟨1, e, by omega, by omega⟩
    · exact ⟨4, e, by omega, by omega⟩
  obtain ⟨z, rfl, hz0, hz1⟩ := hu5
  rw [Wp_ok]
  refine wp_getL hz0 (by simp; omega) fun u hu => ?_
  have sts : Stay st s4 := ((hst1.trans hst2).trans hst3).trans hst4
  have fin : ∀ l : List Int, l.length = n → (∀ i ∈ l, -4 ≤ i ∧ i ≤ 4) → u = .lst (l.map .int) → Wp (tupM [u] s4) fun v s => VecQ st k n v s := by
    rintro l hl hp rfl
    simp only [tupM_lst, Wp_ok]
    exact ⟨l, rfl, ⟨hl, hp⟩, hb4.mono (by omega), sts⟩
  simp only [List.mem_cons, List.not_mem_nil, or_false] at hu
  rcases hu with e | e | e | e | e
  · exact fin _ e1 p1 e
  · exact fin _ e2 p2 e
  · exact fin _ (by simp) (fun i hi => by rw [List.eq_of_mem_replicate hi]; omega) e
  · exact fin _ e3 p3 e
  · exact fin _ (by simp) (fun i hi => by rw [List.eq_of_mem_replicate hi]; omega) e
theorem is_vector_ok (w : World) {r : Rc} (h : RcOk r) {v : List Int} (hv : VecOk r.counts.length v) (st : Sto) : F_is_vector w [r.val, .tup (v.map .int)] st = .ok (.bl true) st := by
  have hc3 := h.c3
  have hl := hv.1
  have k1 := lcGo_map (keep := always) (g := gN 3) (me := mCall (F_is_whole w) [] (aCons (mVar 3) (aCons (mOp1 negV (mVar 2)) (aCons (mVar 2) aNil)))) (σ0 := [some (.tup (v.map .int)), some (.int v.length), some (.int 4), none]) (st := st) (fun _ => .bl true) trivial (v.map .int) (fun u hu => by
    obtain ⟨i, hi, rfl⟩ := List.mem_map.mp hu
    obtain ⟨a1, a2⟩ := hv.2 i hi
    exact ⟨_, rfl, by simp [is_whole_int, a1, a2]⟩) (by rw [List.length_map]; exact Nat.le_trans (show v.length ≤ 100000 by omega) line_big)
  have e1 : F_is_row_of w [.tup (v.map .int), .int v.length, .int 4] st = .ok (.bl true) st := by
    simp only [F_is_row_of, m_is_row_of, runB]
    simp [wipeE, k1, all_true, -List.map_map]
  simp only [F_is_vector, m_is_vector, runB]
  simp [Rc.val, ← hl, e1]
/-! the constraints -/
def csOf (v : List Int) (l : List Nd) : List (BF.C Str) := l.map fun x => ⟨x.own, x.used, 1 - dot v x.step⟩
def NdIn (ns : List Str) (n : Nat) (x : Nd) : Prop := x.own ∈ ns ∧ x.used ∈ ns ∧ Small x.step ∧ x.step.length = n
theorem moved_spec (w : World) {ns : List Str} (hns : ns.length ≤ 1000) {v : List Int} (hv : Small v) {l : List Nd} (hl : ∀ x ∈ l, NdIn ns v.length x) {p : Str → Int} {a : Nat} {st : Sto} (ha : st[a]? = some (.dk (dkP ns p))) :
    Wp (F_moved_on w [.loc a, .tup (l.map Nd.val), .tup (v.map .int)] st) fun u s => u = .loc st.length ∧ Pre st s ∧ s[st.length]? = some (.dk (dkP ns (BF.jac (csOf v l) p))) := by
  unfold F_moved_on
  refine wp_runB rfl ?_
  simp [m_moved_on, dictDM_at ha]
  refine wp_for (fun q σ s => (∃ σ4 σ5 σ6, σ = [some (.loc a), some (.tup (l.map Nd.val)), some (.tup (v.map .int)), some (.loc st.length), σ4, σ5, σ6]) ∧ Pre st s ∧ s[st.length]? = some (.dk (dkP ns ((csOf v (l.take q.length)).foldl (BF.jstep p) p)))) ⟨⟨_, _, _, rfl⟩, Pre.refl.push, by simp [csOf]⟩ (fun _ _ _ _ => trivial) ?_ ?_
  · rintro q u q2 _ s hL ⟨⟨σ4, σ5, σ6, rfl⟩, hpre, hat⟩
    obtain ⟨x, hx, rfl⟩ : ∃ x, l[q.length]? = some x ∧ u = x.val := by
      have h1 : (l.map Nd.val)[q.length]? = some u := by rw [hL]; simp
      rw [List.getElem?_map] at h1
      obtain ⟨y, e, rfl⟩ := Option.map_eq_some_iff.mp h1
      exact ⟨y, e, rfl⟩
    obtain ⟨h1, h2, h3, h4⟩ := hl x (List.mem_of_getElem? hx)
    have ha2 := hpre.at ha
    have e0 : csOf v (l.take (q ++ [x.val]).length) = csOf v (l.take q.length) ++ [⟨x.own, x.used, 1 - dot v x.step⟩] := by
      rw [List.length_append, List.length_singleton, List.take_add_one, hx]
      simp [csOf]
    rw [e0, List.foldl_append]
    generalize (csOf v (l.take q.length)).foldl (BF.jstep p) p = acc at *
    have g1 := dgetM_dkP hat h1
    have g2 := dgetM_dkP ha2 h2
    have hs := summed_eq w hv h3 h4.symm s
    simp [Nd.val, g1, g2, hs]
    rw [setKM_dkP hat h1 hns]
    simp
    refine ⟨hpre.setN (Nat.le_refl _), ?_⟩
    rw [set_at hat]
    have e1 : p x.used + 1 - dot v x.step = p x.used + (1 - dot v x.step) := by omega
    unfold BF.jstep
    rw [e1]
  · rintro _ s ⟨⟨σ4, σ5, σ6, rfl⟩, hpre, hat⟩
    rw [List.length_map, List.take_length] at hat
    simp
    exact ⟨hpre, hat⟩
end K35
end

section
set_option Elab.async false
set_option linter.all false
set_option maxRecDepth 100000
set_option maxHeartbeats 400000
namespace K35
open PySem PySem.Spec PyProof.Rows L2 L3
def offV (ns : List Str) (l : Str → Int) : Val := .tup (ns.map fun x => .int (l x))
def resV (v : List Int) (ns : List Str) (o : Option (Str → Int)) : Val := match o with
  | none => .non
  | some l => .tup [.tup (v.map .int), offV ns l]
def Rc.cs (r : Rc) (v : List Int) : List (BF.C Str) := csOf v r.needs
def Rc.base (r : Rc) (v : List Int) : Int := 0 - low r.counts v
theorem small_counts {r : Rc} (h : RcOk r) : Small r.counts ∧ ∀ i ∈ r.counts, 1 ≤ i := ⟨⟨h.c3, fun i hi => by have := h.c i hi; omega⟩, fun i hi => (h.c i hi).1⟩
theorem needs_in {r : Rc} (h : RcOk r) : ∀ x ∈ r.needs, NdIn r.names r.counts.length x := by
  intro x hx
  obtain ⟨v, hv, e1, e2⟩ := mem_needs hx
  have hs := ups_step h hv _ e2
  have hc3 := h.c3
  refine ⟨by rw [e1]; exact List.mem_map.mpr ⟨v, hv, rfl⟩, ?_, ⟨by have : (x.step.length : Int) = _ := hs.len; omega, fun i hi => by have := hs.at_ i hi; omega⟩, by have : (x.step.length : Int) = _ := hs.len; omega⟩
  obtain ⟨l, hl, e⟩ := List.mem_filterMap.mp e2
  cases l with
  | use u s nm ps =>
    cases e
    exact (h.va v hv).uses _ _ _ _ hl
  | _ => cases e
def byEnv (r : Rc) (v : List Int) (a : Nat) (σ7 σ8 : Option Val) : L3.Env := [some r.val, some (.tup (v.map .int)), some (.lst (r.names.map .str)), some (.tup (r.needs.map Nd.val)), none, none, some (.loc a), σ7, σ8]
def ByI (st : Sto) (r : Rc) (v : List Int) (o : Option (Str → Int)) (k : Nat) (σ : L3.Env) (s : Sto) : Prop := ∃ a σ7 σ8 p, σ = byEnv r v a σ7 σ8 ∧ Pre st s ∧ s[a]? = some (.dk (dkP r.names p)) ∧ BF.jrun (r.cs v) r.names k p = o
theorem names_len {r : Rc} : r.names.length = r.vars.length := by simp [Rc.names]
theorem off_go (w : World) {r : Rc} (h : RcOk r) {a : Nat} {p : Str → Int} {s : Sto} (hat : s[a]? = some (.dk (dkP r.names p))) {σ0 : L3.Env} (h6 : ∀ u : Val, (σ0.set 4 (some u))[6]? = some (some (.loc a))) (h4 : ∀ u : Val, (σ0.set 4 (some u))[4]? = some (some u)) :
    lcGo always (gN 4) mYes (mOp2 dgetM (mVar 6) (mVar 4)) σ0 (r.names.map .str) [] s = .ok (r.names.map fun x => Val.int (p x)) s := by
  have k := lcGo_map (keep := always) (g := gN 4) (me := mOp2 dgetM (mVar 6) (mVar 4)) (σ0 := σ0) (st := s) (fun u => match u with | .str x => .int (p x) | _ => .non) trivial (r.names.map .str) (fun u hu => by
    obtain ⟨x, hx, rfl⟩ := List.mem_map.mp hu
    refine ⟨_, rfl, ?_⟩
    simp only [mOp2_s, mVar_s, h6, h4, Res.bind_ok, dgetM_dkP hat hx]) (by
    have := h.v40
    rw [List.length_map, names_len]
    exact Nat.le_trans (by omega : r.vars.length ≤ 100000) line_big)
  rw [k, List.map_map]
  rfl
theorem earliest_by_spec (w : World) {r : Rc} (h : RcOk r) {v : List Int} (hv : VecOk r.counts.length v) {st : Sto} :
    Wp (F_earliest_by w [r.val, .tup (v.map .int)] st) fun u s => u = resV v r.names (BF.jrun (r.cs v) r.names (r.names.length + 1) fun _ => r.base v) ∧ Pre st s := by
  have hsv := hv.small h.c3
  have hsc := small_counts h
  have hv40 := h.v40
  have hnl := names_len (r := r)
  unfold F_earliest_by
  refine wp_runB rfl ?_
  simp [m_earliest_by, Rc.val]
  have k1 := lcGo_map (keep := always) (g := gT 2 (gsCons (gN 4) (gsCons (gN 5) gsNil))) (me := mVar 4) (σ0 := [some (.tup [.tup (r.counts.map .int), .tup (r.vars.map vaV)]), some (.tup (v.map .int)), none, none, none, none, none, none, none]) (st := st) (fun u => match u with | .tup [a, _] => a | _ => .non) trivial (r.vars.map vaV) (fun u hu => by
    obtain ⟨p, hp, rfl⟩ := List.mem_map.mp hu
    exact ⟨[some (.tup [.tup (r.counts.map .int), .tup (r.vars.map vaV)]), some (.tup (v.map .int)), none, none, some (.str p.1), some p.2.val, none, none, none], rfl, rfl⟩) (by rw [List.length_map]; exact Nat.le_trans (by omega : r.vars.length ≤ 100000) line_big)
  have e1 : (r.vars.map vaV).map (fun u => match u with | .tup [a, _] => a | _ => Val.non) = r.names.map .str := by
    rw [List.map_map, Rc.names, List.map_map]
    rfl
  rw [e1] at k1
  simp [wipeE, k1]
  refine (needs_by_spec w h).mono ?_
  rintro _ s1 ⟨rfl, hp1⟩
  have k2 := dcGo_new (keep := always) (g := gN 4) (mk := mVar 4) (mv := mOp2 subV (mVal (.int 0)) (mCall (F_lowest w) [] (aCons (mOp2 getM (mVar 0) (mVal (.int 0))) (aCons (mVar 1) aNil)))) (σ0 := [some r.val, some (.tup (v.map .int)), some (.lst (r.names.map .str)), some (.tup (r.needs.map Nd.val)), none, none, none, none, none]) (st := s1) (fun u => match u with | .str x => .inr x | _ => .inl 0) (fun _ => .int (r.base v)) trivial (r.names.map .str) [] (fun u hu => by
    obtain ⟨x, hx, rfl⟩ := List.mem_map.mp hu
    refine ⟨_, .str x, rfl, rfl, rfl, ?_⟩
    simp [Rc.val, lowest_eq w hsv hsc.1 hsc.2 hv.1, Rc.base]) (by
    rw [List.map_nil, List.nil_append, List.map_map]
    exact List.pairwise_map.mpr (h.nd.imp fun hab e => hab (Sum.inr.inj e))) (by rw [List.length_map]; simp; omega)
  have e2 : ([] ++ (r.names.map Val.str).map fun u => (((match u with | .str x => .inr x | _ => .inl 0) : Key), Val.int (r.base v))) = dkP r.names fun _ => r.base v := by
    rw [List.nil_append, List.map_map]
    rfl
  rw [e2] at k2
  simp only [Rc.val] at k2
  rw [k2, Wp_ok]
  refine wp_iR1 (.of (by simp; rfl) ⟨r.names.length + 1, rfl, by omega, ?_⟩)
  generalize ho : BF.jrun (r.cs v) r.names (r.names.length + 1) (fun _ => r.base v) = o
  refine wp_for (fun q σ s => ByI st r v o (r.names.length + 1 - q.length) σ s) ?_ (fun _ _ _ _ => trivial) ?_ ?_
  · exact ⟨s1.length, none, none, _, rfl, hp1.push, by simp, ho⟩
  · rintro q u q2 _ s hL ⟨a, σ7, σ8, p, rfl, hpre, hat, hj⟩
    obtain ⟨rfl, hlt⟩ := rgN_split hL
    generalize ((0 : Int) + ((q.length : Nat) : Int)) = J
    obtain ⟨m, hm⟩ : ∃ m, r.names.length + 1 - q.length = m + 1 := ⟨r.names.length - q.length, by omega⟩
    have hm2 : r.names.length + 1 - (q ++ [Val.int J]).length = m := by simp; omega
    rw [hm2]
    rw [hm] at hj
    unfold BF.jrun at hj
    simp [byEnv]
    refine (moved_spec w (by omega) hsv (fun x hx => by rw [hv.1]; exact needs_in h x hx) hat).mono ?_
    rintro _ s2 ⟨rfl, hp2, hat2⟩
    have hat1 := hp2.at hat
    have he := eqDM_dkP hat2 hat1
    simp [he]
    have ecs : r.cs v = csOf v r.needs := rfl
    rw [ecs] at hj
    by_cases hall : (r.names.all fun x => decide (BF.jac (csOf v r.needs) p x = p x)) = true
    · rw [if_pos hall] at hj
      rw [if_pos (by simpa using hall)]
      have ho2 := off_go w h hat1 (σ0 := [some r.val, some (.tup (v.map .int)), some (.lst (r.names.map .str)), some (.tup (r.needs.map Nd.val)), none, none, some (.loc a), some (.int J), some (.loc s.length)]) (fun u => rfl) (fun u => rfl)
      simp [wipeE, ho2, sizeLine]
      refine ⟨?_, hpre.trans hp2⟩
      rw [← hj]
      rfl
    · rw [if_neg hall] at hj
      rw [if_neg (by simpa using hall)]
      simp
      exact ⟨_, _, _, _, rfl, hpre.trans hp2, hat2, hj⟩
  · rintro _ s ⟨a, σ7, σ8, p, rfl, hpre, hat, hj⟩
    rw [rgN_length, Nat.sub_self] at hj
    simp [byEnv]
    refine ⟨?_, hpre⟩
    rw [← hj]
    rfl
theorem earliest_spec (w : World) {r : Rc} (h : RcOk r) {v : List Int} (hv : VecOk r.counts.length v) {st : Sto} :
    Wp (F_earliest w [r.val, .tup (v.map .int)] st) fun u s => u = resV v r.names (BF.jrun (r.cs v) r.names (r.names.length + 1) fun _ => r.base v) ∧ Pre st s := by
  unfold F_earliest
  refine wp_runB rfl ?_
  simp [m_earliest]
  refine (need_recs_ok w h).mono ?_
  rintro _ s ⟨rfl, hp⟩
  simp [is_vector_ok w h hv]
  refine (earliest_by_spec w h hv).mono ?_
  rintro _ s2 ⟨rfl, hp2⟩
  exact ⟨rfl, hp.trans hp2⟩
end K35
end

section
set_option Elab.async false
set_option linter.all false
set_option maxRecDepth 100000
set_option maxHeartbeats 400000
namespace BF
theorem jfold_bd {α : Type} [DecidableEq α] {p : α → Int} {ns : List α} {B D : Int} (hp : ∀ x ∈ ns, p x ≤ B) (hD : 0 ≤ D) : ∀ (cs : List (C α)) (acc : α → Int), (∀ c ∈ cs, c.fr ∈ ns ∧ c.wt ≤ D) → (∀ x ∈ ns, acc x ≤ B + D) → ∀ x ∈ ns, cs.foldl (jstep p) acc x ≤ B + D
  | [], acc, _, h => h
  | c :: cs, acc, hc, h => by
    refine jfold_bd hp hD cs (jstep p acc c) (fun d hd => hc d (List.mem_cons_of_mem _ hd)) fun x hx => ?_
    obtain ⟨h1, h2⟩ := hc c List.mem_cons_self
    have e1 := hp _ h1
    have e2 := h x hx
    unfold jstep up
    split
    · rename_i e; subst e; split <;> omega
    · exact e2
theorem jrun_bd {α : Type} [DecidableEq α] {cs : List (C α)} {ns : List α} {D : Int} (hD : 0 ≤ D) (hc : ∀ c ∈ cs, c.fr ∈ ns ∧ c.wt ≤ D) : ∀ (n : Nat) (p l : α → Int) (B : Int), (∀ x ∈ ns, p x ≤ B) → jrun cs ns n p = some l → ∀ x ∈ ns, l x ≤ B + n * D
  | 0, _, _, _, _, h => by cases h
  | n + 1, p, l, B, hp, h => by
    intro x hx
    have e : (((n + 1 : Nat) : Int)) * D = n * D + D := by rw [Int.natCast_add, Int.add_mul]; omega
    have e0 : 0 ≤ (n : Int) * D := Int.mul_nonneg (by omega) hD
    unfold jrun at h
    split at h
    · cases h
      have := hp x hx
      omega
    · have hj : ∀ x ∈ ns, jac cs p x ≤ B + D := jfold_bd hp hD cs p hc (fun x hx => by have := hp x hx; omega)
      have := jrun_bd hD hc n (jac cs p) l (B + D) hj h x hx
      omega
end BF
namespace K35
open PySem PySem.Spec PyProof.Rows L2 L3
theorem cs_in {r : Rc} (h : RcOk r) (v : List Int) : BF.In (r.cs v) r.names := by
  intro c hc
  obtain ⟨x, hx, rfl⟩ := List.mem_map.mp hc
  exact ⟨(needs_in h x hx).1, (needs_in h x hx).2.1⟩
/-- what it comes to, either way -/
structure EarQ (r : Rc) (v : List Int) (o : Option (Str → Int)) : Prop where
  some_ : ∀ l, o = some l → BF.Least (r.cs v) (r.base v) r.names l
  none_ : (∃ q, BF.Feas (r.cs v) (r.base v) r.names q) → ∃ l, o = some l
theorem jrun_ear {r : Rc} (h : RcOk r) (v : List Int) : EarQ r v (BF.jrun (r.cs v) r.names (r.names.length + 1) fun _ => r.base v) := ⟨(BF.jrun_spec (cs_in h v)).1, (BF.jrun_spec (cs_in h v)).2⟩
theorem grun_ear {r : Rc} (h : RcOk r) (v : List Int) : EarQ r v (BF.grun (r.cs v) (r.names.length + 1) fun _ => r.base v) := ⟨(BF.grun_spec (cs_in h v)).1, (BF.grun_spec (cs_in h v)).2⟩
theorem off_same {ns : List Str} {l m : Str → Int} (h : ∀ x ∈ ns, l x = m x) : offV ns l = offV ns m := by
  unfold offV
  congr 1
  exact List.map_congr_left fun x hx => by rw [h x hx]
theorem EarQ.res {r : Rc} {v : List Int} {o o' : Option (Str → Int)} (h : EarQ r v o) (k : EarQ r v o') : resV v r.names o = resV v r.names o' := by
  cases ho : o with
  | none =>
    cases ho' : o' with
    | none => rfl
    | some l =>
      have := h.none_ ⟨l, (k.some_ l ho').feas⟩
      obtain ⟨m, hm⟩ := this
      rw [ho] at hm; cases hm
  | some l =>
    obtain ⟨m, hm⟩ := k.none_ ⟨l, (h.some_ l ho).feas⟩
    rw [hm]
    unfold resV
    simp only
    rw [off_same ((h.some_ l ho).same (k.some_ m hm))]
/-! how great -/
theorem sum_bd {l : List Int} {B : Int} (hB : 0 ≤ B) (h : ∀ i ∈ l, -B ≤ i ∧ i ≤ B) : -(B * l.length) ≤ l.sum ∧ l.sum ≤ B * l.length := by
  induction l with
  | nil => simp
  | cons a l ih =>
    have h1 := h a List.mem_cons_self
    have h2 := ih fun i hi => h i (List.mem_cons_of_mem _ hi)
    rw [List.sum_cons, List.length_cons, Int.natCast_add, Int.mul_add]
    omega
theorem mul_bd {a b : Int} (h1 : -10 ≤ a ∧ a ≤ 10) (h2 : -10 ≤ b ∧ b ≤ 10) : -100 ≤ a * b ∧ a * b ≤ 100 := by
  have e1 : (a * b).natAbs ≤ 10 * 10 := by
    rw [Int.natAbs_mul]
    exact Nat.mul_le_mul (by omega) (by omega)
  omega
theorem dot_bd {v s : List Int} (hv : Small v) (hs : Small s) : -300 ≤ dot v s ∧ dot v s ≤ 300 := by
  have h := sum_bd (l := (v.zip s).map fun p => p.1 * p.2) (B := 100) (by decide) fun i hi => by
    obtain ⟨p, hp, rfl⟩ := List.mem_map.mp hi
    obtain ⟨h1, h2⟩ := mem_zip_small hv hs hp
    exact mul_bd h1 h2
  have hl : (((v.zip s).map fun p => p.1 * p.2).length : Int) ≤ 3 := by
    rw [List.length_map, List.length_zip]
    have := hv.1
    omega
  unfold dot
  omega
theorem low_bd {v c : List Int} (hv : Small v) (hc : Small c) (hc1 : ∀ i ∈ c, 1 ≤ i) : -300 ≤ low c v ∧ low c v ≤ 0 := by
  have h := sum_bd (l := (v.zip c).map fun p => if p.1 * (p.2 - 1) < 0 then p.1 * (p.2 - 1) else 0) (B := 100) (by decide) fun i hi => by
    obtain ⟨p, hp, rfl⟩ := List.mem_map.mp hi
    obtain ⟨h1, h2⟩ := mem_zip_small hv hc hp
    have h3 := hc1 _ (List.of_mem_zip hp).2
    have := mul_bd h1 (b := p.2 - 1) (by omega)
    split <;> omega
  have hl : (((v.zip c).map fun p => if p.1 * (p.2 - 1) < 0 then p.1 * (p.2 - 1) else 0).length : Int) ≤ 3 := by
    rw [List.length_map, List.length_zip]
    have := hv.1
    omega
  have hn : ∀ l : List Int, (∀ i ∈ l, i ≤ 0) → l.sum ≤ 0 := by
    intro l
    induction l with
    | nil => intro _; simp
    | cons a l ih =>
      intro h
      have := h a List.mem_cons_self
      have := ih fun i hi => h i (List.mem_cons_of_mem _ hi)
      rw [List.sum_cons]
      omega
  have h0 := hn ((v.zip c).map fun p => if p.1 * (p.2 - 1) < 0 then p.1 * (p.2 - 1) else 0) fun i hi => by
    obtain ⟨p, hp, rfl⟩ := List.mem_map.mp hi
    split <;> omega
  unfold low
  omega
theorem base_bd {r : Rc} (h : RcOk r) {v : List Int} (hv : VecOk r.counts.length v) : 0 ≤ r.base v ∧ r.base v ≤ 300 := by
  have := low_bd (hv.small h.c3) (small_counts h).1 (small_counts h).2
  unfold Rc.base
  omega
theorem sh_offs {k : Nat} {ns : List Str} {l : Str → Int} (hn : ns.length ≤ 40) (h : ∀ x ∈ ns, (l x).natAbs < 10 ^ 12) : Sh (k + 1) 700 (offV ns l) := by
  have h1 := shs_map (k := k) (n := 13) (f := fun x => Val.int (l x)) (l := ns) fun x hx => Sh.int (h x hx)
  exact (sh_tup h1).mono (Nat.le_refl _) (by omega)
theorem ear_repr {r : Rc} (h : RcOk r) {v : List Int} (hv : VecOk r.counts.length v) {o : Option (Str → Int)} (ho : EarQ r v o) : ∃ x : Str, ∀ st : Sto, reprAM [resV v r.names o] st = .ok (.str x) st := by
  rw [ho.res (jrun_ear h v)]
  have hc3 := h.c3
  have hv40 := h.v40
  have hnl := names_len (r := r)
  cases hj : BF.jrun (r.cs v) r.names (r.names.length + 1) fun _ => r.base v with
  | none => exact ⟨"None", fun _ => rfl⟩
  | some l =>
    have hb := base_bd h hv
    have hl := BF.jrun_bd (D := 301) (by decide) (fun c hc => by
      obtain ⟨x, hx, rfl⟩ := List.mem_map.mp hc
      obtain ⟨_, h2, h3, _⟩ := needs_in h x hx
      have := dot_bd (hv.small hc3) h3
      exact ⟨h2, by show 1 - dot v x.step ≤ 301; omega⟩) _ _ l (r.base v) (fun _ _ => Int.le_refl _) hj
    have hf := ((jrun_ear h v).some_ l hj).feas.base
    have hsh := sh_offs (k := 18) (ns := r.names) (l := l) (by omega) fun x hx => by
      have := hl x hx
      have := hf x hx
      have : ((r.names.length + 1 : Nat) : Int) * 301 ≤ 41 * 301 := by omega
      omega
    have hvs : Sh 19 48 (.tup (v.map .int)) := sh_ints (k := 18) (by rw [hv.1]; exact hc3) fun i hi => by have := hv.2 i hi; omega
    obtain ⟨x, hx⟩ := reprM_tup (st := []) (sh_tup (k := 19) (shs_cons hvs (shs_cons hsh shs_nil))) (by decide) (by decide)
    exact ⟨x, fun st => hx st⟩
end K35
end

section
set_option Elab.async false
set_option linter.all false
set_option maxRecDepth 100000
set_option maxHeartbeats 400000
namespace K35
open PySem PySem.Spec PyProof.Rows L2 L3
/-! schedules by their form; the first place that isn't right; lengths -/
theorem is_row_ok (w : World) {l : List Int} {m : Int} (hl : l.length ≤ 1000) (h : ∀ i ∈ l, -m ≤ i ∧ i ≤ m) {n : Int} (hn : n = l.length) (st : Sto) : F_is_row_of w [.tup (l.map .int), .int n, .int m] st = .ok (.bl true) st := by
  subst hn
  have k1 := lcGo_map (keep := always) (g := gN 3) (me := mCall (F_is_whole w) [] (aCons (mVar 3) (aCons (mOp1 negV (mVar 2)) (aCons (mVar 2) aNil)))) (σ0 := [some (.tup (l.map .int)), some (.int l.length), some (.int m), none]) (st := st) (fun _ => .bl true) trivial (l.map .int) (fun u hu => by
    obtain ⟨i, hi, rfl⟩ := List.mem_map.mp hu
    obtain ⟨a1, a2⟩ := h i hi
    exact ⟨_, rfl, by simp [is_whole_int, a1, a2]⟩) (by rw [List.length_map]; exact Nat.le_trans (show l.length ≤ 100000 by omega) line_big)
  simp only [F_is_row_of, m_is_row_of, runB]
  simp [wipeE, k1, all_true, -List.map_map]
def planV (v : List Int) (ns : List Str) (l : Str → Int) : Val := .tup [.tup (v.map .int), offV ns l]
theorem offV_ints (ns : List Str) (l : Str → Int) : offV ns l = .tup ((ns.map l).map .int) := by
  unfold offV
  rw [List.map_map]
  rfl
def OffOk (ns : List Str) (l : Str → Int) : Prop := ∀ x ∈ ns, -99999 ≤ l x ∧ l x ≤ 99999
theorem is_schedule_ok (w : World) {r : Rc} (h : RcOk r) {v : List Int} (hv : VecOk r.counts.length v) {l : Str → Int} (hl : OffOk r.names l) (st : Sto) : F_is_schedule w [r.val, planV v r.names l] st = .ok (.bl true) st := by
  have hg1 : ∀ s, getM r.val (.int 1) s = .ok (.tup (r.vars.map vaV)) s := fun _ => rfl
  have h1 := is_vector_ok w h hv st
  have h2 := is_row_ok w (l := r.names.map l) (m := 99999) (by rw [List.length_map, names_len]; have := h.v40; omega) (fun i hi => by
    obtain ⟨x, hx, rfl⟩ := List.mem_map.mp hi
    exact hl x hx) (n := r.vars.length) (by rw [List.length_map, names_len]) st
  rw [← offV_ints] at h2
  have hgg : g_is_row_of_0 [offV r.names l, Val.int r.vars.length] [Val.int 99999] = [offV r.names l, .int r.vars.length, .int 99999] := rfl
  simp only [F_is_schedule, m_is_schedule, runB]
  simp [planV, h1, hg1, hgg, h2]
def badW (v : List Int) (l : Str → Int) (x : Nd) : Bool := decide (dot v x.step + l x.own - l x.used < 1)
def firstI (r : Rc) (v : List Int) (l : Str → Int) : Int := mnL (r.names.map l) + low r.counts v
def placeV (r : Rc) (v : List Int) (l : Str → Int) : Val := match r.needs.findIdx? (badW v l) with
  | some k => .tup [.str "need", .int k]
  | none => if firstI r v l = 0 then .non else .tup [.str "first", .int (firstI r v l)]
theorem minM_off {ns : List Str} (hns : ns ≠ []) (l : Str → Int) (st : Sto) : minM [offV ns l] st = .ok (.int (mnL (ns.map l))) st := by
  rw [offV_ints]
  show (match (itemsOf st (.tup ((ns.map l).map Val.int))).bind intsOf with | some (n :: ns) => Res.ok (Val.int (mnL (n :: ns))) st | _ => .bad) = _
  rw [itemsOf, Option.bind_some, intsOf_map]
  cases ns with
  | nil => exact absurd rfl hns
  | cons a ns => rfl
theorem maxM_off {ns : List Str} (hns : ns ≠ []) (l : Str → Int) (st : Sto) : maxM [offV ns l] st = .ok (.int (mxL (ns.map l))) st := by
  rw [offV_ints]
  show (match (itemsOf st (.tup ((ns.map l).map Val.int))).bind intsOf with | some (n :: ns) => Res.ok (Val.int (mxL (n :: ns))) st | _ => .bad) = _
  rw [itemsOf, Option.bind_some, intsOf_map]
  cases ns with
  | nil => exact absurd rfl hns
  | cons a ns => rfl
theorem names_ne {r : Rc} (h : RcOk r) : r.names ≠ [] := by
  intro e
  have h1 := h.v1
  have h2 := names_len (r := r)
  rw [e] at h2
  simp at h2
  omega
theorem zip_vars (r : Rc) (l : Str → Int) : zipL (r.vars.map vaV) (r.names.map fun x => .int (l x)) = r.vars.map fun p => Val.tup [vaV p, .int (l p.1)] := by
  unfold zipL Rc.names
  rw [List.map_map]
  generalize r.vars = z
  induction z with
  | nil => rfl
  | cons a z ih =>
    rw [List.map_cons, List.map_cons, List.zip_cons_cons, List.map_cons, ih, List.map_cons]
    rfl
def wpEnv (r : Rc) (v : List Int) (l : Str → Int) (a : Nat) (σ5 σ8 σ9 σ10 : Option Val) : L3.Env := [some r.val, some (planV v r.names l), some (.tup (v.map .int)), some (offV r.names l), some (.loc a), σ5, none, none, σ8, σ9, σ10, none]
theorem wrong_place_spec (w : World) {r : Rc} (h : RcOk r) {v : List Int} (hv : VecOk r.counts.length v) {l : Str → Int} (hl : OffOk r.names l) {st : Sto} :
    Wp (F_wrong_place w [r.val, planV v r.names l] st) fun u s => u = placeV r v l ∧ Pre st s := by
  have hsv := hv.small h.c3
  have hsc := small_counts h
  have hv40 := h.v40
  have hnl := names_len (r := r)
  have hg1 : ∀ s, getM r.val (.int 1) s = .ok (.tup (r.vars.map vaV)) s := fun _ => rfl
  have hg0 : ∀ s, getM r.val (.int 0) s = .ok (.tup (r.counts.map .int)) s := fun _ => rfl
  unfold F_wrong_place
  refine wp_runB rfl ?_
  have hlz : (r.vars.map vaV).length = (r.names.map fun x => Val.int (l x)).length := by simp [hnl]
  simp [m_wrong_place, is_schedule_ok w h hv hl, hg1]
  simp only [planV, offV]
  simp [hg1, hnl, zip_vars]
  have k2 := dcGo_new (keep := fun _ => True) (g := gT 2 (gsCons (gT 2 (gsCons (gN 5) (gsCons (gN 6) gsNil))) (gsCons (gN 7) gsNil))) (mk := mVar 5) (mv := mVar 7) (σ0 := wipeE [some r.val, some (planV v r.names l), some (.tup (v.map .int)), some (offV r.names l), none, none, none, none, none, none, none, none] [7, 5, 6]) (st := st) (fun u => match u with | .tup [.tup [.str x, _], _] => .inr x | _ => .inl 0) (fun u => match u with | .tup [_, i] => i | _ => .non) trivial (r.vars.map fun p => Val.tup [vaV p, .int (l p.1)]) [] (fun u hu => by
    obtain ⟨p, hp, rfl⟩ := List.mem_map.mp hu
    exact ⟨_, .str p.1, rfl, rfl, rfl, rfl⟩) (by
    rw [List.map_nil, List.nil_append, List.map_map]
    have : (r.names.map fun x => (Sum.inr x : Key)).Nodup := List.pairwise_map.mpr (h.nd.imp fun hab e => hab (Sum.inr.inj e))
    rw [Rc.names, List.map_map] at this
    exact this) (by rw [List.length_map]; simp; omega)
  have e2 : ([] ++ (r.vars.map fun p => Val.tup [vaV p, .int (l p.1)]).map fun u => (((match u with | .tup [.tup [.str x, _], _] => .inr x | _ => .inl 0) : Key), (match u with | .tup [_, i] => i | _ => Val.non))) = dkP r.names l := by
    rw [List.nil_append, List.map_map]
    unfold dkP Rc.names
    rw [List.map_map]
    rfl
  rw [e2] at k2
  simp only [planV, offV] at k2
  rw [k2, Wp_ok]

  refine (needs_by_spec w h).mono ?_
  rintro _ s2 ⟨rfl, hp2⟩
  simp
  refine wp_for (fun p σ s => (∃ σ5 σ8 σ9 σ10, σ = wpEnv r v l st.length σ5 σ8 σ9 σ10) ∧ Pre st s ∧ s[st.length]? = some (.dk (dkP r.names l)) ∧ ∀ j x, j < p.length → r.needs[j]? = some x → badW v l x = false) ?_ (fun _ _ _ _ => trivial) ?_ ?_
  · exact ⟨⟨none, none, none, none, rfl⟩, Pre.refl.push.trans hp2, hp2.at (by simp), fun j x hj _ => absurd hj (by simp)⟩
  · rintro p u q _ s hL ⟨⟨σ5, σ8, σ9, σ10, rfl⟩, hpre, hat, hno⟩
    obtain ⟨u, hu, rfl⟩ := numd_split hL
    rw [List.getElem?_map] at hu
    obtain ⟨x, hx, rfl⟩ := Option.map_eq_some_iff.mp hu
    have hm := List.mem_of_getElem? hx
    obtain ⟨h1, h2, h3, h4⟩ := needs_in h x hm
    have hsum := summed_eq w hsv h3 (by rw [hv.1, h4]) s
    have g1 := dgetM_dkP hat h1
    have g2 := dgetM_dkP hat h2
    by_cases hb : badW v l x = true
    · have hb2 := hb
      unfold badW at hb2
      simp only [decide_eq_true_eq] at hb2
      simp [wpEnv, Nd.val, hsum, g1, g2, hb2, sizeLine]
      refine ⟨?_, hpre⟩
      have : r.needs.findIdx? (badW v l) = some p.length := by
        rw [List.findIdx?_eq_some_iff_getElem]
        obtain ⟨hlt, e⟩ := List.getElem?_eq_some_iff.mp hx
        refine ⟨hlt, by rw [e]; exact hb, fun j hj => ?_⟩
        have := hno j (r.needs[j]) hj (List.getElem?_eq_getElem _)
        rw [this]
        decide
      unfold placeV
      rw [this]
    · have hb2 := hb
      unfold badW at hb2
      simp only [decide_eq_true_eq] at hb2
      simp [wpEnv, Nd.val, hsum, g1, g2, hb2]
      refine ⟨hpre, hat, fun j y hj hy => ?_⟩
      by_cases e : j = p.length
      · subst e
        rw [hx] at hy
        cases hy
        simpa using hb
      · exact hno j y (by omega) hy
  · rintro _ s ⟨⟨σ5, σ8, σ9, σ10, rfl⟩, hpre, hat, hno⟩
    have hnone : r.needs.findIdx? (badW v l) = none := by
      rw [List.findIdx?_eq_none_iff]
      intro x hx
      obtain ⟨j, hj, e⟩ := List.mem_iff_getElem.mp hx
      exact hno j x (by rw [numd_length, List.length_map]; exact hj) (by rw [← e]; exact List.getElem?_eq_getElem hj)
    have hlow := lowest_eq w hsv hsc.1 hsc.2 hv.1 s
    have hmin := minM_off (names_ne h) l s
    simp [wpEnv, hmin, hg0, hlow]
    unfold placeV
    rw [hnone]
    simp only
    have ef : mnL (r.names.map l) + low r.counts v = firstI r v l := rfl
    rw [ef]
    by_cases e : firstI r v l = 0
    · simp [e]
      exact hpre
    · simp [e, sizeLine]
      exact hpre
end K35
end

section
set_option Elab.async false
set_option linter.all false
set_option maxRecDepth 100000
set_option maxHeartbeats 400000
namespace BF
theorem Least.min {α : Type} [DecidableEq α] {cs : List (C α)} {b : Int} {ns : List α} {q : α → Int} (h : Least cs b ns q) (hne : ns ≠ []) : ∃ x ∈ ns, q x = b := by
  rcases Classical.em (∃ x ∈ ns, q x = b) with e | e
  · exact e
  · have hf : Feas cs b ns fun x => q x - 1 := ⟨fun x hx => by
      have h1 := h.feas.base x hx
      have h2 : q x ≠ b := fun z => e ⟨x, hx, z⟩
      omega, fun c hc => by have := h.feas.keep c hc; omega⟩
    cases ns with
    | nil => exact absurd rfl hne
    | cons a l =>
      have := h.le _ hf a List.mem_cons_self
      omega
end BF
namespace K35
open PySem PySem.Spec PyProof.Rows L2 L3
/-! what is needed, as a set -/
theorem inaddU {cs : List Int} {own : Str} {l : List Nd} {p : Str × List Int} {y : Nd} : y ∈ addU cs own l p ↔ y ∈ l ∨ (y = ⟨own, p.1, p.2⟩ ∧ nearB p.2 cs = true) := by
  unfold addU addN
  by_cases hn : nearB p.2 cs = true
  · rw [if_pos hn]
    by_cases hm : (⟨own, p.1, p.2⟩ : Nd) ∈ l
    · rw [if_pos hm]
      exact ⟨.inl, fun h => h.elim id fun h => by rw [h.1]; exact hm⟩
    · rw [if_neg hm, List.mem_append, List.mem_singleton]
      exact ⟨fun h => h.imp id fun e => ⟨e, hn⟩, fun h => h.imp id fun e => e.1⟩
  · rw [if_neg hn]
    exact ⟨.inl, fun h => h.elim id fun h => absurd h.2 hn⟩
theorem nd_addU {cs : List Int} {own : Str} {l : List Nd} {p : Str × List Int} (h : l.Nodup) : (addU cs own l p).Nodup := by
  unfold addU addN
  split
  · split
    · exact h
    · rename_i hm
      exact List.nodup_append.mpr ⟨h, by simp, fun a ha b hb e => hm (by rw [List.mem_singleton] at hb; rw [← hb, ← e]; exact ha)⟩
  · exact h
theorem infoldU {cs : List Int} {own : Str} {y : Nd} : ∀ {ps : List (Str × List Int)} {l : List Nd}, y ∈ ps.foldl (addU cs own) l ↔ y ∈ l ∨ (y.own = own ∧ (y.used, y.step) ∈ ps ∧ nearB y.step cs = true)
  | [], l => by simp
  | p :: ps, l => by
    rw [List.foldl_cons, infoldU, inaddU]
    constructor
    · rintro ((h | ⟨rfl, h2⟩) | ⟨h1, h2, h3⟩)
      · exact .inl h
      · exact .inr ⟨rfl, List.mem_cons_self, h2⟩
      · exact .inr ⟨h1, List.mem_cons_of_mem _ h2, h3⟩
    · rintro (h | ⟨h1, h2, h3⟩)
      · exact .inl (.inl h)
      · rcases List.mem_cons.mp h2 with e | h2
        · cases y
          simp only at h1 h3 e
          subst h1
          rw [← e]
          exact .inl (.inr ⟨rfl, h3⟩)
        · exact .inr ⟨h1, h2, h3⟩
theorem nd_foldU {cs : List Int} {own : Str} : ∀ {ps : List (Str × List Int)} {l : List Nd}, l.Nodup → (ps.foldl (addU cs own) l).Nodup
  | [], l, h => h
  | p :: ps, l, h => by
    rw [List.foldl_cons]
    exact nd_foldU (nd_addU h)
theorem infoldB {cs : List Int} {y : Nd} : ∀ {vs : List (Str × Bd)} {l : List Nd}, y ∈ vs.foldl (needsB cs) l ↔ y ∈ l ∨ ∃ v ∈ vs, y.own = v.1 ∧ (y.used, y.step) ∈ v.2.ups ∧ nearB y.step cs = true
  | [], l => by simp
  | v :: vs, l => by
    rw [List.foldl_cons, infoldB]
    unfold needsB
    rw [infoldU]
    constructor
    · rintro ((h | h) | ⟨v', h1, h2⟩)
      · exact .inl h
      · exact .inr ⟨v, List.mem_cons_self, h⟩
      · exact .inr ⟨v', List.mem_cons_of_mem _ h1, h2⟩
    · rintro (h | ⟨v', h1, h2⟩)
      · exact .inl (.inl h)
      · rcases List.mem_cons.mp h1 with rfl | h1
        · exact .inl (.inr h2)
        · exact .inr ⟨v', h1, h2⟩
theorem nd_foldB {cs : List Int} : ∀ {vs : List (Str × Bd)} {l : List Nd}, l.Nodup → (vs.foldl (needsB cs) l).Nodup
  | [], l, h => h
  | v :: vs, l, h => by
    rw [List.foldl_cons]
    exact nd_foldB (nd_foldU h)
theorem needs_iff {r : Rc} {y : Nd} : y ∈ r.needs ↔ ∃ v ∈ r.vars, y.own = v.1 ∧ (y.used, y.step) ∈ v.2.ups ∧ nearB y.step r.counts = true := by
  unfold Rc.needs
  rw [infoldB]
  simp
theorem needs_nd (r : Rc) : r.needs.Nodup := nd_foldB List.nodup_nil
theorem feas_iff {r : Rc} {v : List Int} {B : Int} {ns : List Str} {q : Str → Int} : BF.Feas (r.cs v) B ns q ↔ (∀ x ∈ ns, B ≤ q x) ∧ ∀ y ∈ r.needs, q y.used + (1 - dot v y.step) ≤ q y.own := by
  constructor
  · intro h
    exact ⟨h.base, fun y hy => h.keep ⟨y.own, y.used, 1 - dot v y.step⟩ (List.mem_map.mpr ⟨y, hy, rfl⟩)⟩
  · rintro ⟨h1, h2⟩
    refine ⟨h1, fun c hc => ?_⟩
    obtain ⟨y, hy, rfl⟩ := List.mem_map.mp hc
    exact h2 y hy
/-! what is earliest is legal -/
theorem ear_off {r : Rc} (h : RcOk r) {v : List Int} (hv : VecOk r.counts.length v) {l : Str → Int} (hj : BF.jrun (r.cs v) r.names (r.names.length + 1) (fun _ => r.base v) = some l) : OffOk r.names l := by
  have hc3 := h.c3
  have hv40 := h.v40
  have hnl := names_len (r := r)
  have hb := base_bd h hv
  have hl := BF.jrun_bd (D := 301) (by decide) (fun c hc => by
    obtain ⟨x, hx, rfl⟩ := List.mem_map.mp hc
    obtain ⟨_, h2, h3, _⟩ := needs_in h x hx
    have := dot_bd (hv.small hc3) h3
    exact ⟨h2, by show 1 - dot v x.step ≤ 301; omega⟩) _ _ l (r.base v) (fun _ _ => Int.le_refl _) hj
  have hf := ((jrun_ear h v).some_ l hj).feas.base
  intro x hx
  have := hl x hx
  have := hf x hx
  have : ((r.names.length + 1 : Nat) : Int) * 301 ≤ 41 * 301 := by omega
  omega
theorem ear_first {r : Rc} (h : RcOk r) {v : List Int} {l : Str → Int} (hl : BF.Least (r.cs v) (r.base v) r.names l) : firstI r v l = 0 := by
  obtain ⟨x, hx, e⟩ := hl.min (names_ne h)
  have : r.base v = mnL (r.names.map l) := mnL_of (List.mem_map.mpr ⟨x, hx, e⟩) fun y hy => by
    obtain ⟨z, hz, rfl⟩ := List.mem_map.mp hy
    exact hl.feas.base z hz
  unfold firstI
  rw [← this]
  unfold Rc.base
  omega
theorem ear_place {r : Rc} (h : RcOk r) {v : List Int} {l : Str → Int} (hl : BF.Least (r.cs v) (r.base v) r.names l) : placeV r v l = .non := by
  have hn : r.needs.findIdx? (badW v l) = none := by
    rw [List.findIdx?_eq_none_iff]
    intro y hy
    have := (feas_iff.mp hl.feas).2 y hy
    unfold badW
    rw [decide_eq_false_iff_not]
    omega
  unfold placeV
  rw [hn]
  simp only
  rw [if_pos (ear_first h hl)]
/-! the greatest of what a vector tells -/
def high (c v : List Int) : Int := ((v.zip c).map fun p => if p.1 * (p.2 - 1) > 0 then p.1 * (p.2 - 1) else 0).sum
theorem high_low (c v : List Int) : 0 - low c (v.map fun x => -x) = high c v := by
  have key : ∀ l : List (Int × Int), 0 - (l.map fun p => if (-p.1) * (p.2 - 1) < 0 then (-p.1) * (p.2 - 1) else 0).sum = (l.map fun p => if p.1 * (p.2 - 1) > 0 then p.1 * (p.2 - 1) else 0).sum := by
    intro l
    induction l with
    | nil => rfl
    | cons a l ih =>
      rw [List.map_cons, List.map_cons, List.sum_cons, List.sum_cons, ← ih, Int.neg_mul]
      split <;> split <;> omega
  unfold low high
  rw [← key, List.zip_map_left, List.map_map]
  rfl
theorem small_neg {v : List Int} (h : Small v) : Small (v.map fun x => -x) := ⟨by rw [List.length_map]; exact h.1, fun i hi => by
  obtain ⟨j, hj, rfl⟩ := List.mem_map.mp hi
  have := h.2 j hj
  omega⟩
theorem highest_eq (w : World) {v c : List Int} (hv : Small v) (hc : Small c) (hc2 : ∀ i ∈ c, 1 ≤ i) (hl : v.length = c.length) (st : Sto) : F_highest w [.tup (c.map .int), .tup (v.map .int)] st = .ok (.int (high c v)) st := by
  have hn := lowest_eq w (small_neg hv) hc hc2 (by rw [List.length_map]; exact hl) st
  have k := lcGo_map (keep := always) (g := gN 2) (me := mOp1 negV (mVar 2)) (σ0 := wipeE [some (.tup (c.map .int)), some (.tup (v.map .int)), none] [2]) (st := st) (fun u => match u with | .int i => .int (-i) | _ => .non) trivial (v.map .int) (fun u hu => by
    obtain ⟨i, hi, rfl⟩ := List.mem_map.mp hu
    exact ⟨_, rfl, by simp [wipeE]⟩) (by rw [List.length_map]; have := hv.1; exact Nat.le_trans (by omega : v.length ≤ 100000) line_big)
  have e : (v.map Val.int).map (fun u => match u with | .int i => Val.int (-i) | _ => Val.non) = (v.map fun x => -x).map .int := by
    rw [List.map_map, List.map_map]
    rfl
  rw [e] at k
  simp only [F_highest, m_highest, runB]
  simp [k, hn, -List.map_map]
  exact (Int.zero_sub _).symm.trans (high_low c v)
def lenR (r : Rc) (v : List Int) (l : Str → Int) : Int := mxL (r.names.map l) + high r.counts v + 1
theorem is_legal_spec (w : World) {r : Rc} (h : RcOk r) {v : List Int} (hv : VecOk r.counts.length v) {l : Str → Int} (hl : OffOk r.names l) (hp : placeV r v l = .non) {st : Sto} :
    Wp (F_is_legal w [r.val, planV v r.names l] st) fun u s => u = .bl true ∧ Pre st s := by
  unfold F_is_legal
  refine wp_runB rfl ?_
  simp [m_is_legal]
  refine (need_recs_ok w h).mono ?_
  rintro _ s ⟨rfl, hp1⟩
  refine (wrong_place_spec w h hv hl).mono ?_
  rintro _ s2 ⟨rfl, hp2⟩
  rw [hp]
  simp [isNoneV]
  exact hp1.trans hp2
theorem length_of_spec (w : World) {r : Rc} (h : RcOk r) {v : List Int} (hv : VecOk r.counts.length v) {l : Str → Int} (hl : OffOk r.names l) (hp : placeV r v l = .non) {st : Sto} :
    Wp (F_length_of w [r.val, planV v r.names l] st) fun u s => u = .int (lenR r v l) ∧ Pre st s := by
  have hg0 : ∀ s, getM r.val (.int 0) s = .ok (.tup (r.counts.map .int)) s := fun _ => rfl
  have hsv := hv.small h.c3
  have hsc := small_counts h
  have need : Wp (F_need_schedule w [r.val, planV v r.names l] st) fun u s => u = .non ∧ Pre st s := by
    unfold F_need_schedule
    refine wp_runB rfl ?_
    simp [m_need_schedule]
    refine (need_recs_ok w h).mono ?_
    rintro _ s ⟨rfl, hp1⟩
    refine (wrong_place_spec w h hv hl).mono ?_
    rintro _ s2 ⟨rfl, hp2⟩
    rw [hp]
    simp [isNoneV]
    exact hp1.trans hp2
  unfold F_length_of
  refine wp_runB rfl ?_
  simp [m_length_of]
  refine need.mono ?_
  rintro _ s ⟨rfl, hp1⟩
  have hmax := maxM_off (names_ne h) l s
  have hhigh := highest_eq w hsv hsc.1 hsc.2 hv.1 s
  simp [planV, hmax, hg0, hhigh]
  exact ⟨rfl, hp1⟩
end K35
end

section
set_option Elab.async false
set_option linter.all false
set_option maxRecDepth 100000
set_option maxHeartbeats 400000
namespace K35
open PySem PySem.Spec PyProof.Rows L2 L3
/-! two vectors together -/
def vadd (a b : List Int) : List Int := (a.zip b).map fun p => p.1 + p.2
theorem vadd_len {a b : List Int} (h : a.length = b.length) : (vadd a b).length = a.length := by
  unfold vadd
  rw [List.length_map, List.length_zip]
  omega
theorem dot_add : ∀ {a b s : List Int}, a.length = b.length → dot (vadd a b) s = dot a s + dot b s
  | [], [], s, _ => by simp [dot, vadd]
  | x :: a, y :: b, [], _ => by simp [dot, vadd]
  | x :: a, y :: b, z :: s, h => by
    have ih := dot_add (a := a) (b := b) (s := s) (by simpa using h)
    unfold dot vadd at ih ⊢
    simp only [List.zip_cons_cons, List.map_cons, List.sum_cons]
    rw [ih, Int.add_mul]
    omega
theorem low_add : ∀ {a b c : List Int}, a.length = b.length → low c a + low c b ≤ low c (vadd a b)
  | [], [], c, _ => by simp [low, vadd]
  | x :: a, y :: b, [], _ => by simp [low, vadd]
  | x :: a, y :: b, z :: c, h => by
    have ih := low_add (a := a) (b := b) (c := c) (by simpa using h)
    unfold low vadd at ih ⊢
    simp only [List.zip_cons_cons, List.map_cons, List.sum_cons]
    rw [Int.add_mul]
    generalize x * (z - 1) = X
    generalize y * (z - 1) = Y
    split <;> split <;> split <;> omega
theorem high_add : ∀ {a b c : List Int}, a.length = b.length → high c (vadd a b) ≤ high c a + high c b
  | [], [], c, _ => by simp [high, vadd]
  | x :: a, y :: b, [], _ => by simp [high, vadd]
  | x :: a, y :: b, z :: c, h => by
    have ih := high_add (a := a) (b := b) (c := c) (by simpa using h)
    unfold high vadd at ih ⊢
    simp only [List.zip_cons_cons, List.map_cons, List.sum_cons]
    rw [Int.add_mul]
    generalize x * (z - 1) = X
    generalize y * (z - 1) = Y
    split <;> split <;> split <;> omega
theorem sum_feas {r : Rc} {a b : List Int} (hab : a.length = b.length) {p q : Str → Int} (hp : BF.Feas (r.cs a) (r.base a) r.names p) (hq : BF.Feas (r.cs b) (r.base b) r.names q) : BF.Feas (r.cs (vadd a b)) (r.base (vadd a b)) r.names fun x => p x + q x := by
  obtain ⟨p1, p2⟩ := feas_iff.mp hp
  obtain ⟨q1, q2⟩ := feas_iff.mp hq
  refine feas_iff.mpr ⟨fun x hx => ?_, fun y hy => ?_⟩
  · have h1 := p1 x hx
    have h2 := q1 x hx
    have h3 := low_add (c := r.counts) hab
    unfold Rc.base at *
    omega
  · have h1 := p2 y hy
    have h2 := q2 y hy
    have h3 := dot_add (s := y.step) hab
    omega
theorem sum_len {r : Rc} (h : RcOk r) {a b : List Int} (hab : a.length = b.length) {p q l : Str → Int} (hl : ∀ x ∈ r.names, l x ≤ p x + q x) : lenR r (vadd a b) l < lenR r a p + lenR r b q := by
  have h1 := high_add (c := r.counts) hab
  have h2 : mxL (r.names.map l) ≤ mxL (r.names.map p) + mxL (r.names.map q) := by
    have hm := mxL_mem (l := r.names.map l) (by simpa using names_ne h)
    obtain ⟨x, hx, e⟩ := List.mem_map.mp hm
    rw [← e]
    have h3 := hl x hx
    have h4 := mxL_le (l := r.names.map p) (List.mem_map.mpr ⟨x, hx, rfl⟩)
    have h5 := mxL_le (l := r.names.map q) (List.mem_map.mpr ⟨x, hx, rfl⟩)
    omega
  unfold lenR
  omega
/-! a use more -/
def moreRc (r : Rc) (k : Nat) (own : Str) (b : Bd) (u : Lf) : Rc := ⟨r.counts, r.vars.set k (own, .two "max" b (.lf u))⟩
section
variable {r : Rc} {k : Nat} {own : Str} {b : Bd} {us : Str} {sp : List Int} {nm : Str} {ps : List (Int × Int)}
theorem more_names (hk : r.vars[k]? = some (own, b)) {u : Lf} : (moreRc r k own b u).names = r.names := by
  unfold moreRc Rc.names
  apply List.ext_getElem?
  intro i
  rw [List.getElem?_map, List.getElem?_map, List.getElem?_set]
  split
  · rename_i e
    subst e
    obtain ⟨h1, h2⟩ := List.getElem?_eq_some_iff.mp hk
    rw [if_pos h1, hk]
    rfl
  · rfl
theorem more_needs (hk : r.vars[k]? = some (own, b)) (hnd : r.names.Nodup) {y : Nd} : y ∈ (moreRc r k own b (.use us sp nm ps)).needs ↔ y ∈ r.needs ∨ (y = ⟨own, us, sp⟩ ∧ nearB sp r.counts = true) := by
  have hlt := (List.getElem?_eq_some_iff.mp hk).1
  have eu : (Bd.two "max" b (.lf (.use us sp nm ps))).ups = b.ups ++ [(us, sp)] := by
    unfold Bd.ups
    rw [Bd.leaves, Bd.leaves, List.filterMap_append]
    rfl
  rw [needs_iff, needs_iff]
  constructor
  · rintro ⟨v, hv, h1, h2, h3⟩
    rcases List.mem_or_eq_of_mem_set hv with hv | rfl
    · exact .inl ⟨v, hv, h1, h2, h3⟩
    · rw [eu] at h2
      rcases List.mem_append.mp h2 with h2 | h2
      · exact .inl ⟨(own, b), List.mem_of_getElem? hk, h1, h2, h3⟩
      · rw [List.mem_singleton] at h2
        cases y
        cases h2
        cases h1
        exact .inr ⟨rfl, h3⟩
  · rintro (⟨v, hv, h1, h2, h3⟩ | ⟨rfl, h3⟩)
    · obtain ⟨j, hj⟩ := List.mem_iff_getElem?.mp hv
      by_cases e : j = k
      · subst e
        rw [hk] at hj
        cases hj
        exact ⟨_, List.mem_set hlt _, h1, by rw [eu]; exact List.mem_append_left _ h2, h3⟩
      · refine ⟨v, ?_, h1, h2, h3⟩
        have : (r.vars.set k (own, Bd.two "max" b (.lf (.use us sp nm ps))))[j]? = some v := by
          rw [List.getElem?_set_ne (fun z => e z.symm)]
          exact hj
        exact List.mem_of_getElem? this
    · exact ⟨_, List.mem_set hlt _, rfl, by rw [eu]; exact List.mem_append_right _ (by simp), h3⟩
theorem more_ok (h : RcOk r) (hs : r.Sm) (hk : r.vars[k]? = some (own, b)) (hu : (Lf.use us sp nm ps).Ok r.counts.length) (hun : us ∈ r.names) : RcOk (moreRc r k own b (.use us sp nm ps)) := by
  have hm := List.mem_of_getElem? hk
  have hva := h.va _ hm
  have hsm : b.size ≤ 13 ∧ b.deep ≤ 2 := hs _ hm
  have hnm := more_names hk (u := .use us sp nm ps)
  refine ⟨h.c1, h.c3, h.c, by show 1 ≤ (r.vars.set _ _).length; rw [List.length_set]; exact h.v1, by show (r.vars.set _ _).length ≤ 40; rw [List.length_set]; exact h.v40, by rw [hnm]; exact h.nd, by rw [hnm]; exact h.nm, fun p hp => ?_⟩
  rw [hnm]
  rcases List.mem_or_eq_of_mem_set hp with hp | rfl
  · exact h.va p hp
  · refine ⟨⟨by simp [opsL], hva.ok, hu⟩, by show 1 + max b.deep 0 ≤ 8; have := hsm.2; omega, by show 1 + (b.size + 1) ≤ 15; have := hsm.1; omega, fun u' sp' nm' ps' hl => ?_⟩
    rcases List.mem_append.mp hl with hl | hl
    · exact hva.uses _ _ _ _ hl
    · rw [Bd.leaves, List.mem_singleton] at hl
      cases hl
      exact hun
theorem more_val (hk : r.vars[k]? = some (own, b)) {u : Lf} : (moreRc r k own b u).val = .tup [.tup (r.counts.map .int), .tup ((r.vars.map vaV).take k ++ [.tup [.str own, .tup [.str "max", b.val, u.val]]] ++ (r.vars.map vaV).drop (k + 1))] := by
  have hlt := (List.getElem?_eq_some_iff.mp hk).1
  unfold moreRc Rc.val
  congr 3
  rw [List.map_set, List.set_eq_take_append_cons_drop, if_pos (by rw [List.length_map]; exact hlt), List.append_assoc]
  rfl
theorem more_feas (hk : r.vars[k]? = some (own, b)) (hnd : r.names.Nodup) {v : List Int} {q : Str → Int} (h : BF.Feas ((moreRc r k own b (.use us sp nm ps)).cs v) ((moreRc r k own b (.use us sp nm ps)).base v) (moreRc r k own b (.use us sp nm ps)).names q) : BF.Feas (r.cs v) (r.base v) r.names q := by
  obtain ⟨h1, h2⟩ := feas_iff.mp h
  rw [more_names hk] at h1
  exact feas_iff.mpr ⟨h1, fun y hy => h2 y ((more_needs hk hnd).mpr (.inl hy))⟩
theorem more_feas' (hk : r.vars[k]? = some (own, b)) (hnd : r.names.Nodup) {v : List Int} {q : Str → Int} (hin : ⟨own, us, sp⟩ ∈ r.needs) (h : BF.Feas (r.cs v) (r.base v) r.names q) : BF.Feas ((moreRc r k own b (.use us sp nm ps)).cs v) ((moreRc r k own b (.use us sp nm ps)).base v) (moreRc r k own b (.use us sp nm ps)).names q := by
  obtain ⟨h1, h2⟩ := feas_iff.mp h
  refine feas_iff.mpr ⟨by rw [more_names hk]; exact h1, fun y hy => ?_⟩
  rcases (more_needs hk hnd).mp hy with hy | ⟨rfl, _⟩
  · exact h2 y hy
  · exact h2 _ hin
end
end K35
end

section
set_option Elab.async false
set_option linter.all false
set_option maxRecDepth 100000
set_option maxHeartbeats 400000
namespace K35
open PySem PySem.Spec PyProof.Rows L2 L3
/-! things in another order -/
theorem psum {l m : List Int} (h : l.Perm m) : l.sum = m.sum := by
  induction h with
  | nil => rfl
  | cons a _ ih => rw [List.sum_cons, List.sum_cons, ih]
  | swap a b l => simp only [List.sum_cons]; omega
  | trans _ _ h1 h2 => rw [h1, h2]
theorem range_getD {α : Type} (l : List α) (d : α) : ((List.range l.length).map fun i => l.getD i d) = l := by
  apply List.ext_getElem
  · simp
  · intro i h1 h2
    simp [List.getElem?_eq_getElem h2]
theorem perm_getD {α : Type} {o : List Nat} {l : List α} (h : o.Perm (List.range l.length)) (d : α) : (o.map fun i => l.getD i d).Perm l := by
  have := h.map fun i => l.getD i d
  rw [range_getD] at this
  exact this
def pm (o : List Nat) (l : List Int) : List Int := o.map fun i => l.getD i 0
theorem pm_len {o : List Nat} {l : List Int} : (pm o l).length = o.length := List.length_map ..
theorem pm_perm {o : List Nat} {l : List Int} (h : o.Perm (List.range l.length)) : (pm o l).Perm l := perm_getD h 0
theorem pm_zip {o : List Nat} {a b : List Int} (hab : a.length = b.length) (h : o.Perm (List.range a.length)) : ((pm o a).zip (pm o b)).Perm (a.zip b) := by
  have e1 : (pm o a).zip (pm o b) = o.map fun i => (a.getD i 0, b.getD i 0) := by
    unfold pm
    clear h
    induction o with
    | nil => rfl
    | cons x o ih => rw [List.map_cons, List.map_cons, List.zip_cons_cons, ih, List.map_cons]
  have e2 : ((List.range a.length).map fun i => (a.getD i 0, b.getD i 0)) = a.zip b := by
    apply List.ext_getElem
    · simp [hab]
    · intro i h1 h2
      have ha : i < a.length := by simpa using h1
      have hb : i < b.length := by omega
      simp [List.getElem?_eq_getElem ha, List.getElem?_eq_getElem hb]
  rw [e1, ← e2]
  exact h.map _
theorem pm_dot {o : List Nat} {a b : List Int} (hab : a.length = b.length) (h : o.Perm (List.range a.length)) : dot (pm o a) (pm o b) = dot a b := psum ((pm_zip hab h).map _)
theorem pm_low {o : List Nat} {c v : List Int} (hab : v.length = c.length) (h : o.Perm (List.range v.length)) : low (pm o c) (pm o v) = low c v := psum ((pm_zip hab h).map _)
theorem pm_high {o : List Nat} {c v : List Int} (hab : v.length = c.length) (h : o.Perm (List.range v.length)) : high (pm o c) (pm o v) = high c v := psum ((pm_zip hab h).map _)
theorem pm_near {o : List Nat} {s c : List Int} (hab : s.length = c.length) (h : o.Perm (List.range s.length)) : nearB (pm o s) (pm o c) = nearB s c := by
  unfold nearB
  rw [Bool.eq_iff_iff, List.all_eq_true, List.all_eq_true]
  exact ⟨fun k p hp => k p ((pm_zip hab h).mem_iff.mpr hp), fun k p hp => k p ((pm_zip hab h).mem_iff.mp hp)⟩
theorem pm_inj {o : List Nat} {a b : List Int} {n : Nat} (h : o.Perm (List.range n)) (ha : a.length = n) (hb : b.length = n) (e : pm o a = pm o b) : a = b := by
  apply List.ext_getElem
  · omega
  · intro i h1 h2
    have hm : i ∈ o := h.mem_iff.mpr (List.mem_range.mpr (by omega))
    have := (List.map_inj_left.mp e) i hm
    simpa [List.getElem?_eq_getElem h1, List.getElem?_eq_getElem h2] using this
theorem pm_vec {o : List Nat} {n : Nat} {v : List Int} (h : o.Perm (List.range n)) (hv : VecOk n v) : VecOk n (pm o v) := by
  have hp : (pm o v).Perm v := pm_perm (by rw [hv.1]; exact h)
  exact ⟨by rw [hp.length_eq, hv.1], fun i hi => hv.2 i (hp.mem_iff.mp hi)⟩
/-! expressions otherwise -/
def tPs (o : List Nat) (ps : List (Int × Int)) : List (Int × Int) := ps.map fun p => ((o.idxOf p.1.toNat : Int), p.2)
def tLf (o : List Nat) (W : Str → Str) : Lf → Lf
  | .num n => .num n
  | .loop k => .loop (o.idxOf k.toNat)
  | .given nm ps => .given nm (tPs o ps)
  | .use v s nm ps => .use (W v) (pm o s) nm (tPs o ps)
def tBd (o : List Nat) (W : Str → Str) : Bd → Bd
  | .lf l => .lf (tLf o W l)
  | .two op a b => .two op (tBd o W a) (tBd o W b)
  | .pick a b c => .pick (tBd o W a) (tBd o W b) (tBd o W c)
theorem ix_lt {o : List Nat} {n : Nat} (h : o.Perm (List.range n)) {i : Nat} (hi : i < n) : o.idxOf i < n := by
  have hm : i ∈ o := h.mem_iff.mpr (List.mem_range.mpr hi)
  have := List.idxOf_lt_length_of_mem hm
  rw [h.length_eq, List.length_range] at this
  exact this
theorem ix_inj {o : List Nat} {n : Nat} (h : o.Perm (List.range n)) {i j : Nat} (hi : i < n) (hj : j < n) (e : o.idxOf i = o.idxOf j) : i = j := by
  have hi' : i ∈ o := h.mem_iff.mpr (List.mem_range.mpr hi)
  have hj' : j ∈ o := h.mem_iff.mpr (List.mem_range.mpr hj)
  have e1 := List.getElem_idxOf (List.idxOf_lt_length_of_mem hi')
  have e2 := List.getElem_idxOf (List.idxOf_lt_length_of_mem hj')
  rw [← e1, ← e2]
  congr 1
theorem tPs_ok {o : List Nat} {n : Nat} (h : o.Perm (List.range n)) {ps : List (Int × Int)} (hp : SubsOk n ps) : SubsOk n (tPs o ps) := by
  have e : (tPs o ps).length = ps.length := List.length_map ..
  refine ⟨by rw [e]; exact hp.lo, by rw [e]; exact hp.hi, fun p hm => ?_, ?_, hp.small⟩
  · obtain ⟨q, hq, rfl⟩ := List.mem_map.mp hm
    have := hp.at_ q hq
    have h1 := ix_lt h (i := q.1.toNat) (by omega)
    exact ⟨⟨by show (0 : Int) ≤ (o.idxOf q.1.toNat : Int); omega, by show ((o.idxOf q.1.toNat : Nat) : Int) ≤ (n : Int) - 1; omega⟩, this.2⟩
  · unfold tPs
    rw [List.map_map]
    have hnd := hp.nd
    rw [List.nodup_iff_pairwise_ne, List.pairwise_map] at hnd
    rw [List.nodup_iff_pairwise_ne, List.pairwise_map]
    refine hnd.imp_of_mem fun {a b} ha hb hab e => hab ?_
    have h1 := hp.at_ a ha
    have h2 := hp.at_ b hb
    have e' : ((o.idxOf a.1.toNat : Nat) : Int) = (o.idxOf b.1.toNat : Nat) := e
    have := ix_inj h (i := a.1.toNat) (j := b.1.toNat) (by omega) (by omega) (by omega)
    omega
theorem tLf_ok {o : List Nat} {n : Nat} (h : o.Perm (List.range n)) {W : Str → Str} {l : Lf} (hl : l.Ok n) (hW : ∀ u sp nm ps, l = .use u sp nm ps → varOk (W u) = true) : (tLf o W l).Ok n := by
  cases l with
  | num i => exact hl
  | loop k =>
    have h0 : 0 ≤ k ∧ k ≤ (n : Int) - 1 := hl
    have h1 := ix_lt h (i := k.toNat) (by omega)
    exact ⟨by show (0 : Int) ≤ (o.idxOf k.toNat : Int); omega, by show ((o.idxOf k.toNat : Nat) : Int) ≤ (n : Int) - 1; omega⟩
  | given nm ps => exact ⟨hl.1, tPs_ok h hl.2⟩
  | use v s nm ps =>
    have hs := hl.2.1
    have hsl : s.length = n := by have := hs.len; omega
    have hp : (pm o s).Perm s := pm_perm (by rw [hsl]; exact h)
    exact ⟨hW v s nm ps rfl, ⟨by rw [hp.length_eq]; exact hs.len, fun i hi => hs.at_ i (hp.mem_iff.mp hi)⟩, hl.2.2.1, tPs_ok h hl.2.2.2⟩
theorem tBd_leaves {o : List Nat} {W : Str → Str} : ∀ b : Bd, (tBd o W b).leaves = b.leaves.map (tLf o W)
  | .lf l => rfl
  | .two op a b => by rw [tBd, Bd.leaves, Bd.leaves, tBd_leaves a, tBd_leaves b, List.map_append]
  | .pick a b c => by rw [tBd, Bd.leaves, Bd.leaves, tBd_leaves a, tBd_leaves b, tBd_leaves c, List.map_append, List.map_append]
theorem tBd_ups {o : List Nat} {W : Str → Str} (b : Bd) : (tBd o W b).ups = b.ups.map fun p => (W p.1, pm o p.2) := by
  unfold Bd.ups
  rw [tBd_leaves, List.filterMap_map, List.map_filterMap]
  congr 1
  funext l
  cases l <;> rfl
theorem tBd_deep {o : List Nat} {W : Str → Str} : ∀ b : Bd, (tBd o W b).deep = b.deep
  | .lf l => rfl
  | .two op a b => by rw [tBd, Bd.deep, Bd.deep, tBd_deep a, tBd_deep b]
  | .pick a b c => by rw [tBd, Bd.deep, Bd.deep, tBd_deep a, tBd_deep b, tBd_deep c]
theorem tBd_size {o : List Nat} {W : Str → Str} : ∀ b : Bd, (tBd o W b).size = b.size
  | .lf l => rfl
  | .two op a b => by rw [tBd, Bd.size, Bd.size, tBd_size a, tBd_size b]
  | .pick a b c => by rw [tBd, Bd.size, Bd.size, tBd_size a, tBd_size b, tBd_size c]
theorem tBd_ok {o : List Nat} {n : Nat} (h : o.Perm (List.range n)) {W : Str → Str} : ∀ {b : Bd}, b.Ok n → (∀ u sp nm ps, Lf.use u sp nm ps ∈ b.leaves → varOk (W u) = true) → (tBd o W b).Ok n
  | .lf l, hb, hW => tLf_ok h hb fun u sp nm ps e => hW u sp nm ps (by rw [Bd.leaves, e]; exact List.mem_singleton.mpr rfl)
  | .two op a b, hb, hW => ⟨hb.1, tBd_ok h hb.2.1 fun u sp nm ps e => hW u sp nm ps (List.mem_append_left _ e), tBd_ok h hb.2.2 fun u sp nm ps e => hW u sp nm ps (List.mem_append_right _ e)⟩
  | .pick a b c, hb, hW => ⟨tBd_ok h hb.1 fun u sp nm ps e => hW u sp nm ps (List.mem_append_left _ e), tBd_ok h hb.2.1 fun u sp nm ps e => hW u sp nm ps (List.mem_append_right _ (List.mem_append_left _ e)), tBd_ok h hb.2.2 fun u sp nm ps e => hW u sp nm ps (List.mem_append_right _ (List.mem_append_right _ e))⟩
/-! recurrences otherwise -/
structure Tn (r : Rc) (o q : List Nat) (F : List Str) : Prop where
  o : o.Perm (List.range r.counts.length)
  q : q.Perm (List.range r.vars.length)
  len : F.length = r.vars.length
  nd : F.Nodup
  ok : ∀ x ∈ F, varOk x = true
def wd (r : Rc) (F : List Str) (x : Str) : Str := F.getD (r.names.idxOf x) ""
def dw (r : Rc) (F : List Str) (y : Str) : Str := r.names.getD (F.idxOf y) ""
def v0 : Str × Bd := ("", .lf (.num 0))
def tVa (r : Rc) (o : List Nat) (F : List Str) (p : Str × Bd) : Str × Bd := (wd r F p.1, tBd o (wd r F) p.2)
def tRc (r : Rc) (o q : List Nat) (F : List Str) : Rc := ⟨pm o r.counts, q.map fun k => tVa r o F (r.vars.getD k v0)⟩
section
variable {r : Rc} {o q : List Nat} {F : List Str}
theorem wd_in (T : Tn r o q F) {x : Str} (hx : x ∈ r.names) : wd r F x ∈ F := by
  have h1 := List.idxOf_lt_length_of_mem hx
  rw [names_len] at h1
  unfold wd
  rw [List.getD_eq_getElem?_getD, List.getElem?_eq_getElem (by rw [T.len]; exact h1)]
  exact List.getElem_mem _
theorem dw_wd (T : Tn r o q F) {x : Str} (hx : x ∈ r.names) : dw r F (wd r F x) = x := by
  have h1 := List.idxOf_lt_length_of_mem hx
  have h2 : r.names.idxOf x < F.length := by rw [T.len, ← names_len]; exact h1
  have e1 : wd r F x = F[r.names.idxOf x] := by
    unfold wd
    rw [List.getD_eq_getElem?_getD, List.getElem?_eq_getElem h2]
    rfl
  have e2 : F.idxOf (wd r F x) = r.names.idxOf x := by rw [e1]; exact T.nd.idxOf_getElem _ _
  unfold dw
  rw [e2, List.getD_eq_getElem?_getD, List.getElem?_eq_getElem h1]
  exact List.getElem_idxOf h1
theorem wd_inj (T : Tn r o q F) {x y : Str} (hx : x ∈ r.names) (hy : y ∈ r.names) (e : wd r F x = wd r F y) : x = y := by
  rw [← dw_wd T hx, ← dw_wd T hy, e]
theorem t_vars (T : Tn r o q F) : (tRc r o q F).vars.Perm (r.vars.map (tVa r o F)) := by
  have := (perm_getD T.q v0).map (tVa r o F)
  rw [List.map_map] at this
  exact this
theorem t_names (T : Tn r o q F) : (tRc r o q F).names.Perm (r.names.map (wd r F)) := by
  have := (t_vars T).map (·.1)
  rw [List.map_map] at this
  unfold Rc.names at *
  rw [List.map_map]
  exact this
theorem t_ok (T : Tn r o q F) (h : RcOk r) : RcOk (tRc r o q F) := by
  have hp : (pm o r.counts).Perm r.counts := pm_perm T.o
  have hl : (tRc r o q F).counts.length = r.counts.length := hp.length_eq
  have hvl : (tRc r o q F).vars.length = r.vars.length := by rw [(t_vars T).length_eq, List.length_map]
  refine ⟨by rw [hl]; exact h.c1, by rw [hl]; exact h.c3, fun i hi => h.c i (hp.mem_iff.mp hi), by rw [hvl]; exact h.v1, by rw [hvl]; exact h.v40, ?_, fun x hx => ?_, fun p hm => ?_⟩
  · rw [(t_names T).nodup_iff]
    have hnd := h.nd
    rw [List.nodup_iff_pairwise_ne] at hnd
    rw [List.nodup_iff_pairwise_ne, List.pairwise_map]
    exact hnd.imp_of_mem fun {a b} ha hb hab e => hab (wd_inj T ha hb e)
  · obtain ⟨y, hy, rfl⟩ := List.mem_map.mp ((t_names T).mem_iff.mp hx)
    exact T.ok _ (wd_in T hy)
  · obtain ⟨p, hp2, rfl⟩ := List.mem_map.mp ((t_vars T).mem_iff.mp hm)
    have hva := h.va p hp2
    rw [hl]
    refine ⟨tBd_ok T.o hva.ok fun u sp nm ps hu => T.ok _ (wd_in T (hva.uses u sp nm ps hu)), by show (tBd o _ p.2).deep ≤ 8; rw [tBd_deep]; exact hva.deep, by show (tBd o _ p.2).size ≤ 15; rw [tBd_size]; exact hva.size, fun u sp nm ps hu => ?_⟩
    have hu : Lf.use u sp nm ps ∈ (tBd o (wd r F) p.2).leaves := hu
    rw [tBd_leaves] at hu
    obtain ⟨l, hl2, e⟩ := List.mem_map.mp hu
    cases l with
    | use v s nm2 ps2 =>
      cases e
      exact (t_names T).mem_iff.mpr (List.mem_map.mpr ⟨v, hva.uses _ _ _ _ hl2, rfl⟩)
    | _ => cases e
def tNd (r : Rc) (o : List Nat) (F : List Str) (x : Nd) : Nd := ⟨wd r F x.own, wd r F x.used, pm o x.step⟩
theorem t_needs (T : Tn r o q F) (h : RcOk r) {y : Nd} : y ∈ (tRc r o q F).needs ↔ ∃ x ∈ r.needs, y = tNd r o F x := by
  have near : ∀ v ∈ r.vars, ∀ p ∈ v.2.ups, nearB (pm o p.2) (pm o r.counts) = nearB p.2 r.counts := fun v hv p hp => by
    have hl := (ups_ok h hv p hp).2
    exact pm_near hl (by rw [hl]; exact T.o)
  rw [needs_iff]
  constructor
  · rintro ⟨v', hv', h1, h2, h3⟩
    obtain ⟨v, hv, rfl⟩ := List.mem_map.mp ((t_vars T).mem_iff.mp hv')
    have h2 : (y.used, y.step) ∈ (tBd o (wd r F) v.2).ups := h2
    rw [tBd_ups] at h2
    obtain ⟨p, hp, e⟩ := List.mem_map.mp h2
    have e1 : wd r F p.1 = y.used := congrArg Prod.fst e
    have e2 : pm o p.2 = y.step := congrArg Prod.snd e
    refine ⟨⟨v.1, p.1, p.2⟩, needs_iff.mpr ⟨v, hv, rfl, hp, ?_⟩, ?_⟩
    · rw [← near v hv p hp, e2]
      exact h3
    · cases y
      unfold tNd
      simp only at h1 e1 e2 ⊢
      rw [e1, e2, h1]
      rfl
  · rintro ⟨x, hx, rfl⟩
    obtain ⟨v, hv, h1, h2, h3⟩ := needs_iff.mp hx
    refine ⟨tVa r o F v, (t_vars T).mem_iff.mpr (List.mem_map.mpr ⟨v, hv, rfl⟩), by show wd r F x.own = wd r F v.1; rw [h1], ?_, ?_⟩
    · show (wd r F x.used, pm o x.step) ∈ (tBd o (wd r F) v.2).ups
      rw [tBd_ups]
      exact List.mem_map.mpr ⟨_, h2, rfl⟩
    · show nearB (pm o x.step) (pm o r.counts) = true
      rw [near v hv _ h2]
      exact h3
theorem need_len (h : RcOk r) {x : Nd} (hx : x ∈ r.needs) : x.step.length = r.counts.length := (needs_in h x hx).2.2.2
theorem t_needs_len (T : Tn r o q F) (h : RcOk r) : (tRc r o q F).needs.length = r.needs.length := by
  have hp : (tRc r o q F).needs.Perm (r.needs.map (tNd r o F)) := by
    refine (List.perm_ext_iff_of_nodup (needs_nd _) ?_).mpr fun y => ?_
    · have hnd := needs_nd r
      rw [List.nodup_iff_pairwise_ne] at hnd
      rw [List.nodup_iff_pairwise_ne, List.pairwise_map]
      refine hnd.imp_of_mem fun {a b} ha hb hab e => hab ?_
      have e1 : wd r F a.own = wd r F b.own := congrArg Nd.own e
      have e2 : wd r F a.used = wd r F b.used := congrArg Nd.used e
      have e3 : pm o a.step = pm o b.step := congrArg Nd.step e
      have a1 := needs_in h a ha
      have b1 := needs_in h b hb
      have f1 := wd_inj T a1.1 b1.1 e1
      have f2 := wd_inj T a1.2.1 b1.2.1 e2
      have f3 := pm_inj T.o a1.2.2.2 b1.2.2.2 e3
      cases a
      cases b
      simp only at f1 f2 f3
      rw [f1, f2, f3]
    · rw [t_needs T h, List.mem_map]
      exact ⟨fun ⟨x, hx, e⟩ => ⟨x, hx, e.symm⟩, fun ⟨x, hx, e⟩ => ⟨x, hx, e.symm⟩⟩
  rw [hp.length_eq, List.length_map]
theorem t_base (T : Tn r o q F) {v : List Int} (hv : VecOk r.counts.length v) : (tRc r o q F).base (pm o v) = r.base v := by
  unfold Rc.base
  rw [show (tRc r o q F).counts = pm o r.counts from rfl, pm_low hv.1 (by rw [hv.1]; exact T.o)]
theorem feas_to (T : Tn r o q F) (h : RcOk r) {v : List Int} (hv : VecOk r.counts.length v) {p : Str → Int} (hf : BF.Feas (r.cs v) (r.base v) r.names p) : BF.Feas ((tRc r o q F).cs (pm o v)) ((tRc r o q F).base (pm o v)) (tRc r o q F).names fun y => p (dw r F y) := by
  obtain ⟨h1, h2⟩ := feas_iff.mp hf
  refine feas_iff.mpr ⟨fun y hy => ?_, fun y hy => ?_⟩
  · obtain ⟨x, hx, rfl⟩ := List.mem_map.mp ((t_names T).mem_iff.mp hy)
    rw [t_base T hv, dw_wd T hx]
    exact h1 x hx
  · obtain ⟨x, hx, rfl⟩ := (t_needs T h).mp hy
    have a1 := needs_in h x hx
    show p (dw r F (wd r F x.used)) + (1 - dot (pm o v) (pm o x.step)) ≤ p (dw r F (wd r F x.own))
    rw [dw_wd T a1.1, dw_wd T a1.2.1, pm_dot (by rw [hv.1, a1.2.2.2]) (by rw [hv.1]; exact T.o)]
    exact h2 x hx
theorem feas_from (T : Tn r o q F) (h : RcOk r) {v : List Int} (hv : VecOk r.counts.length v) {p : Str → Int} (hf : BF.Feas ((tRc r o q F).cs (pm o v)) ((tRc r o q F).base (pm o v)) (tRc r o q F).names p) : BF.Feas (r.cs v) (r.base v) r.names fun x => p (wd r F x) := by
  obtain ⟨h1, h2⟩ := feas_iff.mp hf
  refine feas_iff.mpr ⟨fun x hx => ?_, fun x hx => ?_⟩
  · have := h1 (wd r F x) ((t_names T).mem_iff.mpr (List.mem_map.mpr ⟨x, hx, rfl⟩))
    rw [t_base T hv] at this
    exact this
  · have a1 := needs_in h x hx
    have := h2 (tNd r o F x) ((t_needs T h).mpr ⟨x, hx, rfl⟩)
    have e : dot (pm o v) (tNd r o F x).step = dot v x.step := pm_dot (by rw [hv.1, a1.2.2.2]) (by rw [hv.1]; exact T.o)
    rw [e] at this
    exact this
theorem t_least (T : Tn r o q F) (h : RcOk r) {v : List Int} (hv : VecOk r.counts.length v) {l l' : Str → Int} (hl : BF.Least (r.cs v) (r.base v) r.names l) (hl' : BF.Least ((tRc r o q F).cs (pm o v)) ((tRc r o q F).base (pm o v)) (tRc r o q F).names l') : ∀ x ∈ r.names, l' (wd r F x) = l x := by
  intro x hx
  have h1 := hl.le _ (feas_from T h hv hl'.feas) x hx
  have h2 := hl'.le _ (feas_to T h hv hl.feas) (wd r F x) ((t_names T).mem_iff.mpr (List.mem_map.mpr ⟨x, hx, rfl⟩))
  simp only [dw_wd T hx] at h2
  omega
theorem mxL_perm {a b : List Int} (h : a.Perm b) : mxL a = mxL b := by
  cases a with
  | nil => rw [List.nil_perm.mp h]
  | cons x a =>
    have hm := mxL_mem (l := x :: a) (by simp)
    exact mxL_of (h.mem_iff.mp hm) fun y hy => mxL_le (h.mem_iff.mpr hy)
theorem t_len (T : Tn r o q F) {v : List Int} (hv : VecOk r.counts.length v) {l l' : Str → Int} (he : ∀ x ∈ r.names, l' (wd r F x) = l x) : lenR (tRc r o q F) (pm o v) l' = lenR r v l := by
  have e1 : mxL ((tRc r o q F).names.map l') = mxL (r.names.map l) := by
    have h1 := mxL_perm ((t_names T).map l')
    rw [List.map_map] at h1
    rw [h1]
    congr 1
    exact List.map_congr_left fun x hx => he x hx
  unfold lenR
  rw [e1, show (tRc r o q F).counts = pm o r.counts from rfl, pm_high hv.1 (by rw [hv.1]; exact T.o)]
theorem t_off (T : Tn r o q F) {l l' : Str → Int} (he : ∀ x ∈ r.names, l' (wd r F x) = l x) : offV (tRc r o q F).names l' = .tup (q.map fun k => .int ((r.names.map l).getD k 0)) := by
  unfold offV tRc Rc.names
  rw [List.map_map, List.map_map]
  congr 1
  refine List.map_congr_left fun k hk => ?_
  have hk : k < r.vars.length := List.mem_range.mp (T.q.mem_iff.mp hk)
  have hx : (r.vars.getD k v0).1 ∈ r.names := by
    rw [List.getD_eq_getElem?_getD, List.getElem?_eq_getElem hk]
    exact List.mem_map.mpr ⟨_, List.getElem_mem hk, rfl⟩
  show Val.int (l' (wd r F (r.vars.getD k v0).1)) = _
  rw [he _ hx]
  simp [List.getElem?_eq_getElem hk]
end
end K35
end

section
set_option Elab.async false
set_option linter.all false
set_option maxRecDepth 100000
set_option maxHeartbeats 400000
namespace K35
open PySem PySem.Spec PyProof.Rows L2 L3
def natI (o : List Nat) : List Int := o.map fun (i : Nat) => (i : Int)
def natV (o : List Nat) : List Val := (natI o).map .int
def ShI (st : Sto) (k n : Nat) (L G : List Nat) (s : Sto) : Prop := s[st.length]? = some (.lst (natV L)) ∧ s[st.length + 1]? = some (.lst (natV G)) ∧ (G ++ L).Perm (List.range n) ∧ Bud (L.length + k) s ∧ Stay st s
theorem erase_perm {α : Type} : ∀ {L : List α} {i : Nat} (h : i < L.length), (L[i] :: L.eraseIdx i).Perm L
  | a :: L, 0, _ => .refl _
  | a :: L, i + 1, h => by
    have ih := erase_perm (L := L) (i := i) (by simpa using h)
    exact (List.Perm.swap ..).trans (ih.cons a)
theorem perm_take {L G R : List Nat} {i : Nat} (h : (G ++ L).Perm R) (hi : i < L.length) : ((G ++ [L[i]]) ++ L.eraseIdx i).Perm R := by
  refine List.Perm.trans ?_ h
  rw [List.append_assoc]
  refine List.Perm.append_left G ?_
  exact erase_perm hi
theorem natV_get {L : List Nat} {i : Nat} (h : i < L.length) : (natV L)[i]? = some (.int (L[i] : Nat)) := by
  simp [natV, natI, h]
theorem natV_len (L : List Nat) : (natV L).length = L.length := by simp [natV, natI]
theorem sh_while (w : World) {ns : List Int} (hs : ns.length ≤ 63) {n k : Nat} (hn : n ≤ 40) {st : Sto} (h0 : 0 < st.length) {x : Val} : ∀ (fuel : Nat) (L G : List Nat) (s : Sto), L.length < fuel → ShI st k n L G s →
    WpS (whileN (mTest (mOp2 neM (mVar 3) (mLst aNil))) (mExpr (mMet "list" appendM (mVar 4) (aCons (mMet "list" popAtM (mVar 3) (aCons (mCall (F__law_drawn w) [] (aCons (mVar 0) (aCons (mVar 1) (aCons (mOps lenM (aCons (mVar 3) aNil)) aNil)))) aNil)) aNil))) fuel [some (scr ns), some (.loc 0), some x, some (.loc st.length), some (.loc (st.length + 1))] s)
      (fun fl s => fl = .nx [some (scr ns), some (.loc 0), some x, some (.loc st.length), some (.loc (st.length + 1))] ∧ ∃ G, ShI st k n [] G s) := by
  intro fuel
  induction fuel with
  | zero => intro L G s h; omega
  | succ fuel ih =>
    rintro L G s h1 ⟨hL, hG, hp, hb, hst⟩
    have hlen : G.length + L.length = n := by
      have := hp.length_eq
      simpa using this
    have hne := neM_loc_nil hL (dats_ints (k := 60))
    unfold whileN
    rw [WpS_go]
    cases L with
    | nil =>
      simp [hne, natV, natI]
      exact ⟨G, hL, hG, hp, hb, hst⟩
    | cons a L =>
      have hlen' : G.length + (L.length + 1) = n := by simpa using hlen
      have hl := lenM_loc hL
      rw [natV_len] at hl
      have ht := tyM_loc hL
      have ht2 := tyM_loc hG
      simp [hne, natV, natI]
      simp [ht, ht2, hl]
      refine (drawn_spec w hs (b := ((L.length : Int) + 1)) (by omega) (k := L.length + k) (hb.mono (by simp; omega))).mono ?_
      rintro _ s2 ⟨i, rfl, hi0, hi1, hb2, hst2⟩
      have hL2 := hst2.at (by omega) hL
      have hG2 := hst2.at (by omega) hG
      have hlt : i.toNat < (a :: L).length := by simp; omega
      have hpop := popAtM_loc (i := i) hL2 (by rw [natV_len, List.length_cons]; omega) hi0 (natV_get hlt)
      have hap := appendM_loc (st := s2.set st.length (.lst ((natV (a :: L)).eraseIdx i.toNat))) (n := st.length + 1) (l := natV G) (v := .int ((a :: L)[i.toNat] : Nat)) (by rw [List.getElem?_set_ne (by omega)]; exact hG2) (by rw [natV_len]; exact Nat.lt_of_lt_of_le (by omega : G.length < 100000) line_big)
      simp only [hpop, Wp_ok, hap]
      have hlt1 : st.length < s2.length := (List.getElem?_eq_some_iff.mp hL2).1
      have hlt2 : st.length + 1 < s2.length := (List.getElem?_eq_some_iff.mp hG2).1
      refine ih ((a :: L).eraseIdx i.toNat) (G ++ [(a :: L)[i.toNat]]) _ (by rw [List.length_eraseIdx, if_pos hlt]; simp at h1 ⊢; omega) ⟨?_, ?_, perm_take hp hlt, ?_, ?_⟩
      · rw [List.getElem?_set_ne (by omega), List.getElem?_set_self hlt1]
        unfold natV natI
        rw [L3.map_eraseIdx, L3.map_eraseIdx]
      · rw [List.getElem?_set_self (by simp; exact hlt2)]
        simp [natV, natI]
      · refine ((hb2.setN (by omega)).setN (by omega)).mono ?_
        rw [List.length_eraseIdx, if_pos hlt]
        simp
      · exact (((hst.trans hst2).setN (Nat.le_refl _)).setN (by omega))
theorem shuffled_spec (w : World) {ns : List Int} (hs : ns.length ≤ 63) {n k : Nat} (hn : n ≤ 40) {st : Sto} (hst : Bud (n + k) st) :
    Wp (F__law_shuffled w [scr ns, .loc 0, .lst (natV (List.range n))] st) fun v s => ∃ o, v = .lst (natV o) ∧ o.Perm (List.range n) ∧ Bud k s ∧ Stay st s := by
  have hpos := hst.pos
  unfold F__law_shuffled
  refine wp_runB rfl ?_
  have e1 : lstLM [.lst (natV (List.range n))] st = .ok (.loc st.length) (st ++ [.lst (natV (List.range n))]) := rfl
  simp [m__law_shuffled, e1]
  refine (sh_while w hs (k := k) hn hpos 41 (List.range n) [] (st ++ [.lst (natV (List.range n)), .lst []]) (by simp; omega) ⟨by simp, by simp [natV, natI], by simp, ?_, ?_⟩).mono ?_
  · rw [List.length_range]
    have := (hst.push (o := .lst (natV (List.range n)))).push (o := .lst [])
    simpa using this
  · have := ((Stay.refl (st := st)).push (o := .lst (natV (List.range n)))).push (o := .lst [])
    simpa using this
  · rintro _ s ⟨rfl, G, hL, hG, hp, hb, hst2⟩
    simp [frzM_loc hG]
    exact ⟨G, rfl, by simpa using hp, (hb.mono (by simp)).setN (by omega), hst2.setN (by omega)⟩
end K35
end

section
set_option Elab.async false
set_option linter.all false
set_option maxRecDepth 100000
set_option maxHeartbeats 400000
namespace K35
open PySem PySem.Spec PyProof.Rows L2 L3
/-- a dict by texts, of texts -/
def dsP (ns : List Str) (W : Str → Str) : List (Key × Val) := ns.map fun x => ((Sum.inr x : Key), Val.str (W x))
theorem valD_dsP {W : Str → Str} {x : Str} : ∀ {ns : List Str}, x ∈ ns → valD (dsP ns W) (.inr x) = some (.str (W x))
  | [], h => nomatch h
  | a :: ns, h => by
    unfold dsP valD
    rw [List.map_cons, List.find?_cons]
    by_cases e : a = x
    · subst e; simp
    · have hx := (List.mem_cons.mp h).resolve_left fun q => e q.symm
      have := valD_dsP (W := W) hx
      unfold dsP valD at this
      have ne : decide ((Sum.inr a : Key) = Sum.inr x) = false := decide_eq_false fun q => e (Sum.inr.inj q)
      rw [ne]
      exact this
theorem dgetM_dsP {st : Sto} {n : Nat} {ns : List Str} {W : Str → Str} {x : Str} (h : st[n]? = some (.dk (dsP ns W))) (hx : x ∈ ns) : dgetM (.loc n) (.str x) st = .ok (.str (W x)) st := by
  unfold dgetM
  rw [dkOf_at h]
  simp only [keyV, valD_dsP hx]
theorem flVs_ints : ∀ l : List Int, flVs (l.map .int) = some (l.map V.int)
  | [] => rfl
  | a :: l => by
    show (flV (.int a)).bind (fun x => (flVs (l.map .int)).map fun r => x :: r) = _
    rw [flVs_ints]
    rfl
theorem indexM_nat {o : List Nat} {k : Int} {st : Sto} (h0 : 0 ≤ k) (h : k.toNat ∈ o) : indexM (.lst (natV o)) [.int k] st = .ok (.int (o.idxOf k.toNat : Nat)) st := by
  have e1 : (lsOf st (.lst (natV o))).bind flVs = some ((natI o).map V.int) := flVs_ints _
  have e2 : ((natI o).map V.int).findIdx? (fun z => eqV z (.int k)) = some (o.idxOf k.toNat) := by
    have hlt := List.idxOf_lt_length_of_mem h
    rw [List.findIdx?_eq_some_iff_getElem]
    refine ⟨by simpa [natI] using hlt, ?_, fun j hj => ?_⟩
    · simp [natI, eqV, List.getElem_idxOf hlt]
      omega
    · have hjl : j < o.length := by omega
      simp [natI, eqV]
      intro e
      have : o[j] = k.toNat := by omega
      have h2 := List.not_of_lt_findIdx (p := (· == k.toNat)) hj
      rw [this] at h2
      simp at h2
  unfold indexM
  simp only [e1, flV, e2]
def BdU (names : List Str) (b : Bd) : Prop := ∀ u sp nm ps, Lf.use u sp nm ps ∈ b.leaves → u ∈ names
structure TbC (n : Nat) (o : List Nat) (names : List Str) (W : Str → Str) (a : Nat) (st : Sto) : Prop where
  o : o.Perm (List.range n)
  n3 : n ≤ 3
  at_ : st[a]? = some (.dk (dsP names W))
theorem tPs_go {n : Nat} {o : List Nat} (ho : o.Perm (List.range n)) {ps : List (Int × Int)} (hp : SubsOk n ps) {st : Sto} {σ0 : L3.Env} (h1 : ∀ a b : Val, ((σ0.set 5 (some a)).set 6 (some b))[1]? = some (some (.lst (natV o)))) (h5 : ∀ a b : Val, ((σ0.set 5 (some a)).set 6 (some b))[5]? = some (some a)) (h6 : ∀ a b : Val, ((σ0.set 5 (some a)).set 6 (some b))[6]? = some (some b)) :
    lcGo always (gT 2 (gsCons (gN 5) (gsCons (gN 6) gsNil))) mYes (mTup (aCons (mMet "list" indexM (mVar 1) (aCons (mVar 5) aNil)) (aCons (mVar 6) aNil))) σ0 (ps.map pv) [] st = .ok ((tPs o ps).map pv) st := by
  have k := lcGo_map (keep := always) (g := gT 2 (gsCons (gN 5) (gsCons (gN 6) gsNil))) (me := mTup (aCons (mMet "list" indexM (mVar 1) (aCons (mVar 5) aNil)) (aCons (mVar 6) aNil))) (σ0 := σ0) (st := st) (fun u => match u with | .tup [.int a, b] => .tup [.int (o.idxOf a.toNat : Nat), b] | _ => .non) trivial (ps.map pv) (fun u hu => by
    obtain ⟨p, hp2, rfl⟩ := List.mem_map.mp hu
    have ha := hp.at_ p hp2
    have hm : p.1.toNat ∈ o := ho.mem_iff.mpr (List.mem_range.mpr (by omega))
    have hix := indexM_nat (st := st) ha.1.1 hm
    refine ⟨((σ0.set 5 (some (.int p.1))).set 6 (some (.int p.2))), rfl, ?_⟩
    have ht : tyM "list" st (.lst (natV o)) = true := rfl
    simp [h1, h5, h6, hix, ht, sizeLine, pv]) (by
    have := hp.hi
    have := hp.small
    rw [List.length_map]
    exact Nat.le_trans (by omega : ps.length ≤ 100000) line_big)
  rw [k, List.map_map]
  unfold tPs
  rw [List.map_map]
  rfl
theorem turned_lf (w : World) (rec : List Val → Sto → Res Val) {n : Nat} {o : List Nat} {names : List Str} {W : Str → Str} {a : Nat} {st : Sto} (C : TbC n o names W a st) {l : Lf} (hl : l.Ok n) (hu : ∀ u sp nm ps, l = .use u sp nm ps → u ∈ names) :
    runB (m__law_turned_body w rec) 8 3 [l.val, .lst (natV o), .loc a] st = .ok (tLf o W l).val st := by
  have hn3 := C.n3
  have ht : tyM "list" st (.lst (natV o)) = true := rfl
  cases l with
  | num i =>
    simp only [m__law_turned_body, runB]
    simp [Lf.val, tLf]
  | loop k =>
    have h0 : 0 ≤ k ∧ k ≤ (n : Int) - 1 := hl
    have hix := indexM_nat (st := st) h0.1 (C.o.mem_iff.mpr (List.mem_range.mpr (by omega)))
    simp only [m__law_turned_body, runB]
    simp [Lf.val, tLf, hix, ht, sizeLine]
  | given nm ps =>
    have hgo := tPs_go C.o hl.2 (st := st) (σ0 := wipeE [some (Lf.given nm ps).val, some (.lst (natV o)), some (.loc a), some (.str "given"), none, none, none, none] [5, 6]) (fun _ _ => rfl) (fun _ _ => rfl) (fun _ _ => rfl)
    have hin := inM_strs (x := "given") (l := ["given", "use"]) (v := .tup [.str "given", .str "use"]) (st := st) rfl
    simp only [Lf.val, subsV, wipeE, List.set_cons_succ, List.set_cons_zero] at hgo
    simp only [m__law_turned_body, runB]
    have hm1 : ∀ x y z : Val, atI [x, y, z] (-1) = some z := fun _ _ _ => rfl
    simp [Lf.val, tLf, subsV, hin, wipeE, hm1, hgo, sizeLine]
  | use v s nm ps =>
    have hv := hu v s nm ps rfl
    have hsl : s.length = n := by have := hl.2.1.len; omega
    have hgo := tPs_go C.o hl.2.2.2 (st := st) (σ0 := wipeE [some (Lf.use v s nm ps).val, some (.lst (natV o)), some (.loc a), some (.str "use"), none, none, none, none] [5, 6]) (fun _ _ => rfl) (fun _ _ => rfl) (fun _ _ => rfl)
    have hin := inM_strs (x := "use") (l := ["given", "use"]) (v := .tup [.str "given", .str "use"]) (st := st) rfl
    have hd := dgetM_dsP C.at_ hv
    have hgo2 := lcGo_map (keep := always) (g := gN 5) (me := mOp2 getM (mOp2 getM (mVar 0) (mVal (.int 2))) (mVar 5)) (σ0 := wipeE [some (Lf.use v s nm ps).val, some (.lst (natV o)), some (.loc a), some (.str "use"), some (subsV (tPs o ps)), none, none, none] [5]) (st := st) (fun u => match u with | .int i => .int (s.getD i.toNat 0) | _ => .non) trivial (natV o) (fun u hu => by
      obtain ⟨i, hi, rfl⟩ := List.mem_map.mp hu
      obtain ⟨j, hj, rfl⟩ := List.mem_map.mp hi
      have hjn : j < s.length := by rw [hsl]; exact List.mem_range.mp (C.o.mem_iff.mp hj)
      refine ⟨_, rfl, ?_⟩
      have hat : atI (s.map Val.int) (j : Int) = some (.int s[j]) := by
        rw [atI_pos (by omega) (by simp; omega)]
        simp [hjn]
      generalize hJ : ((j : Nat) : Int) = J at hat
      have hJ2 : J.toNat = j := by omega
      simp [wipeE, Lf.val, hat, hJ2, hjn]) (by
      rw [natV_len, C.o.length_eq, List.length_range]
      exact Nat.le_trans (by omega : n ≤ 100000) line_big)
    have e2 : (natV o).map (fun u => match u with | .int i => Val.int (s.getD i.toNat 0) | _ => Val.non) = (pm o s).map .int := by
      unfold natV natI pm
      rw [List.map_map, List.map_map, List.map_map]
      rfl
    rw [e2] at hgo2
    simp only [Lf.val, subsV, wipeE, List.set_cons_succ, List.set_cons_zero] at hgo hgo2
    simp only [m__law_turned_body, runB]
    have hm1 : ∀ x y z u v : Val, atI [x, y, z, u, v] (-1) = some v := fun _ _ _ _ _ => rfl
    simp [Lf.val, tLf, subsV, hin, wipeE, hm1, hgo, hgo2, hd, sizeLine]
theorem ops_other {op : Str} (h : op ∈ opsL) : op ≠ "num" ∧ op ≠ "loop" ∧ op ∉ (["given", "use"] : List Str) := by
  have : ∀ op ∈ opsL, op ≠ "num" ∧ op ≠ "loop" ∧ op ∉ (["given", "use"] : List Str) := by decide +kernel
  exact this op h
theorem turned_body (w : World) {n : Nat} {o : List Nat} {names : List Str} {W : Str → Str} {a : Nat} {st : Sto} (C : TbC n o names W a st) : ∀ (f : Nat) (b : Bd), b.deep < f → b.Ok n → BdU names b → F__law_turned_body w f [b.val, .lst (natV o), .loc a] st = .ok (tBd o W b).val st := by
  intro f
  induction f with
  | zero => intro b h; omega
  | succ f ih =>
    intro b hf hb hu
    show runB (m__law_turned_body w (F__law_turned_body w f)) 8 3 _ st = _
    cases b with
    | lf l => exact turned_lf w _ C hb fun u sp nm ps e => hu u sp nm ps (by rw [e, Bd.leaves]; exact List.mem_singleton.mpr rfl)
    | two op x y =>
      obtain ⟨h1, h2, h3⟩ := hb
      obtain ⟨o1, o2, o3⟩ := ops_other h1
      have hd : 1 + max x.deep y.deep < f + 1 := hf
      have ex := ih x (by omega) h2 fun u sp nm ps e => hu u sp nm ps (List.mem_append_left _ e)
      have ey := ih y (by omega) h3 fun u sp nm ps e => hu u sp nm ps (List.mem_append_right _ e)
      have hin := inM_strs (x := op) (l := ["given", "use"]) (v := .tup [.str "given", .str "use"]) (st := st) rfl
      rw [decide_eq_false o3] at hin
      simp only [m__law_turned_body, runB]
      simp [Bd.val, tBd, hin, o1, o2, sizeLine, cutM_tup1, wipeE, lcGo, ex, ey, addV_tup, mYes]
    | pick x y z =>
      obtain ⟨h2, h3, h4⟩ := hb
      have hd : 1 + max x.deep (max y.deep z.deep) < f + 1 := hf
      have ex := ih x (by omega) h2 fun u sp nm ps e => hu u sp nm ps (List.mem_append_left _ e)
      have ey := ih y (by omega) h3 fun u sp nm ps e => hu u sp nm ps (List.mem_append_right _ (List.mem_append_left _ e))
      have ez := ih z (by omega) h4 fun u sp nm ps e => hu u sp nm ps (List.mem_append_right _ (List.mem_append_right _ e))
      have hin := inM_strs (x := "pick") (l := ["given", "use"]) (v := .tup [.str "given", .str "use"]) (st := st) rfl
      simp only [m__law_turned_body, runB]
      simp [Bd.val, tBd, hin, sizeLine, cutM_tup1, wipeE, lcGo, ex, ey, ez, addV_tup, mYes]
end K35
end

section
set_option Elab.async false
set_option linter.all false
set_option maxRecDepth 100000
set_option maxHeartbeats 400000
namespace K35
open PySem PySem.Spec PyProof.Rows L2 L3
theorem Wp_is {α : Type} {r : Res α} {a : α} {s : Sto} {Q : α → Sto → Prop} (e : r = .ok a s) (h : Q a s) : Wp r Q := by rw [e, Wp_ok]; exact h
theorem prs_dsP {ns : List Str} {W : Str → Str} : prsOf (ns.map fun x => Val.tup [.str x, .str (W x)]) = some (dsP ns W) := by
  induction ns with
  | nil => rfl
  | cons a ns ih =>
    show (keyV (.str a)).bind (fun k => (prsOf (ns.map fun x => Val.tup [.str x, .str (W x)])).map fun r => (k, Val.str (W a)) :: r) = _
    rw [ih]
    rfl
theorem rg_nat (n : Nat) : rgL 0 (n : Int) = natV (List.range n) := by
  unfold rgL natV natI
  rw [List.map_map]
  congr 1
  all_goals (first | (funext i; simp) | simp)
theorem zip_words {r : Rc} {F : List Str} (hl : F.length = r.vars.length) (hn : r.names.Nodup) : (zipL (r.vars.map vaV) (F.map .str)).map (fun u => match u with | .tup [.tup [x, _], y] => .tup [x, y] | _ => Val.non) = r.names.map fun x => Val.tup [.str x, .str (wd r F x)] := by
  unfold zipL
  rw [List.map_map]
  apply List.ext_getElem
  · simp [names_len, hl]
  · intro i h1 h2
    have hi : i < r.vars.length := by simpa [names_len] using h2
    have hin : i < r.names.length := by rw [names_len]; exact hi
    have hiF : i < F.length := by omega
    have e : r.names.idxOf r.names[i] = i := hn.idxOf_getElem i hin
    have en : r.names[i] = r.vars[i].1 := by simp [Rc.names]
    have ew : wd r F r.names[i] = F[i] := by
      unfold wd
      rw [e]
      simp [hiF]
    simp [vaV]
    rw [← en, ew]
    exact ⟨rfl, rfl⟩
theorem atI_nat {l : List Val} {j : Nat} (h : j < l.length) : atI l (j : Int) = some l[j] := by
  rw [atI_pos (by omega) (by omega)]
  simp [h]
def TnQ (st0 : Sto) (k : Nat) (r : Rc) (v : Val) (s : Sto) : Prop := ∃ o q F, v = .tup [(tRc r o q F).val, .lst (natV o), .lst (natV q)] ∧ Tn r o q F ∧ Bud k s ∧ Stay st0 s
theorem turned_spec (w : World) {ns : List Int} (hs : ns.length ≤ 63) {r : Rc} (h : RcOk r) {k : Nat} {st : Sto} (hst : Bud (300 + k) st) :
    Wp (F__law_turned w [scr ns, .loc 0, r.val] st) (TnQ st k r) := by
  have hc3 := h.c3
  have hv40 := h.v40
  have hnl := names_len (r := r)
  have hg1 : ∀ s, getM r.val (.int 1) s = .ok (.tup (r.vars.map vaV)) s := fun _ => rfl
  have hg0 : ∀ s, getM r.val (.int 0) s = .ok (.tup (r.counts.map .int)) s := fun _ => rfl
  have ok1 : okRg 0 (r.counts.length : Int) = true := okRg_iff.mpr ⟨by omega, by omega, by omega, by omega⟩
  have ok2 : okRg 0 (r.vars.length : Int) = true := okRg_iff.mpr ⟨by omega, by omega, by omega, by omega⟩
  unfold F__law_turned
  refine wp_runB rfl ?_
  simp [m__law_turned, hg0, hg1, ok1, ok2, rg_nat]
  refine (shuffled_spec w hs (n := r.counts.length) (k := 290 + k) (by omega) (hst.mono (by omega))).mono ?_
  rintro _ s1 ⟨o, rfl, ho, hb1, hst1⟩
  simp [hg0, hg1, ok1, ok2, rg_nat]
  refine (shuffled_spec w hs (n := r.vars.length) (k := 245 + k) (by omega) (hb1.mono (by omega))).mono ?_
  rintro _ s2 ⟨q, rfl, hq, hb2, hst2⟩
  have hql : q.length = r.vars.length := by rw [hq.length_eq, List.length_range]
  have hol : o.length = r.counts.length := by rw [ho.length_eq, List.length_range]
  simp [natV_len, hql]
  refine (called_spec w hs (N := r.vars.length) rfl hv40 (k := k) (hb2.mono (by omega))).mono ?_
  rintro _ s3 ⟨F, rfl, hFl, hFn, hFo, hb3, hst3⟩
  have T : Tn r o q F := ⟨ho, hq, hFl, hFn, hFo⟩
  have sts : Stay st s3 := (hst1.trans hst2).trans hst3
  simp [hg1]
  have k1 := lcGo_map (keep := fun _ => True) (g := gT 2 (gsCons (gN 7) (gsCons (gN 8) gsNil))) (me := mTup (aCons (mOp2 getM (mVar 7) (mVal (.int 0))) (aCons (mVar 8) aNil))) (σ0 := wipeE [some (scr ns), some (.loc 0), some r.val, some (.lst (natV o)), some (.lst (natV q)), some (.lst (F.map .str)), none, none, none, none, none, none] [7, 8]) (st := s3) (fun u => match u with | .tup [.tup [x, _], y] => .tup [x, y] | _ => .non) trivial (zipL (r.vars.map vaV) (F.map .str)) (fun u hu => by
    unfold zipL at hu
    obtain ⟨p, hp, rfl⟩ := List.mem_map.mp hu
    obtain ⟨h1, h2⟩ := List.of_mem_zip hp
    obtain ⟨va, hva, e1⟩ := List.mem_map.mp h1
    obtain ⟨f, hf, e2⟩ := List.mem_map.mp h2
    refine ⟨_, rfl, ?_⟩
    rw [← e1, ← e2]
    simp [wipeE, vaV, sizeLine]) (by
    unfold zipL
    rw [List.length_map, List.length_zip, List.length_map]
    exact Nat.le_trans (by omega : min r.vars.length _ ≤ 100000) line_big)
  rw [zip_words hFl h.nd] at k1
  refine Wp_is k1 ?_
  have e2 : dictPM [.lst (r.names.map fun x => Val.tup [.str x, .str (wd r F x)])] s3 = .ok (.loc s3.length) (s3 ++ [.dk (dsP r.names (wd r F))]) := by
    unfold dictPM
    simp only [lsOf_lst, Option.bind_some, prs_dsP]
    rw [mergeD_new (l := []) (by
      rw [List.nil_append, dsP, List.map_map]
      exact List.pairwise_map.mpr (h.nd.imp fun hab e => hab (Sum.inr.inj e)))]
    rfl
  simp [e2]
  have C : TbC r.counts.length o r.names (wd r F) s3.length (s3 ++ [.dk (dsP r.names (wd r F))]) := ⟨ho, hc3, by simp⟩
  have k2 := lcGo_map (keep := always) (g := gN 10) (me := mTup (aCons (mOp2 dgetM (mVar 6) (mOp2 getM (mOp2 getM (mOp2 getM (mVar 2) (mVal (.int 1))) (mVar 10)) (mVal (.int 0)))) (aCons (mCall (F__law_turned_body w 16) [] (aCons (mOp2 getM (mOp2 getM (mOp2 getM (mVar 2) (mVal (.int 1))) (mVar 10)) (mVal (.int 1))) (aCons (mVar 3) (aCons (mVar 6) aNil)))) aNil))) (σ0 := wipeE [some (scr ns), some (.loc 0), some r.val, some (.lst (natV o)), some (.lst (natV q)), some (.lst (F.map .str)), some (.loc s3.length), none, none, none, none, none] [10]) (st := s3 ++ [.dk (dsP r.names (wd r F))]) (fun u => match u with | .int i => vaV (tVa r o F (r.vars.getD i.toNat v0)) | _ => .non) trivial (natV q) (fun u hu => by
    obtain ⟨i, hi, rfl⟩ := List.mem_map.mp hu
    obtain ⟨j, hj, rfl⟩ := List.mem_map.mp hi
    have hjn : j < r.vars.length := List.mem_range.mp (hq.mem_iff.mp hj)
    refine ⟨_, rfl, ?_⟩
    have hat : atI (r.vars.map vaV) (j : Int) = some (vaV r.vars[j]) := by
      rw [atI_nat (by simp; exact hjn)]
      simp
    generalize hJ : ((j : Nat) : Int) = J at hat
    have hJ2 : J.toNat = j := by omega
    have hm : r.vars[j] ∈ r.vars := List.getElem_mem hjn
    have hva := h.va _ hm
    have hd := dgetM_dsP C.at_ (x := r.vars[j].1) (List.mem_map.mpr ⟨_, hm, rfl⟩)
    have htb := turned_body w C 16 r.vars[j].2 (by have := hva.deep; omega) hva.ok hva.uses
    have e0 : ∀ s, getM (vaV r.vars[j]) (.int 0) s = .ok (.str r.vars[j].1) s := fun _ => rfl
    have e1 : ∀ s, getM (vaV r.vars[j]) (.int 1) s = .ok r.vars[j].2.val s := fun _ => rfl
    simp [wipeE, hg1, hat, e0, e1, hd, htb, sizeLine, hJ2, hjn]
    rfl) (by rw [natV_len, hql]; exact Nat.le_trans (by omega : r.vars.length ≤ 100000) line_big)
  have e3 : (natV q).map (fun u => match u with | .int i => vaV (tVa r o F (r.vars.getD i.toNat v0)) | _ => Val.non) = (tRc r o q F).vars.map vaV := by
    unfold natV natI tRc
    rw [List.map_map, List.map_map, List.map_map]
    rfl
  rw [e3] at k2
  refine Wp_is k2 ?_
  have k3 := lcGo_map (keep := always) (g := gN 11) (me := mOp2 getM (mOp2 getM (mVar 2) (mVal (.int 0))) (mVar 11)) (σ0 := wipeE [some (scr ns), some (.loc 0), some r.val, some (.lst (natV o)), some (.lst (natV q)), some (.lst (F.map .str)), some (.loc s3.length), none, none, some (.lst ((tRc r o q F).vars.map vaV)), none, none] [11]) (st := s3 ++ [.dk (dsP r.names (wd r F))]) (fun u => match u with | .int i => .int (r.counts.getD i.toNat 0) | _ => .non) trivial (natV o) (fun u hu => by
    obtain ⟨i, hi, rfl⟩ := List.mem_map.mp hu
    obtain ⟨j, hj, rfl⟩ := List.mem_map.mp hi
    have hjn : j < r.counts.length := List.mem_range.mp (ho.mem_iff.mp hj)
    refine ⟨_, rfl, ?_⟩
    have hat : atI (r.counts.map Val.int) (j : Int) = some (.int r.counts[j]) := by
      rw [atI_nat (by simp; exact hjn)]
      simp
    generalize hJ : ((j : Nat) : Int) = J at hat
    have hJ2 : J.toNat = j := by omega
    simp [wipeE, hg0, hat, hJ2, hjn]) (by rw [natV_len, hol]; exact Nat.le_trans (by omega : r.counts.length ≤ 100000) line_big)
  have e4 : (natV o).map (fun u => match u with | .int i => Val.int (r.counts.getD i.toNat 0) | _ => Val.non) = (pm o r.counts).map .int := by
    unfold natV natI pm
    rw [List.map_map, List.map_map, List.map_map]
    rfl
  rw [e4] at k3
  refine Wp_is k3 ?_
  simp [sizeLine]
  exact ⟨o, q, F, rfl, T, hb3.push, sts.push⟩
end K35
end

section
set_option Elab.async false
set_option linter.all false
set_option maxRecDepth 100000
set_option maxHeartbeats 400000
namespace K35
open PySem PySem.Spec PyProof.Rows L2 L3
theorem eqM_ints {a b : List Int} {st : Sto} : eqM (.tup (a.map .int)) (.tup (b.map .int)) st = .ok (.bl (decide (a = b))) st := by
  have h1 : ∀ a : List Int, toD (.tup (a.map .int)) = some (.tuple (a.map PyData.int)) := fun a => by
    unfold toD
    rw [toDs_ints]
    rfl
  have s1 : ∀ a : List Int, SeqAt.shaped (.tuple (a.map PyData.int)) = true := fun a => dat_shaped (Dat.tup (k := 0) dats_ints) (h1 a) (by decide)
  have h2 : PyData.eqv (.tuple (a.map PyData.int)) (.tuple (b.map PyData.int)) = decide (a = b) := by
    show PyData.eqvAll _ _ = _
    exact eqv_ints a b
  have hw : eqW st (.tup (a.map .int)) (.tup (b.map .int)) = some (decide (a = b)) := by
    unfold eqW
    have e1 : eqS (.tup (a.map .int)) (.tup (b.map .int)) = none := rfl
    rw [e1]
    have e2 : ∀ a : List Int, toDst st (.tup (a.map .int)) = some (.tuple (a.map PyData.int)) := h1
    simp only [e2, s1, h2]
    rfl
  unfold eqM
  rw [hw]
theorem notInT_nds {x : Nd} {l : List Nd} {st : Sto} (hl : ∀ y ∈ l, NdOk y) (hx : NdOk x) : notInTM x.val (.tup (l.map Nd.val)) st = .ok (.bl (!decide (x ∈ l))) st := by
  have h1 : toDst st (.tup (l.map Nd.val)) = some (.tuple (l.map Nd.dat)) := by
    show toD _ = _
    unfold toD
    rw [toDs_val]
    rfl
  have h2 : toDst st x.val = some x.dat := toD_val x
  have s1 : SeqAt.shaped x.dat = true := dat_shaped (dat_nd hx.1 hx.2) (toD_val x) (by decide)
  have s2 : SeqAt.shaped (.tuple (l.map Nd.dat)) = true := dat_shaped (k := 3) (Dat.tup (dats_nds hl)) h1 (by decide)
  have h3 : ((l.map Nd.dat).any fun z => PyData.eqv z x.dat) = decide (x ∈ l) := by
    rw [List.any_map]
    have : ((fun z => PyData.eqv z x.dat) ∘ Nd.dat) = fun y => decide (y = x) := by
      funext y
      exact dat_eqv y x
    rw [this]
    clear this h1 s2 hl
    induction l with
    | nil => simp
    | cons b l ih =>
      rw [List.any_cons, ih]
      by_cases e : b = x
      · subst e; simp
      · have e2 : ¬ x = b := fun q => e q.symm
        try simp [e, e2]
  unfold notInTM inTW
  rw [h1, h2]
  simp only [s1, s2, h3]
  rfl
theorem needs_ok {r : Rc} (h : RcOk r) : ∀ y ∈ r.needs, NdOk y := by
  have e : needsK r r.vars.length = r.needs := by
    unfold needsK Rc.needs
    rw [List.take_length]
  rw [← e]
  exact needsK_ok h _
abbrev jr (r : Rc) (v : List Int) : Option (Str → Int) := BF.jrun (r.cs v) r.names (r.names.length + 1) fun _ => r.base v
theorem turned_right_spec (w : World) {ns : List Int} (hs : ns.length ≤ 63) {r : Rc} (h : RcOk r) {v : List Int} (hv : VecOk r.counts.length v) {k : Nat} {st : Sto} (hst : Bud (300 + k) st) :
    Wp (F__law_turned_right w [scr ns, .loc 0, r.val, .tup (v.map .int)] st) fun u s => u = .bl true ∧ Bud k s ∧ Stay st s := by
  have hc3 := h.c3
  unfold F__law_turned_right
  refine wp_runB rfl ?_
  try simp [m__law_turned_right, sizeLine]
  refine (turned_spec w hs h hst).mono ?_
  rintro _ s1 ⟨o, q, F, rfl, T, hb1, hst1⟩
  have h' := t_ok T h
  have hcl : (tRc r o q F).counts.length = r.counts.length := (pm_perm T.o).length_eq
  have hv' : VecOk (tRc r o q F).counts.length (pm o v) := by rw [hcl]; exact pm_vec T.o hv
  have hol : o.length = r.counts.length := by rw [T.o.length_eq, List.length_range]
  have hql : q.length = r.vars.length := by rw [T.q.length_eq, List.length_range]
  try simp
  refine (earliest_spec w h hv).mono ?_
  rintro _ s2 ⟨rfl, hp2⟩
  have k1 := lcGo_map (keep := always) (g := gN 9) (me := mOp2 getM (mVar 3) (mVar 9)) (σ0 := wipeE [some (scr ns), some (.loc 0), some r.val, some (.tup (v.map .int)), some (tRc r o q F).val, some (.lst (natV o)), some (.lst (natV q)), none, none, none, none] [9]) (st := s2) (fun u => match u with | .int i => .int (v.getD i.toNat 0) | _ => .non) trivial (natV o) (fun u hu => by
    obtain ⟨i, hi, rfl⟩ := List.mem_map.mp hu
    obtain ⟨j, hj, rfl⟩ := List.mem_map.mp hi
    have hjn : j < v.length := by rw [hv.1]; exact List.mem_range.mp (T.o.mem_iff.mp hj)
    refine ⟨_, rfl, ?_⟩
    have hat : atI (v.map Val.int) (j : Int) = some (.int v[j]) := by
      rw [atI_nat (by simp; exact hjn)]
      try simp
    generalize hJ : ((j : Nat) : Int) = J at hat
    have hJ2 : J.toNat = j := by omega
    simp [wipeE, hat, hJ2, hjn]) (by rw [natV_len, hol]; exact Nat.le_trans (by omega : r.counts.length ≤ 100000) line_big)
  have e1 : (natV o).map (fun u => match u with | .int i => Val.int (v.getD i.toNat 0) | _ => Val.non) = (pm o v).map .int := by
    unfold natV natI pm
    rw [List.map_map, List.map_map, List.map_map]
    rfl
  rw [e1] at k1
  refine Wp_is k1 ?_
  refine (earliest_spec w h' hv').mono ?_
  rintro _ s3 ⟨rfl, hp3⟩
  try simp [sizeLine]
  refine (needs_of_spec w h').mono ?_
  rintro _ s4 ⟨rfl, hp4⟩
  try simp
  refine (needs_of_spec w h).mono ?_
  rintro _ s5 ⟨rfl, hp5⟩
  try simp [t_needs_len T h]
  have hb5 : Bud k s5 := hp5.bud (hp4.bud (hp3.bud (hp2.bud hb1)))
  have hs5 : Stay st s5 := (((hst1.trans hp2.stay).trans hp3.stay).trans hp4.stay).trans hp5.stay
  have hE := jrun_ear h v
  have hE' := jrun_ear h' (pm o v)
  have hO := fun l => ear_off h hv (l := l)
  have hO' := fun l => ear_off h' hv' (l := l)
  cases hj : jr r v with
  | none =>
    have hj' : jr (tRc r o q F) (pm o v) = none := by
      cases e : jr (tRc r o q F) (pm o v) with
      | none => rfl
      | some l' =>
        obtain ⟨l, hl⟩ := hE.none_ ⟨_, feas_from T h hv (hE'.some_ l' e).feas⟩
        rw [show jr r v = some l from hl] at hj
        cases hj
    simp only [jr] at hj hj'
    try simp [hj, hj', resV, isNoneV]
    exact ⟨hb5, hs5⟩
  | some l =>
    obtain ⟨l', hj'⟩ := hE'.none_ ⟨_, feas_to T h hv (hE.some_ l hj).feas⟩
    have hL := hE.some_ l hj
    have hL' := hE'.some_ l' hj'
    have he := t_least T h hv hL hL'
    have hlen := t_len T hv he
    have hoff := t_off T he
    simp only [jr] at hj
    try simp [hj, hj', resV, isNoneV]
    refine (length_of_spec w h' hv' (hO' l' hj') (ear_place h' hL')).mono ?_
    rintro _ s6 ⟨rfl, hp6⟩
    refine (length_of_spec w h hv (hO l hj) (ear_place h hL)).mono ?_
    rintro _ s7 ⟨rfl, hp7⟩
    try simp [hlen]
    have k2 := lcGo_map (keep := always) (g := gN 10) (me := mOp2 getM (mOp2 getM (mVar 7) (mVal (.int 1))) (mVar 10)) (σ0 := wipeE [some (scr ns), some (.loc 0), some r.val, some (.tup (v.map .int)), some (tRc r o q F).val, some (.lst (natV o)), some (.lst (natV q)), some (planV v r.names l), some (planV (pm o v) (tRc r o q F).names l'), none, none] [10]) (st := s7) (fun u => match u with | .int i => .int ((r.names.map l).getD i.toNat 0) | _ => .non) trivial (natV q) (fun u hu => by
      obtain ⟨i, hi, rfl⟩ := List.mem_map.mp hu
      obtain ⟨j, hj, rfl⟩ := List.mem_map.mp hi
      have hjn : j < (r.names.map l).length := by rw [List.length_map, names_len]; exact List.mem_range.mp (T.q.mem_iff.mp hj)
      refine ⟨_, rfl, ?_⟩
      have hat : atI ((r.names.map l).map Val.int) (j : Int) = some (.int (r.names.map l)[j]) := by
        rw [atI_nat (by simpa using hjn)]
        try simp
      generalize hJ : ((j : Nat) : Int) = J at hat
      have hJ2 : J.toNat = j := by omega
      have hjn' : j < r.names.length := by simpa using hjn
      simp [-List.map_map] at hat
      simp [wipeE, planV, offV_ints, hat, hJ2, hjn', -List.map_map]) (by rw [natV_len, hql]; have := h.v40; exact Nat.le_trans (by omega : r.vars.length ≤ 100000) line_big)
    have e2 : (natV q).map (fun u => match u with | .int i => Val.int ((r.names.map l).getD i.toNat 0) | _ => Val.non) = (q.map fun k => (r.names.map l).getD k 0).map .int := by
      unfold natV natI
      rw [List.map_map, List.map_map, List.map_map]
      rfl
    rw [e2] at k2
    have e3 : offV (tRc r o q F).names l' = .tup ((q.map fun k => (r.names.map l).getD k 0).map .int) := by
      rw [hoff, List.map_map]
      rfl
    simp only [planV] at k2
    refine Wp_is k2 ?_
    simp only [tupM_lst, Res.bind_ok, Wp_ok, e3, eqM_ints]
    try simp
    exact ⟨hp7.bud (hp6.bud hb5), (hs5.trans hp6.stay).trans hp7.stay⟩
end K35
end

section
set_option Elab.async false
set_option linter.all false
set_option maxRecDepth 100000
set_option maxHeartbeats 400000
namespace K35
open PySem PySem.Spec PyProof.Rows L2 L3
theorem zip3_offs (ns : List Str) (f g h : Str → Int) : zipL3 (ns.map fun x => .int (f x)) (ns.map fun x => .int (g x)) (ns.map fun x => .int (h x)) = ns.map fun x => Val.tup [.int (f x), .int (g x), .int (h x)] := by
  unfold zipL3
  induction ns with
  | nil => rfl
  | cons a ns ih =>
    simp only [List.map_cons, List.zip_cons_cons] at ih ⊢
    rw [ih]
theorem zip2_offs (ns : List Str) (f g : Str → Int) : zipL (ns.map fun x => .int (f x)) (ns.map fun x => .int (g x)) = ns.map fun x => Val.tup [.int (f x), .int (g x)] := by
  unfold zipL
  induction ns with
  | nil => rfl
  | cons a ns ih =>
    simp only [List.map_cons, List.zip_cons_cons] at ih ⊢
    rw [ih]
/-- none of them: nothing is made -/
theorem lcGo_none {keep : Sto → Prop} {g : MG} {c : MT} {me : ME} {σ0 : L3.Env} {st : Sto} (hk : keep st) (l : List Val) (h : ∀ v ∈ l, ∃ σ1, g v σ0 st = .ok σ1 st ∧ c σ1 st = .ok false st) (hz : l.length ≤ sizeLine) : lcGo keep g c me σ0 l [] st = .ok [] st := by
  have k := lcGo_pure (keep := keep) (g := g) (c := c) (me := me) (σ0 := σ0) (st := st) (fun _ => false) (fun v => v) hk l [] (fun v hv => by
    obtain ⟨σ1, h1, h2⟩ := h v hv
    exact ⟨σ1, h1, h2, fun e => by cases e⟩) (by simpa using hz)
  rw [k]
  try simp
theorem maxM_lst {l : List Int} (hl : l ≠ []) (st : Sto) : maxM [.lst (l.map .int)] st = .ok (.int (mxL l)) st := by
  show (match (itemsOf st (.lst (l.map Val.int))).bind intsOf with | some (n :: ns) => Res.ok (Val.int (mxL (n :: ns))) st | _ => .bad) = _
  rw [itemsOf, Option.bind_some, intsOf_map]
  cases l with
  | nil => exact absurd rfl hl
  | cons a l => rfl
theorem eqM_nil {st : Sto} : eqM (.lst []) (.lst []) st = .ok (.bl true) st := by
  unfold eqM
  rw [eqW_lst_nil (fun v hv => by cases hv)]
  rfl
theorem neM_nil {st : Sto} : neM (.lst []) (.lst []) st = .ok (.bl false) st := by
  unfold neM
  rw [eqW_lst_nil (fun v hv => by cases hv)]
  rfl
theorem sum_right_spec (w : World) {r : Rc} (h : RcOk r) {v u : List Int} (hv : VecOk r.counts.length v) (hu : VecOk r.counts.length u) {st : Sto} :
    Wp (F__law_sum_right w [r.val, .tup (v.map .int), .tup (u.map .int)] st) fun x s => x = .bl true ∧ Pre st s := by
  have hc1 := h.c1
  have hc3 := h.c3
  have hv40 := h.v40
  have hnl := names_len (r := r)
  have hvu : v.length = u.length := by rw [hv.1, hu.1]
  have hal : (vadd v u).length = r.counts.length := by rw [vadd_len hvu, hv.1]
  unfold F__law_sum_right
  refine wp_runB rfl ?_
  try simp [m__law_sum_right, sizeLine]
  refine (earliest_spec w h hv).mono ?_
  rintro _ s1 ⟨rfl, hp1⟩
  refine (earliest_spec w h hu).mono ?_
  rintro _ s2 ⟨rfl, hp2⟩
  have k1 := lcGo_map (keep := fun _ => True) (g := gT 2 (gsCons (gN 6) (gsCons (gN 7) gsNil))) (me := mOp2 addV (mVar 6) (mVar 7)) (σ0 := wipeE [some r.val, some (.tup (v.map .int)), some (.tup (u.map .int)), none, none, none, none, none, none, none, none, none] [6, 7]) (st := s2) (fun x => match x with | .tup [.int a, .int b] => .int (a + b) | _ => .non) trivial (zipL (v.map .int) (u.map .int)) (fun x hx => by
    rw [zip_val] at hx
    obtain ⟨p, hp, rfl⟩ := List.mem_map.mp hx
    exact ⟨_, rfl, by simp [wipeE]⟩) (by
    rw [zip_val, List.length_map, List.length_zip]
    have := hv.1
    exact Nat.le_trans (show min v.length u.length ≤ 100000 by omega) line_big)
  have e1 : (zipL (v.map .int) (u.map .int)).map (fun x => match x with | .tup [.int a, .int b] => Val.int (a + b) | _ => Val.non) = (vadd v u).map .int := by
    unfold vadd
    rw [zip_val, List.map_map, List.map_map]
    rfl
  rw [e1] at k1
  try simp
  refine Wp_is k1 ?_
  have hE := jrun_ear h v
  have hF := jrun_ear h u
  have hE' := fun l => ear_off h hv (l := l)
  have hF' := fun l => ear_off h hu (l := l)
  cases hj : jr r v with
  | none =>
    simp only [jr] at hj
    try simp [hj, resV, isNoneV]
    exact hp1.trans hp2
  | some l =>
    have hl := hE.some_ l hj
    simp only [jr] at hj
    cases hj2 : jr r u with
    | none =>
      simp only [jr] at hj2
      try simp [hj, hj2, resV, isNoneV]
      exact hp1.trans hp2
    | some m =>
      have hm := hF.some_ m hj2
      simp only [jr] at hj2
      have k2 := lcGo_map (keep := always) (g := gN 6) (me := mOps absM (aCons (mVar 6) aNil)) (σ0 := wipeE [some r.val, some (.tup (v.map .int)), some (.tup (u.map .int)), some (planV v r.names l), some (planV u r.names m), some (.tup ((vadd v u).map .int)), none, none, none, none, none, none] [6]) (st := s2) (fun x => match x with | .int a => .int (absI a) | _ => .non) trivial ((vadd v u).map .int) (fun x hx => by
        obtain ⟨i, hi, rfl⟩ := List.mem_map.mp hx
        exact ⟨_, rfl, by simp [wipeE, absI]⟩) (by rw [List.length_map, hal]; exact Nat.le_trans (show r.counts.length ≤ 100000 by omega) line_big)
      have e2 : ((vadd v u).map Val.int).map (fun x => match x with | .int a => Val.int (absI a) | _ => Val.non) = ((vadd v u).map absI).map .int := by
        rw [List.map_map, List.map_map]
        rfl
      rw [e2] at k2
      have hne : (vadd v u).map absI ≠ [] := by
        intro e
        have : 0 < ((vadd v u).map absI).length := by rw [List.length_map, hal]; omega
        rw [e] at this
        cases this
      have hmx := maxM_lst hne s2
      simp only [planV] at k2
      try simp [hj, hj2, resV, isNoneV, k2, hmx, -List.map_map]
      by_cases hbig : 4 < mxL ((vadd v u).map absI)
      · rw [if_pos hbig]
        try simp
        exact hp1.trans hp2
      · rw [if_neg hbig]
        have hva : VecOk r.counts.length (vadd v u) := ⟨hal, fun i hi => by
          have := mxL_le (l := (vadd v u).map absI) (List.mem_map.mpr ⟨i, hi, rfl⟩)
          have h2 : i ≤ absI i ∧ -i ≤ absI i := by unfold absI; split <;> omega
          omega⟩
        try simp
        refine (earliest_spec w h hva).mono ?_
        rintro _ s3 ⟨rfl, hp3⟩
        have hG := jrun_ear h (vadd v u)
        have hfe := sum_feas hvu hl.feas hm.feas
        obtain ⟨f, hf⟩ := hG.none_ ⟨_, hfe⟩
        have hff := hG.some_ f hf
        have hle : ∀ x ∈ r.names, f x ≤ l x + m x := hff.le _ hfe
        have hfo := ear_off h hva hf
        have hlen := sum_len h hvu hle
        try simp [hf, resV, isNoneV]
        refine (is_legal_spec w h hva hfo (ear_place h hff)).mono ?_
        rintro _ s4 ⟨rfl, hp4⟩
        have eN : ∀ st, isNotM (.bl true) (.bl true) st = .ok (.bl false) st := fun _ => rfl
        try simp [eN, offV, zip3_offs]
        have k3 := lcGo_none (keep := fun _ => True) (g := gT 3 (gsCons (gN 6) (gsCons (gN 7) (gsCons (gN 10) gsNil)))) (c := mTest (mOp2 (cmpV fun i j => decide (j < i)) (mVar 6) (mOp2 addV (mVar 7) (mVar 10)))) (me := mVal (.int 1)) (σ0 := wipeE [some r.val, some (.tup (v.map .int)), some (.tup (u.map .int)), some (planV v r.names l), some (planV u r.names m), some (.tup ((vadd v u).map .int)), none, none, some (planV (vadd v u) r.names f), none, none, none] [6, 7, 10]) (st := s4) trivial (r.names.map fun x => Val.tup [.int (f x), .int (l x), .int (m x)]) (fun y hy => by
          obtain ⟨x, hx, rfl⟩ := List.mem_map.mp hy
          have := hle x hx
          refine ⟨_, rfl, ?_⟩
          try simp [wipeE]
          omega) (by rw [List.length_map, hnl]; exact Nat.le_trans (show r.vars.length ≤ 100000 by omega) line_big)
        simp only [planV, offV] at k3
        refine Wp_is k3 ?_
        try simp
        refine (length_of_spec w h hv (hE' l hj) (ear_place h hl)).mono ?_
        rintro _ s5 ⟨rfl, hp5⟩
        refine (length_of_spec w h hu (hF' m hj2) (ear_place h hm)).mono ?_
        rintro _ s6 ⟨rfl, hp6⟩
        try simp [eqM_nil]
        refine (length_of_spec w h hva hfo (ear_place h hff)).mono ?_
        rintro _ s7 ⟨rfl, hp7⟩
        try simp [hlen]
        exact (((((hp1.trans hp2).trans hp3).trans hp4).trans hp5).trans hp6).trans hp7
end K35
end

section
set_option Elab.async false
set_option linter.all false
set_option maxRecDepth 100000
set_option maxHeartbeats 400000
namespace K35
open PySem PySem.Spec PyProof.Rows L2 L3
theorem cut_hi {l : List Val} {j : Nat} {J : Int} (hJ : J = j) (h : j < l.length) {st : Sto} : cutM (.tup l) none (some J) st = .ok (.tup (l.take j)) st := by
  subst hJ
  unfold cutM
  simp only
  rw [if_neg (by rw [HT.sIx_nat]; omega)]
  unfold cutL
  rw [HT.sIx_nat, HT.sIx_none, List.drop_zero, Nat.sub_zero, Nat.min_eq_left (by omega)]
theorem cut_lo {l : List Val} {j : Nat} {J : Int} (hJ : J = j) (h0 : 0 < j) (h : j ≤ l.length) {st : Sto} : cutM (.tup l) (some J) none st = .ok (.tup (l.drop j)) st := by
  subst hJ
  unfold cutM
  simp only
  rw [if_neg (by rw [HT.sIx_nat]; omega)]
  unfold cutL
  rw [HT.sIx_nat, HT.sIx_none, Nat.min_eq_left h]
  congr 2
  rw [List.take_of_length_le]
  rw [List.length_drop]
  exact Nat.le_refl _
theorem more_right_spec (w : World) {ns : List Int} (hs : ns.length ≤ 63) {r : Rc} (h : RcOk r) (hsm : r.Sm) {v : List Int} (hv : VecOk r.counts.length v) {k : Nat} {st : Sto} (hst : Bud (100 + k) st) :
    Wp (F__law_more_right w [scr ns, .loc 0, r.val, .tup (v.map .int)] st) fun u s => u = .bl true ∧ Bud k s ∧ Stay st s := by
  have hc1 := h.c1
  have hc3 := h.c3
  have hv1 := h.v1
  have hv40 := h.v40
  have hnl := names_len (r := r)
  have hg1 : ∀ s, getM r.val (.int 1) s = .ok (.tup (r.vars.map vaV)) s := fun _ => rfl
  have hg0 : ∀ s, getM r.val (.int 0) s = .ok (.tup (r.counts.map .int)) s := fun _ => rfl
  unfold F__law_more_right
  refine wp_runB rfl ?_
  try simp [m__law_more_right, hg1]
  refine (drawn_spec w hs (b := r.vars.length) (by omega) (k := 90 + k) (hst.mono (by omega))).mono ?_
  rintro _ s1 ⟨J, rfl, hJ0, hJ1, hb1, hst1⟩
  obtain ⟨j, hJ⟩ : ∃ j : Nat, J = j := ⟨J.toNat, by omega⟩
  have hj : j < r.vars.length := by omega
  have k1 := lcGo_map (keep := always) (g := gT 2 (gsCons (gN 6) (gsCons (gN 7) gsNil))) (me := mVar 6) (σ0 := wipeE [some (scr ns), some (.loc 0), some r.val, some (.tup (v.map .int)), none, none, none, none, none, none, none, none, none, none, none, none] [6, 7]) (st := s1) (fun u => match u with | .tup [x, _] => x | _ => .non) trivial (r.vars.map vaV) (fun u hu => by
    obtain ⟨p, hp, rfl⟩ := List.mem_map.mp hu
    exact ⟨_, rfl, rfl⟩) (by rw [List.length_map]; exact Nat.le_trans (by omega : r.vars.length ≤ 100000) line_big)
  have e1 : (r.vars.map vaV).map (fun u => match u with | .tup [x, _] => x | _ => Val.non) = r.names.map .str := by
    unfold Rc.names
    rw [List.map_map, List.map_map]
    rfl
  rw [e1] at k1
  try simp [hg1]
  refine Wp_is k1 ?_
  obtain ⟨⟨own, b⟩, hvar⟩ : ∃ p, r.vars[j]? = some p := ⟨_, List.getElem?_eq_getElem hj⟩
  have hm := List.mem_of_getElem? hvar
  have hown : own ∈ r.names := List.mem_map.mpr ⟨_, hm, rfl⟩
  have hat : atI (r.vars.map vaV) J = some (vaV (own, b)) := by
    rw [hJ, atI_nat (by rw [List.length_map]; exact hj)]
    have : r.vars[j] = (own, b) := (List.getElem?_eq_some_iff.mp hvar).2
    try simp [this]
  try simp [hg1, hat, vaV, hg0]
  refine (drawn_spec w hs (b := 2) (by decide) (k := 80 + k) (hb1.mono (by omega))).mono ?_
  rintro _ s2 ⟨d, rfl, hd0, hd1, hb2, hst2⟩
  try simp
  refine (use_specU w hs hc1 hc3 hown h.nm (k := 40 + k) (hb2.mono (by omega))).mono ?_
  rintro _ s3 ⟨us, sp, nm, ps, rfl, hok, hus, hb3, hst3⟩
  generalize hr2 : moreRc r j own b (.use us sp nm ps) = r2
  have h2 : RcOk r2 := by rw [← hr2]; exact more_ok h hsm hvar hok hus
  have hn2 : r2.names = r.names := by rw [← hr2]; exact more_names hvar
  have hval : r2.val = .tup [.tup (r.counts.map .int), .tup ((r.vars.map vaV).take j ++ [.tup [.str own, .tup [.str "max", b.val, (Lf.use us sp nm ps).val]]] ++ (r.vars.map vaV).drop (j + 1))] := by rw [← hr2]; exact more_val hvar
  have hcs2 : r2.counts = r.counts := by rw [← hr2]; rfl
  have hv2 : VecOk r2.counts.length v := by rw [hcs2]; exact hv
  have hvl : (r.vars.map vaV).length = r.vars.length := List.length_map ..
  have hch := fun s => cut_hi (l := r.vars.map vaV) hJ (by rw [hvl]; exact hj) (st := s)
  have hcl := fun s => cut_lo (l := r.vars.map vaV) (j := j + 1) (J := J + 1) (by omega) (by omega) (by rw [hvl]; omega) (st := s)
  have hval' : Val.tup [.tup (r.counts.map .int), .tup ((r.vars.map vaV).take j ++ Val.tup [.str own, .tup [.str "max", b.val, (Lf.use us sp nm ps).val]] :: (r.vars.map vaV).drop (j + 1))] = r2.val := by
    rw [hval, List.append_assoc]
    rfl
  simp [hg0, hg1, hch, hcl, addV_tup, sizeLine, -List.map_take, -List.map_drop]
  rw [if_pos (by omega), Wp_ok]
  try simp [addV_tup, sizeLine, hg0, hg1, hcl, -List.map_take, -List.map_drop]
  rw [if_pos (by omega), Wp_ok, hval']
  refine (earliest_spec w h hv).mono ?_
  rintro _ s4 ⟨rfl, hp4⟩
  refine (earliest_spec w h2 hv2).mono ?_
  rintro _ s5 ⟨rfl, hp5⟩
  refine (needs_of_spec w h).mono ?_
  rintro _ s6 ⟨rfl, hp6⟩
  rw [Wp_ok]
  have hb6 : Bud k s6 := (hp6.bud (hp5.bud (hp4.bud hb3))).mono (by omega)
  have hs6 : Stay st s6 := (((((hst1.trans hst2).trans hst3).trans hp4.stay).trans hp5.stay).trans hp6.stay)
  have hnn := needs_ok h
  have hnn2 := needs_ok h2
  have hnl2 : r.needs.length ≤ 700 := by
    have e : needsK r r.vars.length = r.needs := by
      unfold needsK Rc.needs
      rw [List.take_length]
    have := needsK_len h r.vars.length
    rw [e] at this
    omega
  refine wp_lc (fun p a s => a = [] ∧ Pre s6 s) (by rw [List.length_map]; exact Nat.le_trans (by omega : r.needs.length ≤ 100000) line_big) ⟨rfl, .refl⟩ (fun _ _ _ _ => trivial) ?_ ?_
  · rintro p u q a s hL _ ⟨rfl, hp⟩
    obtain ⟨y, hy, rfl⟩ : ∃ y, y ∈ r.needs ∧ u = y.val := by
      have : u ∈ r.needs.map Nd.val := by rw [show r.needs.map Nd.val = p ++ u :: q from hL]; simp
      obtain ⟨y, hy, e⟩ := List.mem_map.mp this
      exact ⟨y, hy, e.symm⟩
    have hy2 : y ∈ r2.needs := by rw [← hr2]; exact (more_needs hvar h.nd).mpr (.inl hy)
    simp [wipeE]
    refine (needs_of_spec w h2).mono ?_
    rintro _ s7 ⟨rfl, hp7⟩
    have := notInT_nds (st := s7) hnn2 (hnn y hy)
    rw [this]
    simp [hy2]
    exact hp.trans hp7
  · rintro _ s ⟨rfl, hp⟩
    have hb7 := hp.bud hb6
    have hs7 := hs6.trans hp.stay
    simp [neM_nil]
    have hE := jrun_ear h v
    have hF := jrun_ear h2 v
    cases hj2 : jr r2 v with
    | none =>
      have hj2' := hj2
      simp only [jr] at hj2
      cases hj : jr r v with
      | none =>
        simp only [jr] at hj
        simp [hj, hj2, resV, isNoneV]
        exact ⟨hb7, hs7⟩
      | some l =>
        have hl := hE.some_ l hj
        simp only [jr] at hj
        have hno : (⟨own, us, sp⟩ : Nd) ∉ r.needs := fun hin => by
          have := more_feas' (nm := nm) (ps := ps) hvar h.nd hin hl.feas
          rw [hr2] at this
          obtain ⟨f, hf⟩ := hF.none_ ⟨_, this⟩
          rw [show jr r2 v = some f from hf] at hj2'
          cases hj2'
        simp [hj, hj2, resV, isNoneV, Lf.val, sizeLine]
        refine (needs_of_spec w h).mono ?_
        rintro _ s8 ⟨rfl, hp8⟩
        have := notInT_nds (x := ⟨own, us, sp⟩) (st := s8) hnn ⟨h.nm own hown, h.nm us hus⟩
        simp only [Nd.val] at this
        rw [this]
        simp [hno]
        exact ⟨hp8.bud hb7, hs7.trans hp8.stay⟩
    | some f =>
      have hf := hF.some_ f hj2
      simp only [jr] at hj2
      have hfe := hf.feas
      rw [← hr2] at hfe
      have hfe := more_feas hvar h.nd hfe
      obtain ⟨l, hj⟩ := hE.none_ ⟨f, hfe⟩
      have hl := hE.some_ l hj
      have hle : ∀ x ∈ r.names, l x ≤ f x := hl.le _ hfe
      rw [hn2] at hj2
      simp [hj, hj2, resV, isNoneV, offV, hn2, zip2_offs]
      have k3 := lcGo_none (keep := fun _ => True) (g := gT 2 (gsCons (gN 14) (gsCons (gN 15) gsNil))) (c := mTest (mOp2 (cmpV fun i j => decide (i < j)) (mVar 15) (mVar 14))) (me := mVal (.int 1)) (σ0 := wipeE [some (scr ns), some (.loc 0), some r.val, some (.tup (v.map .int)), some (.int J), some (.lst (r.names.map .str)), none, some b.val, some (.str own), some (Lf.use us sp nm ps).val, some r2.val, some (planV v r.names l), some (planV v r.names f), none, none, none] [14, 15]) (st := s) trivial (r.names.map fun x => Val.tup [.int (l x), .int (f x)]) (fun y hy => by
        obtain ⟨x, hx, rfl⟩ := List.mem_map.mp hy
        have := hle x hx
        refine ⟨_, rfl, ?_⟩
        simp [wipeE]
        omega) (by rw [List.length_map, hnl]; exact Nat.le_trans (show r.vars.length ≤ 100000 by omega) line_big)
      simp only [planV, offV] at k3
      refine Wp_is k3 ?_
      simp [eqM_nil]
      exact ⟨hb7, hs7⟩
end K35
end

section
set_option Elab.async false
set_option linter.all false
set_option maxRecDepth 100000
set_option maxHeartbeats 400000
namespace K35
open PySem PySem.Spec PyProof.Rows L2 L3
def TurnI (ns : List Int) (k : Nat) (σ : L3.Env) (s : Sto) : Prop := ∃ σ2 σ3 σ4 σ5 σ6 σ7, σ = [some (scr ns), some (.loc 0), σ2, σ3, σ4, σ5, σ6, σ7] ∧ Bud k s
def VecI (ns : List Int) (r : Rc) (k : Nat) (σ : L3.Env) (s : Sto) : Prop := ∃ σ2 σ5 σ6 σ7, σ = [some (scr ns), some (.loc 0), σ2, some r.val, some (.int r.counts.length), σ5, σ6, σ7] ∧ Bud k s
theorem law_main (w : World) {ns : List Int} (hs : ns.length ≤ 63) : ∃ st, F_law w [scr ns] [] = .ok (.bl true) st := by
  have key : Wp (F_law w [scr ns] []) fun v _ => v = .bl true := by
    unfold F_law
    refine wp_runB rfl ?_
    have l8 : (8 : Nat).log2 < 9000 := by decide +kernel
    try simp [m_law, sizeLine, fdivV_int]
    have hn : ∃ n : Nat, ((2 : Int) + (if (ns.length : Int) / 8 < 5 then (ns.length : Int) / 8 else 5)) = n ∧ n ≤ 7 := by
      have h0 : 0 ≤ (ns.length : Int) / 8 := Int.ediv_nonneg (by omega) (by omega)
      refine ⟨((2 : Int) + (if (ns.length : Int) / 8 < 5 then (ns.length : Int) / 8 else 5)).toNat, ?_, ?_⟩ <;> split <;> omega
    obtain ⟨n, hn, hn9⟩ := hn
    refine wp_iR1 ?_
    try simp [fdivV_int, l8]
    refine ⟨n, hn, by omega, ?_⟩
    refine wp_for (fun p σ s => TurnI ns (12000 * (7 - p.length)) σ s) ⟨_, _, _, _, _, _, rfl, ⟨0, rfl, by omega, by simp⟩⟩ (fun _ _ _ _ => trivial) ?_ ?_
    · rintro p v q _ s hL ⟨σ2, σ3, σ4, σ5, σ6, σ7, rfl, hb⟩
      obtain ⟨rfl, hlt⟩ := rgN_split hL
      generalize ((0 : Int) + ((p.length : Nat) : Int)) = J
      try simp
      refine (drawn_spec w hs (b := 4) (by decide) (k := 11900 + 12000 * (7 - (p.length + 1))) (hb.mono (by omega))).mono ?_
      rintro _ s0 ⟨d, rfl, hd0, hd1, hb0, hst0⟩
      try simp
      refine (made_spec w hs (most := 6) (by decide) (by decide) (k := 3900 + 12000 * (7 - (p.length + 1))) (hb0.mono (by omega))).mono ?_
      rintro _ s1 ⟨r, rfl, hr, hsm, hb1, hst1⟩
      have hg0 : ∀ s, getM r.val (.int 0) s = .ok (.tup (r.counts.map .int)) s := fun _ => rfl
      try simp [hg0]
      refine wp_iR1 (.of rfl ⟨3, rfl, by decide, ?_⟩)
      refine wp_for (fun p2 σ s => VecI ns r (1000 * (3 - p2.length) + 12000 * (7 - (p.length + 1))) σ s) ⟨_, _, _, _, rfl, hb1.mono (by simp)⟩ (fun _ _ _ _ => trivial) ?_ ?_
      · rintro p2 v2 q2 _ s2 hL2 ⟨σ2, σ5, σ6, σ7, rfl, hb2⟩
        obtain ⟨rfl, hlt2⟩ := rgN_split hL2
        generalize ((0 : Int) + ((p2.length : Nat) : Int)) = J2
        try simp
        refine (vector_spec w hs (n := r.counts.length) rfl hr.c3 (k := 900 + (1000 * (3 - (p2.length + 1)) + 12000 * (7 - (p.length + 1)))) (hb2.mono (by omega))).mono ?_
        rintro _ s3 ⟨v, rfl, hv, hb3, hst3⟩
        refine (vector_spec w hs (n := r.counts.length) rfl hr.c3 (k := 800 + (1000 * (3 - (p2.length + 1)) + 12000 * (7 - (p.length + 1)))) (hb3.mono (by omega))).mono ?_
        rintro _ s4 ⟨u, rfl, hu, hb4, hst4⟩
        try simp
        rw [Wp_asB]
        refine (turned_right_spec w hs hr hv (k := 400 + (1000 * (3 - (p2.length + 1)) + 12000 * (7 - (p.length + 1)))) (hb4.mono (by omega))).mono ?_
        rintro _ s5 ⟨rfl, hb5, hst5⟩
        try simp
        rw [Wp_asB]
        refine (sum_right_spec w hr hv hu).mono ?_
        rintro _ s6 ⟨rfl, hp6⟩
        try simp
        rw [Wp_asB]
        refine (sum_right_spec w hr hv hv).mono ?_
        rintro _ s7 ⟨rfl, hp7⟩
        try simp
        rw [Wp_asB]
        refine (more_right_spec w hs hr hsm hv (k := 200 + (1000 * (3 - (p2.length + 1)) + 12000 * (7 - (p.length + 1)))) ((hp7.bud (hp6.bud hb5)).mono (by omega))).mono ?_
        rintro _ s8 ⟨rfl, hb8, hst8⟩
        try simp
        exact ⟨_, _, _, _, rfl, hb8.mono (by omega)⟩
      · rintro _ s2 ⟨σ2, σ5, σ6, σ7, rfl, hb2⟩
        try simp
        exact ⟨_, _, _, _, _, _, rfl, hb2.mono (by omega)⟩
    · rintro _ s ⟨σ2, σ3, σ4, σ5, σ6, σ7, rfl, hb⟩
      try simp
  obtain ⟨v, s, e, rfl⟩ := key.ex
  exact ⟨s, e⟩
end K35
end

section
set_option Elab.async false
set_option linter.all false
set_option maxRecDepth 100000
set_option maxHeartbeats 0
namespace K35H
open PySem PySem.Spec PyProof.Rows L2
def topS (i : Nat) : Stmt := PySem.Challenge.pw_nestloom_k35_whole_vectors_and_recurrenc.main.body.getD i (.Pass ⟨0, 0, 0, 0⟩)
def metS (i j : Nat) : Stmt := inClass (topS i) j
def d_BadRecurrences_init : He.DefD := ⟨("BadRecurrences", some "__init__"), "__init__", "BadRecurrences.__init__", defArgs (metS 2 0), defBody (metS 2 0), defScope (metS 2 0), [], []⟩
def d_BadSchedule_init : He.DefD := ⟨("BadSchedule", some "__init__"), "__init__", "BadSchedule.__init__", defArgs (metS 3 0), defBody (metS 3 0), defScope (metS 3 0), [], []⟩
def d_is_whole : He.DefD := ⟨("is_whole", none), "is_whole", "is_whole", defArgs (topS 18), defBody (topS 18), defScope (topS 18), [], []⟩
def d_is_word : He.DefD := ⟨("is_word", none), "is_word", "is_word", defArgs (topS 19), defBody (topS 19), defScope (topS 19), [], []⟩
def d_is_of_signs : He.DefD := ⟨("is_of_signs", none), "is_of_signs", "is_of_signs", defArgs (topS 20), defBody (topS 20), defScope (topS 20), [], []⟩
def d_is_name : He.DefD := ⟨("is_name", none), "is_name", "is_name", defArgs (topS 21), defBody (topS 21), defScope (topS 21), [], []⟩
def d_is_variable_name : He.DefD := ⟨("is_variable_name", none), "is_variable_name", "is_variable_name", defArgs (topS 22), defBody (topS 22), defScope (topS 22), [], []⟩
def d_is_tuple_of : He.DefD := ⟨("is_tuple_of", none), "is_tuple_of", "is_tuple_of", defArgs (topS 23), defBody (topS 23), defScope (topS 23), [], []⟩
def d_is_subscripts : He.DefD := ⟨("is_subscripts", none), "is_subscripts", "is_subscripts", defArgs (topS 24), defBody (topS 24), defScope (topS 24), [], [("shifted", .bl true)]⟩
def d_leaves_of : He.DefD := ⟨("leaves_of", none), "leaves_of", "leaves_of", defArgs (topS 25), defBody (topS 25), defScope (topS 25), [], []⟩
def d_need_counts : He.DefD := ⟨("need_counts", none), "need_counts", "need_counts", defArgs (topS 26), defBody (topS 26), defScope (topS 26), [], []⟩
def d_is_step : He.DefD := ⟨("is_step", none), "is_step", "is_step", defArgs (topS 28), defBody (topS 28), defScope (topS 28), [], []⟩
def d_is_leaf : He.DefD := ⟨("is_leaf", none), "is_leaf", "is_leaf", defArgs (topS 29), defBody (topS 29), defScope (topS 29), [], []⟩
def d_is_variable : He.DefD := ⟨("is_variable", none), "is_variable", "is_variable", defArgs (topS 30), defBody (topS 30), defScope (topS 30), [], []⟩
def d_uses_in : He.DefD := ⟨("uses_in", none), "uses_in", "uses_in", defArgs (topS 31), defBody (topS 31), defScope (topS 31), [], []⟩
def d_need_recurrences : He.DefD := ⟨("need_recurrences", none), "need_recurrences", "need_recurrences", defArgs (topS 32), defBody (topS 32), defScope (topS 32), [], []⟩
def d_is_row_of : He.DefD := ⟨("is_row_of", none), "is_row_of", "is_row_of", defArgs (topS 35), defBody (topS 35), defScope (topS 35), [], []⟩
def d_summed : He.DefD := ⟨("summed", none), "summed", "summed", defArgs (topS 36), defBody (topS 36), defScope (topS 36), [], []⟩
def d_needs_by : He.DefD := ⟨("needs_by", none), "needs_by", "needs_by", defArgs (topS 37), defBody (topS 37), defScope (topS 37), [], []⟩
def d_needs_of : He.DefD := ⟨("needs_of", none), "needs_of", "needs_of", defArgs (topS 38), defBody (topS 38), defScope (topS 38), [], []⟩
def d_is_vector : He.DefD := ⟨("is_vector", none), "is_vector", "is_vector", defArgs (topS 39), defBody (topS 39), defScope (topS 39), [], []⟩
def d_is_schedule : He.DefD := ⟨("is_schedule", none), "is_schedule", "is_schedule", defArgs (topS 40), defBody (topS 40), defScope (topS 40), [], []⟩
def d_lowest : He.DefD := ⟨("lowest", none), "lowest", "lowest", defArgs (topS 41), defBody (topS 41), defScope (topS 41), [], []⟩
def d_highest : He.DefD := ⟨("highest", none), "highest", "highest", defArgs (topS 42), defBody (topS 42), defScope (topS 42), [], []⟩
def d_wrong_place : He.DefD := ⟨("wrong_place", none), "wrong_place", "wrong_place", defArgs (topS 43), defBody (topS 43), defScope (topS 43), [], []⟩
def d_need_schedule : He.DefD := ⟨("need_schedule", none), "need_schedule", "need_schedule", defArgs (topS 44), defBody (topS 44), defScope (topS 44), [], []⟩
def d_is_legal : He.DefD := ⟨("is_legal", none), "is_legal", "is_legal", defArgs (topS 45), defBody (topS 45), defScope (topS 45), [], []⟩
def d_length_of : He.DefD := ⟨("length_of", none), "length_of", "length_of", defArgs (topS 46), defBody (topS 46), defScope (topS 46), [], []⟩
def d_moved_on : He.DefD := ⟨("moved_on", none), "moved_on", "moved_on", defArgs (topS 47), defBody (topS 47), defScope (topS 47), [], []⟩
def d_earliest_by : He.DefD := ⟨("earliest_by", none), "earliest_by", "earliest_by", defArgs (topS 48), defBody (topS 48), defScope (topS 48), [], []⟩
def d_earliest : He.DefD := ⟨("earliest", none), "earliest", "earliest", defArgs (topS 49), defBody (topS 49), defScope (topS 49), [], []⟩
def d__law_drawn : He.DefD := ⟨("_law_drawn", none), "_law_drawn", "_law_drawn", defArgs (topS 51), defBody (topS 51), defScope (topS 51), [], []⟩
def d__law_called : He.DefD := ⟨("_law_called", none), "_law_called", "_law_called", defArgs (topS 52), defBody (topS 52), defScope (topS 52), [], []⟩
def d__law_step : He.DefD := ⟨("_law_step", none), "_law_step", "_law_step", defArgs (topS 53), defBody (topS 53), defScope (topS 53), [], []⟩
def d__law_use : He.DefD := ⟨("_law_use", none), "_law_use", "_law_use", defArgs (topS 54), defBody (topS 54), defScope (topS 54), [], []⟩
def d__law_body : He.DefD := ⟨("_law_body", none), "_law_body", "_law_body", defArgs (topS 55), defBody (topS 55), defScope (topS 55), [], []⟩
def d__law_made : He.DefD := ⟨("_law_made", none), "_law_made", "_law_made", defArgs (topS 56), defBody (topS 56), defScope (topS 56), [], []⟩
def d__law_vector : He.DefD := ⟨("_law_vector", none), "_law_vector", "_law_vector", defArgs (topS 57), defBody (topS 57), defScope (topS 57), [], []⟩
def d__law_shuffled : He.DefD := ⟨("_law_shuffled", none), "_law_shuffled", "_law_shuffled", defArgs (topS 58), defBody (topS 58), defScope (topS 58), [], []⟩
def d__law_turned_body : He.DefD := ⟨("_law_turned_body", none), "_law_turned_body", "_law_turned_body", defArgs (topS 59), defBody (topS 59), defScope (topS 59), [], []⟩
def d__law_turned : He.DefD := ⟨("_law_turned", none), "_law_turned", "_law_turned", defArgs (topS 60), defBody (topS 60), defScope (topS 60), [], []⟩
def d__law_turned_right : He.DefD := ⟨("_law_turned_right", none), "_law_turned_right", "_law_turned_right", defArgs (topS 61), defBody (topS 61), defScope (topS 61), [], []⟩
def d__law_sum_right : He.DefD := ⟨("_law_sum_right", none), "_law_sum_right", "_law_sum_right", defArgs (topS 62), defBody (topS 62), defScope (topS 62), [], []⟩
def d__law_more_right : He.DefD := ⟨("_law_more_right", none), "_law_more_right", "_law_more_right", defArgs (topS 63), defBody (topS 63), defScope (topS 63), [], []⟩
def d_law : He.DefD := ⟨("law", none), "law", "law", defArgs (topS 64), defBody (topS 64), defScope (topS 64), [], []⟩
def fn0 : List He.DefD := [d_BadRecurrences_init, d_BadSchedule_init, d_is_whole, d_is_word, d_is_of_signs, d_is_name, d_is_variable_name, d_is_tuple_of]
def fn1 : List He.DefD := [d_is_subscripts, d_leaves_of, d_need_counts, d_is_step, d_is_leaf, d_is_variable, d_uses_in, d_need_recurrences]
def fn2 : List He.DefD := [d_is_row_of, d_summed, d_needs_by, d_needs_of, d_is_vector, d_is_schedule, d_lowest, d_highest]
def fn3 : List He.DefD := [d_wrong_place, d_need_schedule, d_is_legal, d_length_of, d_moved_on, d_earliest_by, d_earliest, d__law_drawn]
def fn4 : List He.DefD := [d__law_called, d__law_step, d__law_use, d__law_body, d__law_made, d__law_vector, d__law_shuffled, d__law_turned_body]
def fn5 : List He.DefD := [d__law_turned, d__law_turned_right, d__law_sum_right, d__law_more_right, d_law]
def fn : List He.DefD := fn0 ++ (fn1 ++ (fn2 ++ (fn3 ++ (fn4 ++ (fn5)))))
def fa0 : List He.Fa := [.glo "GridError", .keep "GridError", .glo "BadRecurrences", .keep "BadRecurrences", .glo "BadSchedule", .keep "BadSchedule", .int "MOST_LOOPS" 3, .int "MOST_COUNT" 6]
def fa1 : List He.Fa := [.int "MOST_PARTS" 15, .int "MOST_VARIABLES" 40, .int "MOST_LETTERS" 6, .int "MOST_SHIFT" 2, .int "MOST_STEP" 5, .int "MOST_VECTOR" 4, .int "MOST_OFFSET" 99999, .int "WORD" 65536]
def fa2 : List He.Fa := [.glo "OPS", .str "SMALL" "abcdefghijklmnopqrstuvwxyz", .str "FIGURES" "0123456789", .glo "is_whole", .glo "is_word", .glo "is_of_signs", .glo "is_name", .glo "is_variable_name"]
def fa3 : List He.Fa := [.glo "is_tuple_of", .glo "is_subscripts", .glo "leaves_of", .glo "need_counts", .glo "is_step", .glo "is_leaf", .glo "is_variable", .glo "uses_in"]
def fa4 : List He.Fa := [.glo "need_recurrences", .glo "FORM", .glo "is_row_of", .glo "summed", .glo "needs_by", .glo "needs_of", .glo "is_vector", .glo "is_schedule"]
def fa5 : List He.Fa := [.glo "lowest", .glo "highest", .glo "wrong_place", .glo "need_schedule", .glo "is_legal", .glo "length_of", .glo "moved_on", .glo "earliest_by"]
def fa6 : List He.Fa := [.glo "earliest", .glo "_law_drawn", .glo "_law_called", .glo "_law_step", .glo "_law_use", .glo "_law_body", .glo "_law_made", .glo "_law_vector"]
def fa7 : List He.Fa := [.glo "_law_shuffled", .glo "_law_turned_body", .glo "_law_turned", .glo "_law_turned_right", .glo "_law_sum_right", .glo "_law_more_right", .glo "law", .free "ValueError"]
def fa8 : List He.Fa := [.free "abs", .free "all", .free "bool", .free "dict", .free "enumerate", .free "int", .free "isinstance", .free "len"]
def fa9 : List He.Fa := [.free "list", .free "max", .free "min", .free "range", .free "str", .free "sum", .free "tuple", .free "zip"]
def fa : List He.Fa := fa0 ++ (fa1 ++ (fa2 ++ (fa3 ++ (fa4 ++ (fa5 ++ (fa6 ++ (fa7 ++ (fa8 ++ (fa9)))))))))
def ex (K : PySem.W.Frag) : Bool := He.tupB K "OPS" [.str "add", .str "sub", .str "mul", .str "min", .str "max"] && He.tupB K "FORM" [.str "form"]
abbrev R : PySem.W.OpenRow := PySem.W.OpenLaw.row PySem.Challenge.rw_nestloom_k35_whole_vectors_and_recurrenc
def loose : List Str := (["GridError", "BadRecurrences", "BadSchedule", "MOST_LOOPS", "MOST_COUNT", "MOST_PARTS", "MOST_VARIABLES", "MOST_LETTERS", "MOST_SHIFT", "MOST_STEP", "MOST_VECTOR", "MOST_OFFSET", "WORD", "OPS", "SMALL", "FIGURES", "is_whole", "is_word", "is_of_signs", "is_name", "is_variable_name", "is_tuple_of", "is_subscripts", "leaves_of", "need_counts", "is_step", "is_leaf", "is_variable", "uses_in", "need_recurrences"] : List Str) ++ (["FORM", "is_row_of", "summed", "needs_by", "needs_of", "is_vector", "is_schedule", "lowest", "highest", "wrong_place", "need_schedule", "is_legal", "length_of", "moved_on", "earliest_by", "earliest", "_law_drawn", "_law_called", "_law_step", "_law_use", "_law_body", "_law_made", "_law_vector", "_law_shuffled", "_law_turned_body", "_law_turned", "_law_turned_right", "_law_sum_right", "_law_more_right"] : List Str)
abbrev AlL : Type := He.AlD × Bool
def obsL (n : Nat) (g : Addr → Option Obj) : AlL := (He.obsD fa fn (He.frG g (He.asD g n)), ex (He.frG g (He.asD g n)))
structure SaysL (K : PySem.W.Frag) : Prop where
  d : He.SaysD fa fn K
  x : ex K = true
def hk : PySem.W.Hook where
  α := AlL
  obs := fun s => obsL 4 s.heap.get?
  val := fun _ => (He.valD fn, true)
  says := fun _ h => ∃ K : PySem.W.Frag, K.In h ∧ SaysL K
  of := fun _ _ e => ⟨_, He.frG_in, ⟨congrArg (fun z : AlL => z.1) e, congrArg (fun z : AlL => z.2) e⟩⟩
  keeps := fun _ _ _ ⟨K, hK, c⟩ k => ⟨K, PySem.W.Frag.In.keeps hK k, c⟩
def ob (s : PySem.W.SharedT) : AlL := obsL 4 (HandSHeadRun.getT s)
theorem ob_eq (s : PySem.W.SharedT) : ob s = hk.obs s.abs := by
  have e : HandSHeadRun.getT s = s.abs.heap.get? := funext (HandSHeadRun.getT_eq s)
  unfold ob hk
  rw [e] <;> rfl
theorem run (w : World) : HandSHeadRun.RunEq R (PySem.W.view R.prog [64]) hk ob 8000 loose w := by
  intro os
  kernel_rfl
end K35H
end

section
set_option Elab.async false
set_option linter.all false
set_option maxRecDepth 100000
set_option maxHeartbeats 0
namespace K35
open PySem PySem.Spec PyProof.Rows L2 L3
theorem gs_of {K : Frag} {h : Heap} {mg : Str → Option Value} (X : K.In h) (N : h.Ns mainGlobals mg) (c : K35H.SaysL K) : Gs K mg where
  b_abs := He.free_ok X N (c.d.fact 64 (f := .free "abs") rfl)
  b_all := He.free_ok X N (c.d.fact 65 (f := .free "all") rfl)
  b_bool := He.free_ok X N (c.d.fact 66 (f := .free "bool") rfl)
  b_dict := He.free_ok X N (c.d.fact 67 (f := .free "dict") rfl)
  b_enumerate := He.free_ok X N (c.d.fact 68 (f := .free "enumerate") rfl)
  b_int := He.free_ok X N (c.d.fact 69 (f := .free "int") rfl)
  b_isinstance := He.free_ok X N (c.d.fact 70 (f := .free "isinstance") rfl)
  b_len := He.free_ok X N (c.d.fact 71 (f := .free "len") rfl)
  b_list := He.free_ok X N (c.d.fact 72 (f := .free "list") rfl)
  b_max := He.free_ok X N (c.d.fact 73 (f := .free "max") rfl)
  b_min := He.free_ok X N (c.d.fact 74 (f := .free "min") rfl)
  b_range := He.free_ok X N (c.d.fact 75 (f := .free "range") rfl)
  b_str := He.free_ok X N (c.d.fact 76 (f := .free "str") rfl)
  b_sum := He.free_ok X N (c.d.fact 77 (f := .free "sum") rfl)
  b_tuple := He.free_ok X N (c.d.fact 78 (f := .free "tuple") rfl)
  b_zip := He.free_ok X N (c.d.fact 79 (f := .free "zip") rfl)
  c_MOST_LOOPS := He.int_ok X N (c.d.fact 6 (f := .int "MOST_LOOPS" 3) rfl)
  c_MOST_COUNT := He.int_ok X N (c.d.fact 7 (f := .int "MOST_COUNT" 6) rfl)
  c_MOST_PARTS := He.int_ok X N (c.d.fact 8 (f := .int "MOST_PARTS" 15) rfl)
  c_MOST_VARIABLES := He.int_ok X N (c.d.fact 9 (f := .int "MOST_VARIABLES" 40) rfl)
  c_MOST_LETTERS := He.int_ok X N (c.d.fact 10 (f := .int "MOST_LETTERS" 6) rfl)
  c_MOST_SHIFT := He.int_ok X N (c.d.fact 11 (f := .int "MOST_SHIFT" 2) rfl)
  c_MOST_STEP := He.int_ok X N (c.d.fact 12 (f := .int "MOST_STEP" 5) rfl)
  c_MOST_VECTOR := He.int_ok X N (c.d.fact 13 (f := .int "MOST_VECTOR" 4) rfl)
  c_MOST_OFFSET := He.int_ok X N (c.d.fact 14 (f := .int "MOST_OFFSET" 99999) rfl)
  c_WORD := He.int_ok X N (c.d.fact 15 (f := .int "WORD" 65536) rfl)
  c_SMALL := He.str_ok X N (c.d.fact 17 (f := .str "SMALL" "abcdefghijklmnopqrstuvwxyz") rfl)
  c_FIGURES := He.str_ok X N (c.d.fact 18 (f := .str "FIGURES" "0123456789") rfl)
  t_OPS := ⟨_, He.glo_ok X N (c.d.fact 16 (f := .glo "OPS") rfl), fun ρ H => ⟨_, _, rfl, He.tupB_ok (Bool.and_eq_true_iff.mp c.x).1 H, ⟨_, _, rfl, rfl, ⟨_, _, rfl, rfl, ⟨_, _, rfl, rfl, ⟨_, _, rfl, rfl, ⟨_, _, rfl, rfl, rfl⟩⟩⟩⟩⟩⟩⟩
  t_FORM := ⟨_, He.glo_ok X N (c.d.fact 33 (f := .glo "FORM") rfl), fun ρ H => ⟨_, _, rfl, He.tupB_ok (Bool.and_eq_true_iff.mp c.x).2 H, ⟨_, _, rfl, rfl, rfl⟩⟩⟩
  d_is_whole := let ⟨fd, F⟩ := c.d.def_ 2 (d := K35H.d_is_whole) rfl; ⟨_, fd, He.glo_ok X N (c.d.fact 19 (f := .glo "is_whole") rfl), F⟩
  d_is_word := let ⟨fd, F⟩ := c.d.def_ 3 (d := K35H.d_is_word) rfl; ⟨_, fd, He.glo_ok X N (c.d.fact 20 (f := .glo "is_word") rfl), F⟩
  d_is_of_signs := let ⟨fd, F⟩ := c.d.def_ 4 (d := K35H.d_is_of_signs) rfl; ⟨_, fd, He.glo_ok X N (c.d.fact 21 (f := .glo "is_of_signs") rfl), F⟩
  d_is_name := let ⟨fd, F⟩ := c.d.def_ 5 (d := K35H.d_is_name) rfl; ⟨_, fd, He.glo_ok X N (c.d.fact 22 (f := .glo "is_name") rfl), F⟩
  d_is_variable_name := let ⟨fd, F⟩ := c.d.def_ 6 (d := K35H.d_is_variable_name) rfl; ⟨_, fd, He.glo_ok X N (c.d.fact 23 (f := .glo "is_variable_name") rfl), F⟩
  d_is_tuple_of := let ⟨fd, F⟩ := c.d.def_ 7 (d := K35H.d_is_tuple_of) rfl; ⟨_, fd, He.glo_ok X N (c.d.fact 24 (f := .glo "is_tuple_of") rfl), F⟩
  d_is_subscripts := let ⟨fd, F⟩ := c.d.def_ 8 (d := K35H.d_is_subscripts) rfl; ⟨_, fd, He.glo_ok X N (c.d.fact 25 (f := .glo "is_subscripts") rfl), F⟩
  d_leaves_of := let ⟨fd, F⟩ := c.d.def_ 9 (d := K35H.d_leaves_of) rfl; ⟨_, fd, He.glo_ok X N (c.d.fact 26 (f := .glo "leaves_of") rfl), F⟩
  d_need_counts := let ⟨fd, F⟩ := c.d.def_ 10 (d := K35H.d_need_counts) rfl; ⟨_, fd, He.glo_ok X N (c.d.fact 27 (f := .glo "need_counts") rfl), F⟩
  d_is_step := let ⟨fd, F⟩ := c.d.def_ 11 (d := K35H.d_is_step) rfl; ⟨_, fd, He.glo_ok X N (c.d.fact 28 (f := .glo "is_step") rfl), F⟩
  d_is_leaf := let ⟨fd, F⟩ := c.d.def_ 12 (d := K35H.d_is_leaf) rfl; ⟨_, fd, He.glo_ok X N (c.d.fact 29 (f := .glo "is_leaf") rfl), F⟩
  d_is_variable := let ⟨fd, F⟩ := c.d.def_ 13 (d := K35H.d_is_variable) rfl; ⟨_, fd, He.glo_ok X N (c.d.fact 30 (f := .glo "is_variable") rfl), F⟩
  d_uses_in := let ⟨fd, F⟩ := c.d.def_ 14 (d := K35H.d_uses_in) rfl; ⟨_, fd, He.glo_ok X N (c.d.fact 31 (f := .glo "uses_in") rfl), F⟩
  d_need_recurrences := let ⟨fd, F⟩ := c.d.def_ 15 (d := K35H.d_need_recurrences) rfl; ⟨_, fd, He.glo_ok X N (c.d.fact 32 (f := .glo "need_recurrences") rfl), F⟩
  d_is_row_of := let ⟨fd, F⟩ := c.d.def_ 16 (d := K35H.d_is_row_of) rfl; ⟨_, fd, He.glo_ok X N (c.d.fact 34 (f := .glo "is_row_of") rfl), F⟩
  d_summed := let ⟨fd, F⟩ := c.d.def_ 17 (d := K35H.d_summed) rfl; ⟨_, fd, He.glo_ok X N (c.d.fact 35 (f := .glo "summed") rfl), F⟩
  d_needs_by := let ⟨fd, F⟩ := c.d.def_ 18 (d := K35H.d_needs_by) rfl; ⟨_, fd, He.glo_ok X N (c.d.fact 36 (f := .glo "needs_by") rfl), F⟩
  d_needs_of := let ⟨fd, F⟩ := c.d.def_ 19 (d := K35H.d_needs_of) rfl; ⟨_, fd, He.glo_ok X N (c.d.fact 37 (f := .glo "needs_of") rfl), F⟩
  d_is_vector := let ⟨fd, F⟩ := c.d.def_ 20 (d := K35H.d_is_vector) rfl; ⟨_, fd, He.glo_ok X N (c.d.fact 38 (f := .glo "is_vector") rfl), F⟩
  d_is_schedule := let ⟨fd, F⟩ := c.d.def_ 21 (d := K35H.d_is_schedule) rfl; ⟨_, fd, He.glo_ok X N (c.d.fact 39 (f := .glo "is_schedule") rfl), F⟩
  d_lowest := let ⟨fd, F⟩ := c.d.def_ 22 (d := K35H.d_lowest) rfl; ⟨_, fd, He.glo_ok X N (c.d.fact 40 (f := .glo "lowest") rfl), F⟩
  d_highest := let ⟨fd, F⟩ := c.d.def_ 23 (d := K35H.d_highest) rfl; ⟨_, fd, He.glo_ok X N (c.d.fact 41 (f := .glo "highest") rfl), F⟩
  d_wrong_place := let ⟨fd, F⟩ := c.d.def_ 24 (d := K35H.d_wrong_place) rfl; ⟨_, fd, He.glo_ok X N (c.d.fact 42 (f := .glo "wrong_place") rfl), F⟩
  d_need_schedule := let ⟨fd, F⟩ := c.d.def_ 25 (d := K35H.d_need_schedule) rfl; ⟨_, fd, He.glo_ok X N (c.d.fact 43 (f := .glo "need_schedule") rfl), F⟩
  d_is_legal := let ⟨fd, F⟩ := c.d.def_ 26 (d := K35H.d_is_legal) rfl; ⟨_, fd, He.glo_ok X N (c.d.fact 44 (f := .glo "is_legal") rfl), F⟩
  d_length_of := let ⟨fd, F⟩ := c.d.def_ 27 (d := K35H.d_length_of) rfl; ⟨_, fd, He.glo_ok X N (c.d.fact 45 (f := .glo "length_of") rfl), F⟩
  d_moved_on := let ⟨fd, F⟩ := c.d.def_ 28 (d := K35H.d_moved_on) rfl; ⟨_, fd, He.glo_ok X N (c.d.fact 46 (f := .glo "moved_on") rfl), F⟩
  d_earliest_by := let ⟨fd, F⟩ := c.d.def_ 29 (d := K35H.d_earliest_by) rfl; ⟨_, fd, He.glo_ok X N (c.d.fact 47 (f := .glo "earliest_by") rfl), F⟩
  d_earliest := let ⟨fd, F⟩ := c.d.def_ 30 (d := K35H.d_earliest) rfl; ⟨_, fd, He.glo_ok X N (c.d.fact 48 (f := .glo "earliest") rfl), F⟩
  d__law_drawn := let ⟨fd, F⟩ := c.d.def_ 31 (d := K35H.d__law_drawn) rfl; ⟨_, fd, He.glo_ok X N (c.d.fact 49 (f := .glo "_law_drawn") rfl), F⟩
  d__law_called := let ⟨fd, F⟩ := c.d.def_ 32 (d := K35H.d__law_called) rfl; ⟨_, fd, He.glo_ok X N (c.d.fact 50 (f := .glo "_law_called") rfl), F⟩
  d__law_step := let ⟨fd, F⟩ := c.d.def_ 33 (d := K35H.d__law_step) rfl; ⟨_, fd, He.glo_ok X N (c.d.fact 51 (f := .glo "_law_step") rfl), F⟩
  d__law_use := let ⟨fd, F⟩ := c.d.def_ 34 (d := K35H.d__law_use) rfl; ⟨_, fd, He.glo_ok X N (c.d.fact 52 (f := .glo "_law_use") rfl), F⟩
  d__law_body := let ⟨fd, F⟩ := c.d.def_ 35 (d := K35H.d__law_body) rfl; ⟨_, fd, He.glo_ok X N (c.d.fact 53 (f := .glo "_law_body") rfl), F⟩
  d__law_made := let ⟨fd, F⟩ := c.d.def_ 36 (d := K35H.d__law_made) rfl; ⟨_, fd, He.glo_ok X N (c.d.fact 54 (f := .glo "_law_made") rfl), F⟩
  d__law_vector := let ⟨fd, F⟩ := c.d.def_ 37 (d := K35H.d__law_vector) rfl; ⟨_, fd, He.glo_ok X N (c.d.fact 55 (f := .glo "_law_vector") rfl), F⟩
  d__law_shuffled := let ⟨fd, F⟩ := c.d.def_ 38 (d := K35H.d__law_shuffled) rfl; ⟨_, fd, He.glo_ok X N (c.d.fact 56 (f := .glo "_law_shuffled") rfl), F⟩
  d__law_turned_body := let ⟨fd, F⟩ := c.d.def_ 39 (d := K35H.d__law_turned_body) rfl; ⟨_, fd, He.glo_ok X N (c.d.fact 57 (f := .glo "_law_turned_body") rfl), F⟩
  d__law_turned := let ⟨fd, F⟩ := c.d.def_ 40 (d := K35H.d__law_turned) rfl; ⟨_, fd, He.glo_ok X N (c.d.fact 58 (f := .glo "_law_turned") rfl), F⟩
  d__law_turned_right := let ⟨fd, F⟩ := c.d.def_ 41 (d := K35H.d__law_turned_right) rfl; ⟨_, fd, He.glo_ok X N (c.d.fact 59 (f := .glo "_law_turned_right") rfl), F⟩
  d__law_sum_right := let ⟨fd, F⟩ := c.d.def_ 42 (d := K35H.d__law_sum_right) rfl; ⟨_, fd, He.glo_ok X N (c.d.fact 60 (f := .glo "_law_sum_right") rfl), F⟩
  d__law_more_right := let ⟨fd, F⟩ := c.d.def_ 43 (d := K35H.d__law_more_right) rfl; ⟨_, fd, He.glo_ok X N (c.d.fact 61 (f := .glo "_law_more_right") rfl), F⟩
  d_law := let ⟨fd, F⟩ := c.d.def_ 44 (d := K35H.d_law) rfl; ⟨_, fd, He.glo_ok X N (c.d.fact 62 (f := .glo "law") rfl), F⟩
theorem sp_law {K : Frag} {w : World} (main : ∀ ns : List Int, ns.length ≤ 63 → (∀ z ∈ ns, Builtin.Int.intBits z ≤ 1048576) → ∃ st, F_law w [.cst (ns.map .int)] [] = .ok (.bl true) st) (H : Hp) (a : Addr) (ns : List Int) (hl : ns.length ≤ 63) (hb : ∀ z ∈ ns, Builtin.Int.intBits z ≤ 1048576) (hS : SqL K H a (ns.map V.int)) :
    spF K (F_law w) [.ref a] H (fun v _ => v = .bl true) fun _ _ _ => False := by
  have no : ∀ b, ¬ Own ([], []) [] b := by
    rintro b (h | ⟨n, o, h, _⟩)
    · cases h
    · cases h
  have ef : Fz ([], []) [] H = H := funext fun b => fz_eq (no b)
  have ri : ∀ ns : List Int, RVs K ([], []) H (ns.map Val.int) (ns.map V.int) := by
    intro ns
    induction ns with
    | nil => rfl
    | cons n ns ih => exact ⟨_, _, rfl, rfl, ih⟩
  obtain ⟨st, e⟩ := main ns hl hb
  refine ⟨([], []), [], [.cst (ns.map .int)], ⟨rfl, (fun n o a h => nomatch h), (fun n m a o o' h => nomatch h), (fun a h => nomatch h), (fun n a o h => nomatch h)⟩, ?_, ?_⟩
  · rw [ef]
    exact ⟨_, _, rfl, ⟨a, _, rfl, hS, ri ns⟩, rfl⟩
  · rw [e]
    exact fun ρ' H' b _ _ rv => rv
end K35
open PySem PySem.W PySem.Calls PyProof.Rows
theorem K35_end (main : ∀ (w : World) (ns : List Int), ns.length ≤ 63 → (∀ z ∈ ns, Builtin.Int.intBits z ≤ 1048576) → ∃ st, K35.F_law w [.cst (ns.map .int)] [] = .ok (.bl true) st) : PySem.Challenge.rw_nestloom_k35_whole_vectors_and_recurrenc.Holds := by
  w_on; o_law
  refine HandSHeadRun.head_any (r := OpenLaw.row PySem.Challenge.rw_nestloom_k35_whole_vectors_and_recurrenc) (q := view (OpenLaw.row PySem.Challenge.rw_nestloom_k35_whole_vectors_and_recurrenc).prog [64]) (H := K35H.hk) (ob := K35H.ob) (M := 8000) (loose := K35H.loose) (d := HandSHeadRun.topDef (OpenLaw.row PySem.Challenge.rw_nestloom_k35_whole_vectors_and_recurrenc).prog 64) (kwd := []) K35H.ob_eq
    (by kernel_rfl) (fun s => by kernel_rfl) K35H.run (by kernel_rfl) (by kernel_rfl) (by kernel_rfl) (by rfl) (by first | assumption | decide +kernel) (by decide +kernel) ⟨rfl, rfl, rfl, rfl, rfl, by decide +kernel⟩ ?hw ?hc
  case hw => w_witness2
  case hc =>
    refine L3.lawG (l := PySem.Challenge.rw_nestloom_k35_whole_vectors_and_recurrenc) (n := 63) (k := 21) (x := "_law_script") rfl (by decide) (by kernel_rfl) ⟨rfl, by decide, by decide⟩ ?F
    intro w mg fa h Y G hmg0
    obtain ⟨K, KX, c⟩ := Y
    have hmg : mg ("law" : PySem.Str) = some (.ref fa) := by
      have e : (HandSHeadRun.topDef (OpenLaw.row PySem.Challenge.rw_nestloom_k35_whole_vectors_and_recurrenc).prog 64).name = ("law" : PySem.Str) := by kernel_rfl
      rw [← e]
      exact hmg0
    have gs := K35.gs_of KX G c
    obtain ⟨f, fd, hm, D⟩ := gs.d_law
    have ee := hmg.symm.trans hm
    cases ee
    refine ⟨K, fd, L3.spF K (K35.F_law w), KX, fun s u => L2.FunD.bindsA (ps := ["_law_script"]) D (fun _ _ _ _ _ _ us hl => match us, hl with | [_], _ => rfl) s [u] rfl, fun H a ns hl hb _ hS => K35.sp_law (main w) H a ns hl hb hS, fun base _ _ => K35.fg_law gs D⟩
end

set_option Elab.async false
theorem PySem.Challenge.cw_nestloom_k35_whole_vectors_and_recurrenc_holds : PySem.Challenge.rw_nestloom_k35_whole_vectors_and_recurrenc.Holds :=
  K35_end fun w _ h _ => K35.law_main w h
