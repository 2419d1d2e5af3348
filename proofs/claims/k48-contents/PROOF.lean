import PyProof.Rows.All
import Wide.All
import OpenK.AllK
import Wide.FinOn
import HandS.ForMost
import HandS.Deep
import HandS.Wide
import HandS.Exc
import HandS.ExcOwn
import HandS.WordsExc
import HandS.CallSlots
import HandS.TupAny
import HandS.TupLe
import HandS.SortInts
import HandS.IsInst
import HandS.TupLen
import KE.KIntText
import PyProof.P3Eq
import PySem.Challenge.RW_tidyback_k48_contents_step_by_step
set_option Elab.async false
set_option linter.all false
section
set_option maxRecDepth 100000
set_option maxHeartbeats 4000000
/-! PL: a pure layer. Slots hold data; each expression and statement has a mirror. -/
namespace PL
open PySem L2

/-! ### data over a heap that never changes -/
def keyD : Key → PyData
  | .inl i => .int i
  | .inr x => .str x
mutual
inductive Rp (K : PySem.W.Frag) (F : Hp) : V → PyData → Prop
  | non : Rp K F .non .none
  | bl (b : Bool) : Rp K F (.bl b) (.bool b)
  | int (i : Int) : Rp K F (.int i) (.int i)
  | str (x : Str) : Rp K F (.str x) (.str x)
  | lst {a : Addr} {xs : List V} {ds : List PyData} : F a = some (.lst xs) → RpAll K F xs ds → Rp K F (.ref a) (.list ds)
  | tup {a : Addr} {xs : List V} {ds : List PyData} : F a = some (.tup xs) → RpAll K F xs ds → Rp K F (.ref a) (.tuple ds)
  | dK {a : Addr} {ks : List Key} {xs : List V} {ds : List PyData} : F a = some (.dK (ks.zip xs)) → ks.length = xs.length → RpAll K F xs ds → Rp K F (.ref a) (.dict ((ks.map keyD).zip ds))
  | dT {a : Addr} {ks : List (List Key)} {xs : List V} {ds : List PyData} : F a = some (.dT (ks.zip xs)) → ks.length = xs.length → RpAll K F xs ds → Rp K F (.ref a) (.dict ((ks.map fun k => PyData.tuple (k.map keyD)).zip ds))
inductive RpAll (K : PySem.W.Frag) (F : Hp) : List V → List PyData → Prop
  | nil : RpAll K F [] []
  | cons {v : V} {vs : List V} {d : PyData} {ds : List PyData} : Rp K F v d → RpAll K F vs ds → RpAll K F (v :: vs) (d :: ds)
end
def Sub (F G : Hp) : Prop := ∀ a o, F a = some o → G a = some o
theorem Sub.refl (F : Hp) : Sub F F := fun _ _ h => h
theorem Sub.trans {F G H : Hp} (a : Sub F G) (b : Sub G H) : Sub F H := fun c o h => b c o (a c o h)
theorem Sub.sqT {K : PySem.W.Frag} {F G : Hp} (s : Sub F G) {a : Addr} {xs : List V} (h : SqT K F a xs) : SqT K G a xs := by
  rcases h with (h | ⟨o, h⟩) | h
  · exact .inl (.inl (s _ _ h))
  · exact .inl (.inr ⟨o, s _ _ h⟩)
  · exact .inr h
section
variable {K : PySem.W.Frag} {F G : Hp}
mutual
theorem Rp.mono (s : Sub F G) : ∀ {v : V} {d : PyData}, Rp K F v d → Rp K G v d
  | _, _, .non => .non
  | _, _, .bl b => .bl b
  | _, _, .int i => .int i
  | _, _, .str x => .str x
  | _, _, .lst e h => .lst (s _ _ e) (RpAll.mono s h)
  | _, _, .tup e h => .tup (s _ _ e) (RpAll.mono s h)
  | _, _, .dK e l h => .dK (s _ _ e) l (RpAll.mono s h)
  | _, _, .dT e l h => .dT (s _ _ e) l (RpAll.mono s h)
theorem RpAll.mono (s : Sub F G) : ∀ {vs : List V} {ds : List PyData}, RpAll K F vs ds → RpAll K G vs ds
  | _, _, .nil => .nil
  | _, _, .cons h t => .cons (Rp.mono s h) (RpAll.mono s t)
end
theorem RpAll.length : ∀ {vs : List V} {ds : List PyData}, RpAll K F vs ds → vs.length = ds.length
  | _, _, .nil => rfl
  | _, _, .cons _ t => by simp [RpAll.length t]
theorem RpAll.get : ∀ {vs : List V} {ds : List PyData} {i : Nat} {d : PyData}, RpAll K F vs ds → ds[i]? = some d → ∃ v, vs[i]? = some v ∧ Rp K F v d
  | _, _, _, _, .nil, e => by simp at e
  | _, _, 0, _, .cons h _, e => by simp at e; subst e; exact ⟨_, rfl, h⟩
  | _, _, i + 1, d, .cons _ t, e => by
    obtain ⟨v, h1, h2⟩ := RpAll.get (i := i) (d := d) t (by simpa using e)
    exact ⟨v, by simpa using h1, h2⟩
theorem RpAll.get' : ∀ {vs : List V} {ds : List PyData} {i : Nat} {v : V}, RpAll K F vs ds → vs[i]? = some v → ∃ d, ds[i]? = some d ∧ Rp K F v d
  | _, _, _, _, .nil, e => by simp at e
  | _, _, 0, _, .cons h _, e => by simp at e; subst e; exact ⟨_, rfl, h⟩
  | _, _, i + 1, d, .cons _ t, e => by
    obtain ⟨v, h1, h2⟩ := RpAll.get' (i := i) (v := d) t (by simpa using e)
    exact ⟨v, by simpa using h1, h2⟩
theorem RpAll.append : ∀ {vs ws : List V} {ds es : List PyData}, RpAll K F vs ds → RpAll K F ws es → RpAll K F (vs ++ ws) (ds ++ es)
  | _, _, _, _, .nil, h => h
  | _, _, _, _, .cons h t, g => .cons h (RpAll.append t g)
theorem RpAll.set {v : V} {d : PyData} (h : Rp K F v d) : ∀ {vs : List V} {ds : List PyData} (i : Nat), RpAll K F vs ds → RpAll K F (vs.set i v) (ds.set i d)
  | _, _, _, .nil => .nil
  | _, _, 0, .cons _ t => .cons h t
  | _, _, i + 1, .cons g t => .cons g (RpAll.set h i t)
theorem RpAll.take : ∀ {vs : List V} {ds : List PyData} (n : Nat), RpAll K F vs ds → RpAll K F (vs.take n) (ds.take n)
  | _, _, 0, _ => .nil
  | _, _, _ + 1, .nil => .nil
  | _, _, n + 1, .cons g t => .cons g (RpAll.take n t)
theorem RpAll.drop : ∀ {vs : List V} {ds : List PyData} (n : Nat), RpAll K F vs ds → RpAll K F (vs.drop n) (ds.drop n)
  | _, _, 0, h => h
  | _, _, _ + 1, .nil => .nil
  | _, _, n + 1, .cons _ t => RpAll.drop n t
theorem RpAll.dropLast {vs : List V} {ds : List PyData} (h : RpAll K F vs ds) : RpAll K F vs.dropLast ds.dropLast := by
  rw [List.dropLast_eq_take, List.dropLast_eq_take, h.length]
  exact h.take _
theorem RpAll.reverse {vs : List V} {ds : List PyData} (h : RpAll K F vs ds) : RpAll K F vs.reverse ds.reverse := by
  induction vs generalizing ds with
  | nil => cases h; exact .nil
  | cons v vs ih =>
    cases h with
    | cons h t => rw [List.reverse_cons, List.reverse_cons]; exact (ih t).append (.cons h .nil)
theorem RpAll.rep {vs : List V} {ds : List PyData} (h : RpAll K F vs ds) (n : Nat) : RpAll K F (List.replicate n vs).flatten (List.replicate n ds).flatten := by
  induction n with
  | zero => exact .nil
  | succ n ih => rw [List.replicate_succ, List.replicate_succ, List.flatten_cons, List.flatten_cons]; exact h.append ih
theorem RpAll.ints : ∀ (ns : List Int), RpAll K F (ns.map V.int) (ns.map PyData.int)
  | [] => .nil
  | n :: ns => .cons (.int n) (RpAll.ints ns)
theorem RpAll.ints_of : ∀ {vs : List V} {ns : List Int}, RpAll K F vs (ns.map PyData.int) → vs = ns.map V.int
  | _, [], .nil => rfl
  | _, n :: ns, .cons h t => by cases h; rw [RpAll.ints_of t]; rfl
theorem RpAll.strs_of : ∀ {vs : List V} {ns : List Str}, RpAll K F vs (ns.map PyData.str) → vs = ns.map V.str
  | _, [], .nil => rfl
  | _, n :: ns, .cons h t => by cases h; rw [RpAll.strs_of t]; rfl
theorem RpAll.bls_of : ∀ {vs : List V} {ns : List Bool}, RpAll K F vs (ns.map PyData.bool) → vs = ns.map V.bl
  | _, [], .nil => rfl
  | _, n :: ns, .cons h t => by cases h; rw [RpAll.bls_of t]; rfl
end

/-! ### slots, results -/
/-- what a slot holds: nothing known; data; a list, a dict (keys flat, keys tuples) of its own, that may be changed; a caller's; the script -/
inductive Slot where
  | non
  | dat (d : PyData)
  | lst (xs : List PyData)
  | dK (kvs : List (Key × PyData))
  | dT (kvs : List (List Key × PyData))
  | bor (xs : List PyData)
  | borK (kvs : List (Key × PyData))
  | borT (kvs : List (List Key × PyData))
  | scr (ns : List Int)
  | nst (xs : List PyData)
abbrev PEnv := List Slot
/-- what an expression gives: data, the thing of a slot, a new thing -/
inductive R where
  | dat (d : PyData)
  | slot (i : Nat)
  | new (sl : Slot)
/-- an exception: its class's name, its fields -/
structure Exn where
  cls : Str
  fs : List (Str × PyData)
inductive Res (α : Type) where
  | ok (a : α) (ρ : PEnv)
  | err (x : Exn) (ρ : PEnv)
  | bad
abbrev M (α : Type) := PEnv → Res α
def Res.bind {α β : Type} (r : Res α) (f : α → M β) : Res β :=
  match r with
  | .ok a ρ => f a ρ
  | .err x ρ => .err x ρ
  | .bad => .bad

/-! ### the state's relation -/
/-- entry: the frozen heap, the heap, what may be changed -/
structure Zone where
  K : PySem.W.Frag
  F0 : Hp
  H0 : Hp
  B : Addr → Prop
abbrev Path := Nat × Nat
def DataHO : HO → Prop
  | .lst _ => True
  | .tup _ => True
  | .dK _ => True
  | .dT _ => True
  | _ => False
/-- a thing of a slot stands at v; owner path π -/
def Own (Z : Zone) (F : Hp) (H : Hp) (ω : Addr → Option Path) (π : Path) (v : V) : Slot → Prop
  | .non => True
  | .dat d => Rp Z.K F v d
  | .lst xs => ∃ l vs, v = .ref l ∧ ω l = some π ∧ Z.H0 l = none ∧ H l = some (.lst vs) ∧ RpAll Z.K F vs xs
  | .dK kvs => ∃ l vs, v = .ref l ∧ ω l = some π ∧ Z.H0 l = none ∧ H l = some (.dK ((kvs.map (·.1)).zip vs)) ∧ RpAll Z.K F vs (kvs.map (·.2))
  | .dT kvs => ∃ l vs, v = .ref l ∧ ω l = some π ∧ Z.H0 l = none ∧ H l = some (.dT ((kvs.map (·.1)).zip vs)) ∧ RpAll Z.K F vs (kvs.map (·.2))
  | .bor xs => ∃ l vs, v = .ref l ∧ Z.H0 l = some (.lst vs) ∧ ¬ Z.B l ∧ RpAll Z.K F vs xs
  | .borK kvs => ∃ l vs, v = .ref l ∧ Z.H0 l = some (.dK ((kvs.map (·.1)).zip vs)) ∧ ¬ Z.B l ∧ RpAll Z.K F vs (kvs.map (·.2))
  | .borT kvs => ∃ l vs, v = .ref l ∧ Z.H0 l = some (.dT ((kvs.map (·.1)).zip vs)) ∧ ¬ Z.B l ∧ RpAll Z.K F vs (kvs.map (·.2))
  | .scr ns => ∃ l, v = .ref l ∧ SqL Z.K Z.H0 l (ns.map V.int) ∧ ¬ Z.B l
  | .nst xs => ∃ l b vs, v = .ref l ∧ ω l = some π ∧ Z.H0 l = none ∧ H l = some (.lst (.ref b :: vs)) ∧ RpAll Z.K F (.ref b :: vs) xs ∧ V.ref b ∉ vs ∧ Z.H0 b = none
structure SR (Z : Zone) (F : Hp) (ω : Addr → Option Path) (ρ : PEnv) (σ : St) (H : Hp) : Prop where
  sub : Sub F H
  kind : ∀ a o, F a = some o → DataHO o
  sub0 : Sub Z.F0 F
  newF : ∀ a, F a ≠ none → Z.F0 a ≠ none ∨ Z.H0 a = none
  keep : ∀ a o, Z.H0 a = some o → ¬ Z.B a → H a = some o
  dom : ∀ a, Z.H0 a ≠ none → H a ≠ none
  own : ∀ a π, ω a = some π → F a = none ∧ H a ≠ none ∧ (Z.B a ∨ Z.H0 a = none)
  len : ρ.length = σ.length
  slots : ∀ i sl, ρ[i]? = some sl → sl ≠ .non → ∃ v, σ[i]? = some (some v) ∧ Own Z F H ω (i, 0) v sl
theorem Own.mono {Z : Zone} {F F' H H' : Hp} {ω ω' : Addr → Option Path} {π π' : Path} {v : V} (hF : Sub F F') (hH : ∀ a o, ω a = some π → H a = some o → H' a = some o) (hω : ∀ a, ω a = some π → ω' a = some π') :
    ∀ {sl : Slot}, Own Z F H ω π v sl → Own Z F' H' ω' π' v sl
  | .non, _ => trivial
  | .dat _, h => Rp.mono hF h
  | .lst _, ⟨l, vs, e, o, z, h, r⟩ => ⟨l, vs, e, hω _ o, z, hH _ _ o h, r.mono hF⟩
  | .dK _, ⟨l, vs, e, o, z, h, r⟩ => ⟨l, vs, e, hω _ o, z, hH _ _ o h, r.mono hF⟩
  | .dT _, ⟨l, vs, e, o, z, h, r⟩ => ⟨l, vs, e, hω _ o, z, hH _ _ o h, r.mono hF⟩
  | .bor _, ⟨l, vs, e, h, b, r⟩ => ⟨l, vs, e, h, b, r.mono hF⟩
  | .borK _, ⟨l, vs, e, h, b, r⟩ => ⟨l, vs, e, h, b, r.mono hF⟩
  | .borT _, ⟨l, vs, e, h, b, r⟩ => ⟨l, vs, e, h, b, r.mono hF⟩
  | .scr _, h => h
  | .nst _, ⟨l, b, vs, e, o, z, h, r, n, z2⟩ => ⟨l, b, vs, e, hω _ o, z, hH _ _ o h, r.mono hF, n, z2⟩
section
variable {Z : Zone} {F F' H H' : Hp} {ω : Addr → Option Path} {ρ : PEnv} {σ : St} {v : V} {sl : Slot} {p : Addr}
/-- a new untouched object: anything may be laid -/
theorem SR.lay {o : HO} (S : SR Z F ω ρ σ H) (hp : H p = none) : SR Z F ω ρ σ (upd H p o) := by
  have ne : ∀ a u, H a = some u → a ≠ p := fun a u e z => by subst z; rw [hp] at e; cases e
  refine ⟨fun a u e => ?_, S.kind, S.sub0, S.newF, fun a u e b => ?_, fun a e => ?_, fun a π e => ?_, S.len, fun i sl e n => ?_⟩
  · rw [upd_ne (ne _ _ (S.sub a u e))]; exact S.sub a u e
  · rw [upd_ne (ne _ _ (S.keep a u e b))]; exact S.keep a u e b
  · by_cases z : a = p
    · subst z; rw [upd_same]; simp
    · rw [upd_ne z]; exact S.dom a e
  · obtain ⟨h1, h2, h3⟩ := S.own a π e
    refine ⟨h1, ?_, h3⟩
    by_cases z : a = p
    · subst z; rw [upd_same]; simp
    · rw [upd_ne z]; exact h2
  · obtain ⟨v, h1, h2⟩ := S.slots i sl e n
    exact ⟨v, h1, Own.mono (Sub.refl F) (fun a o _ e => by rw [upd_ne (ne _ _ e)]; exact e) (fun _ e => e) h2⟩
theorem SR.noF (S : SR Z F ω ρ σ H) (hp : H p = none) : F p = none := by
  cases e : F p with
  | none => rfl
  | some o => have := S.sub p o e; rw [hp] at this; cases this
theorem SR.noW (S : SR Z F ω ρ σ H) (hp : H p = none) : ω p = none := by
  cases e : ω p with
  | none => rfl
  | some o => exact absurd hp (S.own p o e).2.1
theorem SR.no0 (S : SR Z F ω ρ σ H) (hp : H p = none) : Z.H0 p = none := by
  cases e : Z.H0 p with
  | none => rfl
  | some o => exact absurd hp (S.dom p (by rw [e]; simp))
theorem Sub.upd_new {o : HO} (hp : F p = none) : Sub F (upd F p o) := fun a u e => by
  rw [upd_ne (fun z => by subst z; rw [hp] at e; cases e)]; exact e
/-- a new frozen thing -/
theorem SR.layF {o : HO} (S : SR Z F ω ρ σ H) (hp : H p = none) (hd : DataHO o) : SR Z (upd F p o) ω ρ σ (upd H p o) := by
  have S1 := S.lay (o := o) hp
  have fp := S.noF hp
  refine ⟨fun a u e => ?_, fun a u e => ?_, S.sub0.trans (Sub.upd_new fp), fun a e => ?_, S1.keep, S1.dom, fun a π e => ?_, S.len, fun i sl e n => ?_⟩
  · by_cases z : a = p
    · subst z; rw [upd_same] at e ⊢; exact e
    · rw [upd_ne z] at e; exact S1.sub a u e
  · by_cases z : a = p
    · subst z; rw [upd_same] at e; cases e; exact hd
    · rw [upd_ne z] at e; exact S.kind a u e
  · by_cases z : a = p
    · subst z; exact .inr (S.no0 hp)
    · rw [upd_ne z] at e; exact S.newF a e
  · obtain ⟨h1, h2, h3⟩ := S1.own a π e
    refine ⟨?_, h2, h3⟩
    rw [upd_ne (fun z => by subst z; rw [S.noW hp] at e; cases e)]; exact h1
  · obtain ⟨v, h1, h2⟩ := S1.slots i sl e n
    exact ⟨v, h1, Own.mono (Sub.upd_new fp) (fun _ _ _ e => e) (fun _ e => e) h2⟩
theorem SR.newTup {xs : List V} {ds : List PyData} (S : SR Z F ω ρ σ H) (hp : H p = none) (r : RpAll Z.K F xs ds) :
    SR Z (upd F p (.tup xs)) ω ρ σ (upd H p (.tup xs)) ∧ Sub F (upd F p (.tup xs)) ∧ Rp Z.K (upd F p (.tup xs)) (.ref p) (.tuple ds) :=
  have s := Sub.upd_new (o := .tup xs) (S.noF hp)
  ⟨S.layF hp trivial, s, .tup upd_same (r.mono s)⟩
/-- the owner map with a further owned address -/
def ownW (ω : Addr → Option Path) (p : Addr) (π : Path) : Addr → Option Path := fun a => if a = p then some π else ω a
theorem ownW_same {ω : Addr → Option Path} {p : Addr} {π : Path} : ownW ω p π p = some π := if_pos rfl
theorem ownW_ne {ω : Addr → Option Path} {p a : Addr} {π : Path} (h : a ≠ p) : ownW ω p π a = ω a := if_neg h
theorem SR.ownNew {o : HO} {π : Path} (S : SR Z F ω ρ σ H) (hp : H p = none) : SR Z F (ownW ω p π) ρ σ (upd H p o) := by
  have S1 := S.lay (o := o) hp
  refine ⟨S1.sub, S1.kind, S1.sub0, S1.newF, S1.keep, S1.dom, fun a π' e => ?_, S.len, fun i sl e n => ?_⟩
  · by_cases z : a = p
    · subst z
      exact ⟨S.noF hp, by rw [upd_same]; simp, .inr (S.no0 hp)⟩
    · rw [ownW_ne z] at e; exact S1.own a π' e
  · obtain ⟨v, h1, h2⟩ := S1.slots i sl e n
    exact ⟨v, h1, Own.mono (Sub.refl F) (fun _ _ _ e => e) (fun a e => by
      rw [ownW_ne (fun z => by subst z; rw [S.noW hp] at e; cases e)]; exact e) h2⟩
/-- an owned thing at l is forgotten by the owner map (and frozen) -/
def dropW (ω : Addr → Option Path) (π : Path) : Addr → Option Path := fun a => if ω a = some π then none else ω a
theorem dropW_other {ω : Addr → Option Path} {a : Addr} {π π' : Path} (h : ω a = some π') (n : π' ≠ π) : dropW ω π a = some π' := by
  unfold dropW; rw [if_neg (by rw [h]; intro z; cases z; exact n rfl)]; exact h
theorem dropW_some {ω : Addr → Option Path} {a : Addr} {π π' : Path} (h : dropW ω π a = some π') : ω a = some π' ∧ π' ≠ π := by
  unfold dropW at h
  split at h
  · cases h
  · rename_i n; exact ⟨h, fun z => n (by rw [h, z])⟩
end
end PL
end

section
set_option maxRecDepth 100000
set_option maxHeartbeats 4000000
/-! PL, second part: judgements; atoms, operators, comparisons. -/
namespace PL
open PySem L2

/-! ### views -/
def rdS : Slot → Option PyData
  | .dat d => some d
  | .lst xs => some (.list xs)
  | .bor xs => some (.list xs)
  | .nst xs => some (.list xs)
  | _ => none
def rv (ρ : PEnv) : R → Option PyData
  | .dat d => some d
  | .slot i => match ρ[i]? with
    | some s => rdS s
    | none => none
  | .new _ => none
/-- the value of a result -/
def VR (Z : Zone) (F : Hp) (ω : Addr → Option Path) (σ : St) (n : Nat) (H : Hp) : R → V → Prop
  | .dat d, v => Rp Z.K F v d
  | .slot i, v => i < n ∧ σ[i]? = some (some v)
  | .new sl, v => Own Z F H ω (n, 0) v sl
/-- no new thing -/
def Old : R → Prop
  | .new _ => False
  | _ => True
theorem VR.mono {Z : Zone} {F F' : Hp} {ω ω' : Addr → Option Path} {σ : St} {n : Nat} {H H' : Hp} (s : Sub F F') : ∀ {r : R} {v : V}, Old r → VR Z F ω σ n H r v → VR Z F' ω' σ n H' r v
  | .dat _, _, _, h => Rp.mono s h
  | .slot _, _, _, h => h
/-- what may be read -/
def Vw (K : PySem.W.Frag) (F H : Hp) (v : V) (d : PyData) : Prop :=
  Rp K F v d ∨ ∃ l vs xs, v = .ref l ∧ d = .list xs ∧ H l = some (.lst vs) ∧ RpAll K F vs xs
section
variable {Z : Zone} {F F' H H' : Hp} {ω : Addr → Option Path} {ρ : PEnv} {σ : St} {v : V} {sl : Slot} {p : Addr}
theorem Own.view (S : SR Z F ω ρ σ H) {π : Path} {d : PyData} {sl : Slot} (h : Own Z F H ω π v sl) (e : rdS sl = some d) : Vw Z.K F H v d := by
  cases sl with
  | dat d' => cases e; exact .inl h
  | lst xs => obtain ⟨l, vs, e1, _, _, h, r⟩ := h; cases e; exact .inr ⟨l, vs, _, e1, rfl, h, r⟩
  | bor xs => obtain ⟨l, vs, e1, h, b, r⟩ := h; cases e; exact .inr ⟨l, vs, _, e1, rfl, S.keep _ _ h b, r⟩
  | nst xs => obtain ⟨l, b, vs, e1, _, _, h, r, _, _⟩ := h; cases e; exact .inr ⟨l, _, _, e1, rfl, h, r⟩
  | non => cases e
  | dK _ => cases e
  | dT _ => cases e
  | borK _ => cases e
  | borT _ => cases e
  | scr _ => cases e
theorem SR.view (S : SR Z F ω ρ σ H) {r : R} {d : PyData} (h : VR Z F ω σ ρ.length H r v) (e : rv ρ r = some d) : Vw Z.K F H v d := by
  cases r with
  | dat d' => cases e; exact .inl h
  | slot i =>
    obtain ⟨hi, hv⟩ := h
    obtain ⟨s, hs⟩ : ∃ s, ρ[i]? = some s := ⟨ρ[i], List.getElem?_eq_getElem hi⟩
    have e' : rdS s = some d := by simpa [rv, hs] using e
    obtain ⟨v', h1, h2⟩ := S.slots i s hs (by intro z; subst z; simp [rdS] at e')
    rw [hv] at h1; cases h1
    exact h2.view S e'
  | new _ => cases e
theorem Vw.list (S : Sub F H) {xs : List PyData} (h : Vw Z.K F H v (.list xs)) : ∃ l vs, v = .ref l ∧ H l = some (.lst vs) ∧ RpAll Z.K F vs xs := by
  rcases h with h | ⟨l, vs, xs', e, e2, h, r⟩
  · cases h with
    | lst e r => exact ⟨_, _, rfl, S _ _ e, r⟩
  · cases e2; exact ⟨l, vs, e, h, r⟩
theorem Vw.tuple {xs : List PyData} (S : Sub F H) (h : Vw Z.K F H v (.tuple xs)) : ∃ l vs, v = .ref l ∧ H l = some (.tup vs) ∧ RpAll Z.K F vs xs ∧ Rp Z.K F v (.tuple xs) := by
  rcases h with h | ⟨l, vs, xs', e, e2, h, r⟩
  · cases h with
    | tup e r => exact ⟨_, _, rfl, S _ _ e, r, .tup e r⟩
  · cases e2
theorem Vw.tuple' {K : PySem.W.Frag} {xs : List PyData} (S : Sub F H) (h : Vw K F H v (.tuple xs)) : ∃ l vs, v = .ref l ∧ H l = some (.tup vs) ∧ RpAll K F vs xs ∧ Rp K F v (.tuple xs) := by
  rcases h with h | ⟨l, vs, xs', e, e2, h, r⟩
  · cases h with
    | tup e r => exact ⟨_, _, rfl, S _ _ e, r, .tup e r⟩
  · cases e2
theorem Vw.int {i : Int} (h : Vw Z.K F H v (.int i)) : v = .int i := by
  rcases h with h | ⟨l, vs, xs', e, e2, h, r⟩
  · cases h; rfl
  · cases e2
theorem Vw.bool {i : Bool} (h : Vw Z.K F H v (.bool i)) : v = .bl i := by
  rcases h with h | ⟨l, vs, xs', e, e2, h, r⟩
  · cases h; rfl
  · cases e2
theorem Vw.none (h : Vw Z.K F H v .none) : v = .non := by
  rcases h with h | ⟨l, vs, xs', e, e2, h, r⟩
  · cases h; rfl
  · cases e2
theorem Vw.str {x : Str} (h : Vw Z.K F H v (.str x)) : v = .str x := by
  rcases h with h | ⟨l, vs, xs', e, e2, h, r⟩
  · cases h; rfl
  · cases e2
end
/-! a dict's data has no part in == -/
section
variable {K : PySem.W.Frag} {F H : Hp}
mutual
theorem Rp.dp (s : Sub F H) : ∀ (d : PyData) {v : V}, Rp K F v d → d.canLay0 = true → Dp K H v d
  | .none, _, .non, _ => .non
  | .bool _, _, .bl b, _ => .bl b
  | .int _, _, .int i, _ => .int i
  | .str _, _, .str x, _ => .str x
  | .list ds, _, .lst e h, c => .lst (SqL.of (s _ _ e)) (RpAll.dp s ds h (by simpa [PyData.canLay0] using c))
  | .tuple ds, _, .tup e h, c => .tup (SqT.of (s _ _ e)) (RpAll.dp s ds h (by simpa [PyData.canLay0] using c))
  | .dict _, _, _, c => by simp [PyData.canLay0] at c
theorem RpAll.dp (s : Sub F H) : ∀ (ds : List PyData) {vs : List V}, RpAll K F vs ds → PyData.canLayAll0 ds = true → DpAll K H vs ds
  | [], _, .nil, _ => .nil
  | d :: ds, _, .cons h t, c => by
    have c' : d.canLay0 = true ∧ PyData.canLayAll0 ds = true := by simpa [PyData.canLayAll0] using c
    exact .cons (Rp.dp s d h c'.1) (RpAll.dp s ds t c'.2)
end
theorem Vw.dp {v : V} {d : PyData} (s : Sub F H) (h : Vw K F H v d) (c : SeqAt.shaped d = true) : Dp K H v d := by
  have c0 := SeqAt.canLay_of_shaped c
  rcases h with h | ⟨l, vs, xs, rfl, rfl, h, r⟩
  · exact Rp.dp s d h c0
  · exact .lst (SqL.of h) (RpAll.dp s xs r (by simpa [PyData.canLay0] using c0))
end

/-! ### judgements -/
/-- an exception's value -/
def XR (X : Cx) (x : Exn) (c : Value) (d : Option Addr) (F H : Hp) : Prop :=
  ∃ C dd fs, X.mg x.cls = some (.ref C) ∧ c = .ref C ∧ d = some dd ∧ H dd = some (.xd fs) ∧ ∀ f d, x.fs.lookup f = some d → ∃ v, fs.lookup f = some v ∧ Rp X.K F v d
def Okk {α : Type} (X : Cx) (W : WX) (Z : Zone) (σ : St) (F : Hp) (res : Res α) (P : α → PEnv → Hp → (Addr → Option Path) → Hp → Prop) : Prop :=
  match res with
  | .ok a ρ' => ∀ F' ω' H', Sub F F' → SR Z F' ω' ρ' σ H' → P a ρ' F' ω' H'
  | .err x ρ' => ∀ F' ω' H' c d, Sub F F' → SR Z F' ω' ρ' σ H' → XR X x c d F' H' → W c d σ H'
  | .bad => False
section
variable {X : Cx} {W : WX} {Z : Zone} {σ : St} {F : Hp} {α β : Type}
theorem Okk.sub {res : Res α} {P : α → PEnv → Hp → (Addr → Option Path) → Hp → Prop} {F' : Hp} (s : Sub F F') (h : Okk X W Z σ F res P) : Okk X W Z σ F' res P := by
  cases res with
  | ok a ρ' => exact fun F2 ω2 H2 s2 S2 => h F2 ω2 H2 (s.trans s2) S2
  | err x ρ' => exact fun F2 ω2 H2 c d s2 S2 => h F2 ω2 H2 c d (s.trans s2) S2
  | bad => exact h
theorem Okk.imp {res : Res α} {P P' : α → PEnv → Hp → (Addr → Option Path) → Hp → Prop} (h : Okk X W Z σ F res P) (k : ∀ a ρ' F' ω' H', Sub F F' → SR Z F' ω' ρ' σ H' → P a ρ' F' ω' H' → P' a ρ' F' ω' H') : Okk X W Z σ F res P' := by
  cases res with
  | ok a ρ' => exact fun F2 ω2 H2 s2 S2 => k _ _ _ _ _ s2 S2 (h F2 ω2 H2 s2 S2)
  | err x ρ' => exact h
  | bad => exact h
theorem Okk.bind {res : Res α} {f : α → M β} {P : β → PEnv → Hp → (Addr → Option Path) → Hp → Prop} (h : Okk X W Z σ F (res.bind f) P) :
    Okk X W Z σ F res (fun a ρ' F' _ _ => Okk X W Z σ F' (f a ρ') P) := by
  cases res with
  | ok a ρ' => exact fun F2 ω2 H2 s2 S2 => Okk.sub s2 h
  | err x ρ' => exact h
  | bad => exact h
theorem Okk.here {a : α} {ρ : PEnv} {ω : Addr → Option Path} {H : Hp} {P : α → PEnv → Hp → (Addr → Option Path) → Hp → Prop} (S : SR Z F ω ρ σ H) (h : Okk X W Z σ F (.ok a ρ) P) : P a ρ F ω H := h F ω H (Sub.refl F) S
end
/-- the weakest readings -/
def wE (X : Cx) (e : Expr) : TE := fun σ H Q => ∀ pins s, Inv X pins σ H s → wpAny (model X.prog X.w) X.A (eval e X.env) (EP X pins σ Q) X.xe s
theorem PE.wE {X : Cx} {e : Expr} : PE X e (wE X e) := ⟨fun pins s σ H Q I h => h pins s I⟩
theorem wE.of {X : Cx} {e : Expr} {t : TE} {σ : St} {H : Hp} {Q : VK} (h : PE X e t) (q : t σ H Q) : wE X e σ H Q := fun pins s I => h.run pins s σ H Q I q
def wT (X : Cx) (e : Expr) : TT := fun σ H Q => ∀ pins s, Inv X pins σ H s → wpAny (model X.prog X.w) X.A (isTrue e X.env (eval e X.env)) (TP X pins σ Q) X.xe s
theorem PT.wT {X : Cx} {e : Expr} : PT X e (wT X e) := ⟨fun pins s σ H Q I h => h pins s I⟩
theorem wT.of {X : Cx} {e : Expr} {t : TT} {σ : St} {H : Hp} {Q : Bool → Hp → Prop} (h : PT X e t) (q : t σ H Q) : wT X e σ H Q := fun pins s I => h.run pins s σ H Q I q
def wW (X : Cx) (e : Expr) : TT := fun σ H Q => ∀ (whole : Sem Value) pins s, Inv X pins σ H s → wpAny (model X.prog X.w) X.A (isTrue e X.env whole) (TP X pins σ Q) X.xe s
theorem PW.wW {X : Cx} {e : Expr} : PW X e (wW X e) := ⟨fun whole pins s σ H Q I h => h whole pins s I⟩
theorem wW.of {X : Cx} {e : Expr} {t : TT} {σ : St} {H : Hp} {Q : Bool → Hp → Prop} (h : PW X e t) (q : t σ H Q) : wW X e σ H Q := fun whole pins s I => h.run whole pins s σ H Q I q
def wA (X : Cx) (es : List Expr) : TA := fun σ H Q => ∀ (pos : Pos) pins s, Inv X pins σ H s → wpAny (model X.prog X.w) X.A (spliced (backTo pos (starEach es X.env))) (AP X pins σ Q) X.xe s
theorem PA.wA {X : Cx} {es : List Expr} : PA X es (wA X es) := ⟨fun pos pins s σ H Q I h => h pos pins s I⟩
theorem wA.of {X : Cx} {es : List Expr} {t : TA} {σ : St} {H : Hp} {Q : List V → Hp → Prop} (h : PA X es t) (q : t σ H Q) : wA X es σ H Q := fun pos pins s I => h.run pos pins s σ H Q I q
def wOp (X : Cx) (f : Value → Value → Sem Value) : R2 := fun x y H Q => ∃ r0, OpR X f r0 ∧ r0 x y H Q
theorem OpR.wOp {X : Cx} {f : Value → Value → Sem Value} : OpR X f (wOp X f) := fun pins s σ H x y v u Q I rx ry ⟨r0, h, q⟩ => h pins s σ H x y v u Q I rx ry q
def wCa (X : Cx) (f : Value) : List V → Hp → VK → Prop := fun xs H Q => ∃ r0, CallR X f r0 ∧ r0 xs H Q
theorem CallR.wCa {X : Cx} {f : Value} : CallR X f (wCa X f) := fun pins s σ H xs us Q I rx ⟨r0, h, q⟩ => h pins s σ H xs us Q I rx q
def wMt (X : Cx) (id : String) : V → List V → Hp → VK → Prop := fun x xs H Q => ∃ r0, MtR X id r0 ∧ r0 x xs H Q
theorem MtR.wMt {X : Cx} {id : String} : MtR X id (wMt X id) := by
  intro pins s σ H x xs v us Q I rx rxs q
  obtain ⟨r0, h, q⟩ := q
  exact h pins s σ H x xs v us Q I rx rxs q
def wIx (X : Cx) : R2 := fun x y H Q => ∃ r0, IxR X r0 ∧ r0 x y H Q
theorem IxR.wIx {X : Cx} : IxR X (wIx X) := by
  intro value slice pins s σ H x y v u Q I rx ry q e
  obtain ⟨r0, h, q⟩ := q
  exact h value slice pins s σ H x y v u Q I rx ry q e
def wSl (X : Cx) : V → Option Int → Option Int → Hp → VK → Prop := fun x lo hi H Q => ∃ r0, SlR X r0 ∧ r0 x lo hi H Q
theorem SlR.wSl {X : Cx} : SlR X (wSl X) := fun pins s σ H x v vl vu lo hi sl Q I rx hs pl pu ⟨r0, h, q⟩ => h pins s σ H x v vl vu lo hi sl Q I rx hs pl pu q

/-- an expression does what m says -/
def PX (X : Cx) (W : WX) (e : Expr) (m : M R) : Prop :=
  ∀ Z F ω ρ σ H Q, Z.K = X.K → SR Z F ω ρ σ H → Okk X W Z σ F (m ρ) (fun r ρ' F' ω' H' => ∀ v, VR Z F' ω' σ ρ'.length H' r v → Q v H') → wE X e σ H Q
/-- the same for an operand: nothing new -/
def PO' (X : Cx) (W : WX) (e : Expr) (m : M R) : Prop :=
  ∀ Z F ω ρ σ H Q, Z.K = X.K → SR Z F ω ρ σ H → Okk X W Z σ F (m ρ) (fun r ρ' F' ω' H' => ∀ v, Old r → VR Z F' ω' σ ρ'.length H' r v → Q v H') → wE X e σ H Q
/-- a test -/
def PXT (X : Cx) (W : WX) (e : Expr) (m : M Bool) : Prop :=
  ∀ Z F ω ρ σ H Q, Z.K = X.K → SR Z F ω ρ σ H → Okk X W Z σ F (m ρ) (fun b ρ' F' ω' H' => Q b H') → wT X e σ H Q
def PXW (X : Cx) (W : WX) (e : Expr) (m : M Bool) : Prop :=
  ∀ Z F ω ρ σ H Q, Z.K = X.K → SR Z F ω ρ σ H → Okk X W Z σ F (m ρ) (fun b ρ' F' ω' H' => Q b H') → wW X e σ H Q
/-- values of a list of operands -/
def VRs (Z : Zone) (F : Hp) (ω : Addr → Option Path) (σ : St) (n : Nat) (H : Hp) : List R → List V → Prop
  | [], vs => vs = []
  | r :: rs, vs => ∃ v vs', vs = v :: vs' ∧ Old r ∧ VR Z F ω σ n H r v ∧ VRs Z F ω σ n H rs vs'
def PXA (X : Cx) (W : WX) (es : List Expr) (m : M (List R)) : Prop :=
  ∀ Z F ω ρ σ H Q, Z.K = X.K → SR Z F ω ρ σ H → Okk X W Z σ F (m ρ) (fun rs ρ' F' ω' H' => ∀ vs, VRs Z F' ω' σ ρ'.length H' rs vs → Q vs H') → wA X es σ H Q

/-! ### a new thing is frozen -/
def frzS : Slot → Option PyData
  | .lst xs => some (.list xs)
  | .nst xs => some (.list xs)
  | .dK kvs => some (.dict (kvs.map fun kv => (keyD kv.1, kv.2)))
  | .dT kvs => some (.dict (kvs.map fun kv => (PyData.tuple (kv.1.map keyD), kv.2)))
  | _ => none
theorem zip_maps {α β γ : Type} (f : α → γ) (l : List (α × β)) : ((l.map (·.1)).map f).zip (l.map (·.2)) = l.map fun kv => (f kv.1, kv.2) := by
  induction l with
  | nil => rfl
  | cons a l ih => simp only [List.map_cons, List.zip_cons_cons, ih]
section
variable {Z : Zone} {F F' H H' : Hp} {ω : Addr → Option Path} {ρ : PEnv} {σ : St} {v : V} {sl : Slot} {p : Addr}
/-- freezing what stands at l (owner π, no slot's) -/
theorem SR.frzAt {π : Path} {l : Addr} {o : HO} (S : SR Z F ω ρ σ H) (h : H l = some o) (hd : DataHO o) (hω : ω l = some π) (hb : Z.H0 l = none) (hπ : ∀ i sl, ρ[i]? = some sl → sl ≠ .non → π ≠ (i, 0)) :
    SR Z (upd F l o) (dropW ω π) ρ σ H ∧ Sub F (upd F l o) := by
  have fl : F l = none := (S.own l π hω).1
  have s := Sub.upd_new (o := o) fl
  refine ⟨⟨fun a u e => ?_, fun a u e => ?_, S.sub0.trans s, fun a e => ?_, S.keep, S.dom, fun a π' e => ?_, S.len, fun i sl e n => ?_⟩, s⟩
  · by_cases z : a = l
    · subst z; rw [upd_same] at e; cases e; exact h
    · rw [upd_ne z] at e; exact S.sub a u e
  · by_cases z : a = l
    · subst z; rw [upd_same] at e; cases e; exact hd
    · rw [upd_ne z] at e; exact S.kind a u e
  · by_cases z : a = l
    · subst z; exact .inr hb
    · rw [upd_ne z] at e; exact S.newF a e
  · obtain ⟨e1, n⟩ := dropW_some e
    obtain ⟨h1, h2, h3⟩ := S.own a π' e1
    refine ⟨?_, h2, h3⟩
    rw [upd_ne (fun z => by subst z; rw [hω] at e1; cases e1; exact n rfl)]; exact h1
  · obtain ⟨v, h1, h2⟩ := S.slots i sl e n
    exact ⟨v, h1, Own.mono s (fun _ _ _ e => e) (fun a e' => dropW_other e' fun z => hπ i sl e n z.symm) h2⟩
theorem SR.path_new (S : SR Z F ω ρ σ H) : ∀ i sl, ρ[i]? = some sl → sl ≠ .non → ((ρ.length, 0) : Path) ≠ (i, 0) := fun i sl e _ z => by
  have := (List.getElem?_eq_some_iff.mp e).1
  injection z with z _
  omega
end
def opd (m : M R) : M R := fun ρ => (m ρ).bind fun r ρ' => match r with
  | .new sl => match frzS sl with
    | some d => .ok (.dat d) ρ'
    | none => .bad
  | r => .ok r ρ'
end PL
end

section
set_option maxRecDepth 100000
set_option maxHeartbeats 1000000
/-! PL, third part: operands, arguments, displays, operators. -/
namespace PL
open PySem L2
section
variable {X : Cx} {W : WX} {e a b : Expr} {es : List Expr} {m ma mb : M R} {pos : Pos}
theorem map_fst_zip {α β : Type} : ∀ (ks : List α) (vs : List β), ks.length = vs.length → (ks.zip vs).map (·.1) = ks
  | [], [], _ => rfl
  | k :: ks, v :: vs, h => by simp [map_fst_zip ks vs (by simpa using h)]
theorem PX.opd (h : PX X W e m) : PO' X W e (opd m) := by
  intro Z F ω ρ σ H Q hK S ok
  refine h Z F ω ρ σ H Q hK S ((Okk.bind ok).imp fun r ρ' F' ω' H' s' S' ok' => ?_)
  cases r with
  | dat d => exact fun v hv => (Okk.here S' ok') v trivial hv
  | slot i => exact fun v hv => (Okk.here S' ok') v trivial hv
  | new sl =>
    intro v hv
    cases sl with
    | lst xs =>
      obtain ⟨l, vs, rfl, hω, h0, hl, r⟩ := hv
      obtain ⟨n1, n2⟩ := S'.frzAt hl trivial hω h0 S'.path_new
      exact ok' _ _ _ n2 n1 _ trivial (.lst upd_same (r.mono n2))
    | dK kvs =>
      obtain ⟨l, vs, rfl, hω, h0, hl, r⟩ := hv
      obtain ⟨n1, n2⟩ := S'.frzAt hl trivial hω h0 S'.path_new
      refine ok' _ _ _ n2 n1 _ trivial ?_
      show Rp _ _ _ (.dict _)
      rw [← zip_maps]
      exact .dK upd_same (by rw [r.length]; simp) (r.mono n2)
    | dT kvs =>
      obtain ⟨l, vs, rfl, hω, h0, hl, r⟩ := hv
      obtain ⟨n1, n2⟩ := S'.frzAt hl trivial hω h0 S'.path_new
      refine ok' _ _ _ n2 n1 _ trivial ?_
      show Rp _ _ _ (.dict _)
      rw [← zip_maps (fun k : List Key => PyData.tuple (k.map keyD))]
      exact .dT upd_same (by rw [r.length]; simp) (r.mono n2)
    | non => exact ok'.elim
    | dat _ => exact ok'.elim
    | bor _ => exact ok'.elim
    | borK _ => exact ok'.elim
    | borT _ => exact ok'.elim
    | scr _ => exact ok'.elim
    | nst xs =>
      obtain ⟨l, b, vs, rfl, hω, h0, hl, r, _, _⟩ := hv
      obtain ⟨n1, n2⟩ := S'.frzAt hl trivial hω h0 S'.path_new
      exact ok' _ _ _ n2 n1 _ trivial (.lst upd_same (r.mono n2))

/-! ### names, constants -/
def eVar (i : Nat) : M R := fun ρ => match ρ[i]? with
  | some .non => .bad
  | some _ => .ok (.slot i) ρ
  | none => .bad
theorem px_var {i : Nat} {x : Str} (hN : X.N[i]? = some x := by rfl) (hv : Vis X.env.scope x := by first | exact Or.inl rfl | exact Or.inr (Or.inl rfl) | exact Or.inr (Or.inr rfl)) (hd : (x == ("__debug__" : Str)) = false := by decide)
    (hcd : (x == ("__classdict__" : Str)) = false := by decide) : PX X W (.Name x pos) (eVar i) := by
  intro Z F ω ρ σ H Q hK S ok
  refine wE.of (pe_var hN hv hd hcd) ?_
  unfold eVar at ok
  cases h : ρ[i]? with
  | none => rw [h] at ok; exact ok.elim
  | some sl =>
    rw [h] at ok
    have hi := (List.getElem?_eq_some_iff.mp h).1
    have key : sl ≠ .non → ∃ v, σ[i]? = some (some v) ∧ Q v H := fun n => by
      obtain ⟨v, hv, _⟩ := S.slots i sl h n
      refine ⟨v, hv, ?_⟩
      cases sl <;> first | exact absurd rfl n | exact Okk.here S ok v ⟨hi, hv⟩
    exact key (by intro z; subst z; exact ok)
def eC (d : PyData) : M R := fun ρ => .ok (.dat d) ρ
theorem px_int {i : Int} {j} : PX X W (.Constant (.int i) j pos) (eC (.int i)) := fun Z F ω ρ σ H Q hK S ok => wE.of pe_int (Okk.here S ok _ (.int i))
theorem px_bl {i : Bool} {j} : PX X W (.Constant (.bool i) j pos) (eC (.bool i)) := fun Z F ω ρ σ H Q hK S ok => wE.of pe_bl (Okk.here S ok _ (.bl i))
theorem px_non {j} : PX X W (.Constant .none j pos) (eC .none) := fun Z F ω ρ σ H Q hK S ok => wE.of pe_non (Okk.here S ok _ .non)
theorem px_str {i : Str} {j} : PX X W (.Constant (.str i) j pos) (eC (.str i)) := fun Z F ω ρ σ H Q hK S ok => wE.of pe_str (Okk.here S ok _ (.str i))
/-- a constant of the module -/
theorem px_glob {x : Str} {v : V} {u : Value} {d : PyData} (hm : X.mg x = some u) (r : RelV v u) (hr : ∀ F, Rp X.K F v d) (hg : Gl X x := by rfl) (hd : (x == ("__debug__" : Str)) = false := by decide) : PX X W (.Name x pos) (eC d) :=
  fun Z F ω ρ σ H Q hK S ok => wE.of (pe_glob hg hm r hd) (Okk.here S ok _ (by show Rp Z.K _ _ _; rw [hK]; exact hr _))

/-! ### argument lists, tuples, lists -/
def mNil : M (List R) := fun ρ => .ok [] ρ
def mCons (m : M R) (ms : M (List R)) : M (List R) := fun ρ => (opd m ρ).bind fun r ρ1 => (ms ρ1).bind fun rs ρ2 => .ok (r :: rs) ρ2
theorem SR.len' {Z : Zone} {F F' H H' : Hp} {ω ω' : Addr → Option Path} {ρ ρ' : PEnv} {σ : St} (S : SR Z F ω ρ σ H) (S' : SR Z F' ω' ρ' σ H') : ρ'.length = ρ.length := by rw [S.len, S'.len]
theorem pxa_nil : PXA X W [] mNil := fun Z F ω ρ σ H Q hK S ok => wA.of pa_nil (Okk.here S ok [] rfl)
theorem pxa_cons {ms : M (List R)} (he : PX X W e m) (hes : PXA X W es ms) (hs : starEach (e :: es) X.env = (false, eval e X.env) :: starEach es X.env := by rfl) : PXA X W (e :: es) (mCons m ms) := by
  intro Z F ω ρ σ H Q hK S ok
  refine wA.of (pa_cons PE.wE PA.wA hs) ?_
  refine he.opd Z F ω ρ σ H _ hK S ((Okk.bind ok).imp fun r ρ1 F1 ω1 H1 s1 S1 ok1 => ?_)
  intro v old hv
  refine hes Z F1 ω1 ρ1 σ H1 _ hK S1 ((Okk.bind ok1).imp fun rs ρ2 F2 ω2 H2 s2 S2 ok2 => ?_)
  intro vs hvs
  refine Okk.here S2 ok2 (v :: vs) ⟨v, vs, rfl, old, ?_, hvs⟩
  rw [S1.len' S2]
  exact hv.mono s2 old
/-- operands that may be kept: data -/
def keepR (ρ : PEnv) : R → Option PyData
  | .dat d => some d
  | .slot i => match ρ[i]? with
    | some (.dat d) => some d
    | _ => none
  | .new _ => none
def keepRs (ρ : PEnv) : List R → Option (List PyData)
  | [] => some []
  | r :: rs => match keepR ρ r, keepRs ρ rs with
    | some d, some ds => some (d :: ds)
    | _, _ => none
theorem SR.kept {Z : Zone} {F H : Hp} {ω : Addr → Option Path} {ρ : PEnv} {σ : St} (S : SR Z F ω ρ σ H) {r : R} {d : PyData} {v : V} (h : VR Z F ω σ ρ.length H r v) (e : keepR ρ r = some d) : Rp Z.K F v d := by
  cases r with
  | dat d' => cases e; exact h
  | slot i =>
    obtain ⟨hi, hv⟩ := h
    cases hs : ρ[i]? with
    | none => simp only [keepR, hs] at e; cases e
    | some s =>
      simp only [keepR, hs] at e
      cases s with
      | dat d' =>
        cases e
        obtain ⟨v', h1, h2⟩ := S.slots i _ hs (by simp)
        rw [hv] at h1; cases h1
        exact h2
      | _ => cases e
  | new _ => cases e
theorem SR.keptAll {Z : Zone} {F H : Hp} {ω : Addr → Option Path} {ρ : PEnv} {σ : St} (S : SR Z F ω ρ σ H) : ∀ {rs : List R} {ds : List PyData} {vs : List V}, VRs Z F ω σ ρ.length H rs vs → keepRs ρ rs = some ds → RpAll Z.K F vs ds
  | [], _, _, h, e => by cases e; cases h; exact .nil
  | r :: rs, ds, vs, h, e => by
    obtain ⟨v, vs', rfl, _, hv, ht⟩ := h
    unfold keepRs at e
    cases h1 : keepR ρ r with
    | none => rw [h1] at e; cases e
    | some d =>
      rw [h1] at e
      cases h2 : keepRs ρ rs with
      | none => rw [h2] at e; cases e
      | some ds' =>
        rw [h2] at e
        cases e
        exact .cons (S.kept hv h1) (S.keptAll ht h2)
def eTup (ms : M (List R)) : M R := fun ρ => (ms ρ).bind fun rs ρ' => match keepRs ρ' rs with
  | some ds => if ds.length ≤ sizeLine then .ok (.dat (.tuple ds)) ρ' else .bad
  | none => .bad
def eLst (ms : M (List R)) : M R := fun ρ => (ms ρ).bind fun rs ρ' => match keepRs ρ' rs with
  | some ds => if ds.length ≤ sizeLine then .ok (.new (.lst ds)) ρ' else .bad
  | none => .bad
theorem SR.newThing {Z : Zone} {F H : Hp} {ω : Addr → Option Path} {ρ : PEnv} {σ : St} {p : Addr} {o : HO} {sl : Slot} (S : SR Z F ω ρ σ H) (hp : H p = none) (hown : ∀ ω', ω' p = some (ρ.length, 0) → Z.H0 p = none → Own Z F (upd H p o) ω' (ρ.length, 0) (.ref p) sl) :
    ∃ ω', SR Z F ω' ρ σ (upd H p o) ∧ VR Z F ω' σ ρ.length (upd H p o) (.new sl) (.ref p) :=
  ⟨_, S.ownNew (π := (ρ.length, 0)) hp, hown _ ownW_same (S.no0 hp)⟩
theorem SR.newLst {Z : Zone} {F H : Hp} {ω : Addr → Option Path} {ρ : PEnv} {σ : St} {p : Addr} {xs : List V} {ds : List PyData} (S : SR Z F ω ρ σ H) (hp : H p = none) (r : RpAll Z.K F xs ds) :
    ∃ ω', SR Z F ω' ρ σ (upd H p (.lst xs)) ∧ VR Z F ω' σ ρ.length (upd H p (.lst xs)) (.new (.lst ds)) (.ref p) :=
  S.newThing hp fun ω' e z => ⟨p, xs, rfl, e, z, upd_same, r⟩
theorem px_tup {ms : M (List R)} {x1} (h : PXA X W es ms) : PX X W (.Tuple es x1 pos) (eTup ms) := by
  intro Z F ω ρ σ H Q hK S ok
  refine wE.of (pe_tup PA.wA) ?_
  refine h Z F ω ρ σ H _ hK S ((Okk.bind ok).imp fun rs ρ1 F1 ω1 H1 s1 S1 ok1 => ?_)
  intro vs hvs
  cases hk : keepRs ρ1 rs with
  | none => simp only [hk] at ok1; exact ok1.elim
  | some ds =>
    simp only [hk] at ok1
    have hr := S1.keptAll hvs hk
    split at ok1
    · rename_i hl
      refine ⟨by rw [hr.length]; exact hl, fun p hp => ?_⟩
      obtain ⟨n1, n2, n3⟩ := S1.newTup hp hr
      exact ok1 _ _ _ n2 n1 _ n3
    · exact ok1.elim
theorem px_lst {ms : M (List R)} (h : PXA X W es ms) : PX X W (.List es pos) (eLst ms) := by
  intro Z F ω ρ σ H Q hK S ok
  refine wE.of (pe_lst PA.wA) ?_
  refine h Z F ω ρ σ H _ hK S ((Okk.bind ok).imp fun rs ρ1 F1 ω1 H1 s1 S1 ok1 => ?_)
  intro vs hvs
  cases hk : keepRs ρ1 rs with
  | none => simp only [hk] at ok1; exact ok1.elim
  | some ds =>
    simp only [hk] at ok1
    have hr := S1.keptAll hvs hk
    split at ok1
    · rename_i hl
      refine ⟨by rw [hr.length]; exact hl, fun p hp => ?_⟩
      obtain ⟨ω2, n1, n2⟩ := S1.newLst hp hr
      exact ok1 _ _ _ (Sub.refl _) n1 _ n2
    · exact ok1.elim
end
end PL
end

section
set_option maxRecDepth 100000
set_option maxHeartbeats 1000000
/-! PL, fourth part: operators, comparisons, subscripts. -/
namespace PL
open PySem L2
/-- a two-place operation on data -/
def OpG (X : Cx) (f : Value → Value → Sem Value) (p : PyData → PyData → Option R) : Prop :=
  ∀ Z F ω ρ σ H x y dx dy r Q, Z.K = X.K → SR Z F ω ρ σ H → Vw Z.K F H x dx → Vw Z.K F H y dy → p dx dy = some r →
    (∀ v F' ω' H', Sub F F' → SR Z F' ω' ρ σ H' → VR Z F' ω' σ ρ.length H' r v → Q v H') → wOp X f x y H Q
def eBin (p : PyData → PyData → Option R) (ma mb : M R) : M R := fun ρ => (opd ma ρ).bind fun ra ρ1 => (opd mb ρ1).bind fun rb ρ2 =>
  match rv ρ2 ra, rv ρ2 rb with
  | some da, some db => match p da db with
    | some r => .ok r ρ2
    | none => .bad
  | _, _ => .bad
section
variable {X : Cx} {W : WX} {e a b : Expr} {es : List Expr} {m ma mb : M R} {pos : Pos} {p : PyData → PyData → Option R}
theorem bin_core {f : Value → Value → Sem Value} (ho : OpG X f p) (ha : PX X W a ma) (hb : PX X W b mb) :
    ∀ Z F ω ρ σ H Q, Z.K = X.K → SR Z F ω ρ σ H → Okk X W Z σ F (eBin p ma mb ρ) (fun r ρ' F' ω' H' => ∀ v, VR Z F' ω' σ ρ'.length H' r v → Q v H') → tOp (wOp X f) (wE X a) (wE X b) σ H Q := by
  intro Z F ω ρ σ H Q hK S ok
  refine ha.opd Z F ω ρ σ H _ hK S ((Okk.bind ok).imp fun ra ρ1 F1 ω1 H1 s1 S1 ok1 => ?_)
  intro x olda hx
  refine hb.opd Z F1 ω1 ρ1 σ H1 _ hK S1 ((Okk.bind ok1).imp fun rb ρ2 F2 ω2 H2 s2 S2 ok2 => ?_)
  intro y oldb hy
  have hx2 : VR Z F2 ω2 σ ρ2.length H2 ra x := by rw [S1.len' S2]; exact hx.mono s2 olda
  cases e1 : rv ρ2 ra with
  | none => simp only [e1] at ok2; exact ok2.elim
  | some da =>
    cases e2 : rv ρ2 rb with
    | none => simp only [e1, e2] at ok2; exact ok2.elim
    | some db =>
      simp only [e1, e2] at ok2
      cases e3 : p da db with
      | none => simp only [e3] at ok2; exact ok2.elim
      | some r =>
        simp only [e3] at ok2
        exact ho Z F2 ω2 ρ2 σ H2 x y da db r Q hK S2 (S2.view hx2 e1) (S2.view hy e2) e3 fun v F' ω' H' s' S' hv => ok2 F' ω' H' s' S' v hv
theorem px_bin {op : Operator} (ho : OpG X (binaryOp op) p) (ha : PX X W a ma) (hb : PX X W b mb) : PX X W (.BinOp a op b pos) (eBin p ma mb) := fun Z F ω ρ σ H Q hK S ok =>
  wE.of (pe_op OpR.wOp PE.wE PE.wE) (bin_core ho ha hb Z F ω ρ σ H Q hK S ok)
theorem px_cmp {op : CmpOp} (ho : OpG X (compareOp op) p) (ha : PX X W a ma) (hb : PX X W b mb) (hm : behindInMarks op b = false := by first | exact nomark _ | rfl) : PX X W (.Compare a [op] [b] pos) (eBin p ma mb) := fun Z F ω ρ σ H Q hK S ok =>
  wE.of (pe_cmpR OpR.wOp PE.wE PE.wE hm) (bin_core ho ha hb Z F ω ρ σ H Q hK S ok)

/-! ### arithmetic -/
def dInt (i : Int) : Option R := some (.dat (.int i))
def dBool (i : Bool) : Option R := some (.dat (.bool i))
def addP : PyData → PyData → Option R
  | .int i, .int j => dInt (i + j)
  | .str x, .str y => if x.length + y.length ≤ sizeLine then some (.dat (.str (x ++ y))) else none
  | .list xs, .list ys => if xs.length + ys.length ≤ sizeLine then some (.new (.lst (xs ++ ys))) else none
  | .tuple xs, .tuple ys => if xs.length + ys.length ≤ sizeLine then some (.dat (.tuple (xs ++ ys))) else none
  | _, _ => none
theorem op_addG : OpG X (binaryOp .Add) addP := by
  intro Z F ω ρ σ H x y dx dy r Q hK S hx hy hp k
  unfold addP at hp
  split at hp
  · cases hp
    refine ⟨_, op_add, _, _, hx.int, hy.int, k _ F ω H (Sub.refl F) S (.int _)⟩
  · split at hp
    · cases hp
      exact ⟨_, op_add_str, _, _, hx.str, hy.str, by assumption, k _ F ω H (Sub.refl F) S (.str _)⟩
    · cases hp
  · split at hp
    · cases hp
      rename_i hl
      obtain ⟨l1, v1, rfl, h1, r1⟩ := hx.list S.sub
      obtain ⟨l2, v2, rfl, h2, r2⟩ := hy.list S.sub
      refine ⟨_, op_cat, _, _, _, _, rfl, rfl, h1, h2, by rw [r1.length, r2.length]; exact hl, fun p hp => ?_⟩
      obtain ⟨ω', n1, n2⟩ := S.newLst hp (r1.append r2)
      exact k _ F ω' _ (Sub.refl F) n1 n2
    · cases hp
  · split at hp
    · cases hp
      rename_i hl
      obtain ⟨l1, v1, rfl, h1, r1, q1⟩ := hx.tuple S.sub
      obtain ⟨l2, v2, rfl, h2, r2, q2⟩ := hy.tuple S.sub
      refine ⟨_, op_catA, _, _, _, _, rfl, rfl, SqT.of h1, SqT.of h2, by rw [r1.length, r2.length]; exact hl, fun z => ?_, fun _ z => ?_, fun _ _ p hp => ?_⟩
      · subst z
        cases r1
        exact k _ F ω H (Sub.refl F) S q2
      · subst z
        cases r2
        rw [List.append_nil] at k
        exact k _ F ω H (Sub.refl F) S q1
      · obtain ⟨n1, n2, n3⟩ := S.newTup hp (r1.append r2)
        exact k _ _ ω _ n2 n1 n3
    · cases hp
  · cases hp
def subP : PyData → PyData → Option R
  | .int i, .int j => dInt (i - j)
  | _, _ => none
theorem op_subG : OpG X (binaryOp .Sub) subP := by
  intro Z F ω ρ σ H x y dx dy r Q hK S hx hy hp k
  unfold subP at hp
  split at hp
  · cases hp
    exact ⟨_, op_sub, _, _, hx.int, hy.int, k _ F ω H (Sub.refl F) S (.int _)⟩
  · cases hp
/-- sealed sizes: no test is ever run on them -/
def RngOk (j : Int) : Prop := -4611686018427387904 ≤ j ∧ j < 4611686018427387904
def MulOk (i j : Int) : Prop := (-18446744073709551616 < i ∧ i < 18446744073709551616) ∨ (-18446744073709551616 < j ∧ j < 18446744073709551616)
def RepOk (n : Nat) (k : Int) : Prop := -9223372036854775808 ≤ k ∧ k < 9223372036854775808 ∧ n * k.toNat ≤ sizeLine
def PowOk (i j : Int) : Prop := 0 ≤ j ∧ j ≤ 1000000 ∧ i.natAbs < 18446744073709551616
def DivOk (j : Int) : Prop := 0 < j ∧ j < 1073741824
noncomputable instance (j : Int) : Decidable (RngOk j) := Classical.propDecidable _
noncomputable instance (i j : Int) : Decidable (MulOk i j) := Classical.propDecidable _
noncomputable instance (n : Nat) (k : Int) : Decidable (RepOk n k) := Classical.propDecidable _
noncomputable instance (i j : Int) : Decidable (PowOk i j) := Classical.propDecidable _
noncomputable instance (j : Int) : Decidable (DivOk j) := Classical.propDecidable _
theorem RngOk.of {j : Int} (h : j.natAbs < 4611686018427387904) : RngOk j := by unfold RngOk; omega
theorem MulOk.l {i j : Int} (h : i.natAbs < 18446744073709551616) : MulOk i j := by unfold MulOk; omega
theorem MulOk.r {i j : Int} (h : j.natAbs < 18446744073709551616) : MulOk i j := by unfold MulOk; omega
theorem PowOk.of {i j : Int} (h0 : 0 ≤ j) (h1 : j ≤ 1000000) (h2 : i.natAbs < 18446744073709551616) : PowOk i j := ⟨h0, h1, h2⟩
theorem DivOk.of {j : Int} (h0 : 0 < j) (h1 : j < 1073741824) : DivOk j := ⟨h0, h1⟩
theorem RepOk.of {n : Nat} {k : Int} (h0 : k.natAbs < 9223372036854775808) (h1 : n * k.toNat ≤ sizeLine) : RepOk n k := ⟨by omega, by omega, h1⟩
noncomputable def mulP : PyData → PyData → Option R
  | .int i, .int j => if MulOk i j then dInt (i * j) else none
  | .list xs, .int k => if RepOk xs.length k then some (.new (.lst (List.replicate k.toNat xs).flatten)) else none
  | _, _ => none
theorem op_mulG : OpG X (binaryOp .Mult) mulP := by
  intro Z F ω ρ σ H x y dx dy r Q hK S hx hy hp k
  unfold mulP at hp
  split at hp
  · split at hp
    · cases hp
      rename_i hc
      exact ⟨_, op_mul, _, _, hx.int, hy.int, hc, k _ F ω H (Sub.refl F) S (.int _)⟩
    · cases hp
  · split at hp
    · cases hp
      rename_i hc
      obtain ⟨l1, v1, rfl, h1, r1⟩ := hx.list S.sub
      refine ⟨_, op_rep, _, _, _, rfl, hy.int, h1, hc.1, hc.2.1, by rw [r1.length]; exact hc.2.2, fun p hp => ?_⟩
      obtain ⟨ω', n1, n2⟩ := S.newLst hp (r1.rep _)
      exact k _ F ω' _ (Sub.refl F) n1 n2
    · cases hp
  · cases hp
def modP : PyData → PyData → Option R
  | .int i, .int j => if 0 < j then dInt (i % j) else none
  | _, _ => none
theorem op_modG : OpG X (binaryOp .Mod) modP := by
  intro Z F ω ρ σ H x y dx dy r Q hK S hx hy hp k
  unfold modP at hp
  split at hp
  · split at hp
    · cases hp
      exact ⟨_, op_mod, _, _, hx.int, hy.int, by assumption, k _ F ω H (Sub.refl F) S (.int _)⟩
    · cases hp
  · cases hp
noncomputable def fdivP : PyData → PyData → Option R
  | .int i, .int j => if DivOk j then dInt (i / j) else none
  | _, _ => none
theorem op_fdivG : OpG X (binaryOp .FloorDiv) fdivP := by
  intro Z F ω ρ σ H x y dx dy r Q hK S hx hy hp k
  unfold fdivP at hp
  split at hp
  · split at hp
    · cases hp
      exact ⟨_, op_fdiv, _, _, hx.int, hy.int, by assumption, k _ F ω H (Sub.refl F) S (.int _)⟩
    · cases hp
  · cases hp
noncomputable def powP : PyData → PyData → Option R
  | .int i, .int j => if PowOk i j then dInt (i ^ j.toNat) else none
  | _, _ => none
theorem op_powG : OpG X (binaryOp .Pow) powP := by
  intro Z F ω ρ σ H x y dx dy r Q hK S hx hy hp k
  unfold powP at hp
  split at hp
  · split at hp
    · cases hp
      exact ⟨_, op_pow, _, _, hx.int, hy.int, by assumption, k _ F ω H (Sub.refl F) S (.int _)⟩
    · cases hp
  · cases hp
def eNeg (m : M R) : M R := fun ρ => (opd m ρ).bind fun r ρ1 => match rv ρ1 r with
  | some (.int i) => .ok (.dat (.int (-i))) ρ1
  | _ => .bad
theorem px_neg (h : PX X W a ma) : PX X W (.UnaryOp .USub a pos) (eNeg ma) := by
  intro Z F ω ρ σ H Q hK S ok
  refine wE.of (pe_un un_neg PE.wE) ?_
  refine h.opd Z F ω ρ σ H _ hK S ((Okk.bind ok).imp fun r ρ1 F1 ω1 H1 s1 S1 ok1 => ?_)
  intro v old hv
  cases e1 : rv ρ1 r with
  | none => simp only [e1] at ok1; exact ok1.elim
  | some d =>
    cases d with
    | int i =>
      simp only [e1] at ok1
      exact ⟨i, (S1.view hv e1).int, Okk.here S1 ok1 _ (.int _)⟩
    | _ => simp only [e1] at ok1; exact ok1.elim

/-! ### comparisons -/
def intCmp (f : Int → Int → Bool) : PyData → PyData → Option R
  | .int i, .int j => dBool (f i j)
  | _, _ => none
theorem intCmpG {op : CmpOp} {f : Int → Int → Bool} (ho : OpR X (compareOp op) (rI0 fun i j => .bl (f i j))) : OpG X (compareOp op) (intCmp f) := by
  intro Z F ω ρ σ H x y dx dy r Q hK S hx hy hp k
  unfold intCmp at hp
  split at hp
  · cases hp
    exact ⟨_, ho, _, _, hx.int, hy.int, k _ F ω H (Sub.refl F) S (.bl _)⟩
  · cases hp
/-- a list of ints -/
def intsOf : List PyData → Option (List Int)
  | [] => some []
  | .int i :: ds => (intsOf ds).map (i :: ·)
  | _ :: _ => none
theorem intsOf_eq : ∀ {ds : List PyData} {ns : List Int}, intsOf ds = some ns → ds = ns.map PyData.int
  | [], _, h => by cases h; rfl
  | d :: ds, ns, h => by
    cases d with
    | int i =>
      simp only [intsOf] at h
      cases e : intsOf ds with
      | none => rw [e] at h; cases h
      | some ms => rw [e] at h; cases h; rw [intsOf_eq e]; rfl
    | _ => cases h
theorem intsOf_map (ns : List Int) : intsOf (ns.map PyData.int) = some ns := by
  induction ns with
  | nil => rfl
  | cons n ns ih => simp only [List.map_cons, intsOf, ih, Option.map_some]
def ltP : PyData → PyData → Option R
  | .int i, .int j => dBool (decide (i < j))
  | .tuple xs, .tuple ys => match intsOf xs, intsOf ys with
    | some ns, some ms => dBool (HT.lexLt ns ms)
    | _, _ => none
  | _, _ => none
theorem op_ltG (hu : X.A.units < cLine) : OpG X (compareOp .Lt) ltP := by
  intro Z F ω ρ σ H x y dx dy r Q hK S hx hy hp k
  unfold ltP at hp
  split at hp
  · cases hp
    exact ⟨_, op_lt, _, _, hx.int, hy.int, k _ F ω H (Sub.refl F) S (.bl _)⟩
  · split at hp
    · cases hp
      rename_i e1 e2
      rw [intsOf_eq e1] at hx
      rw [intsOf_eq e2] at hy
      obtain ⟨l1, v1, rfl, h1, r1, _⟩ := hx.tuple S.sub
      obtain ⟨l2, v2, rfl, h2, r2, _⟩ := hy.tuple S.sub
      rw [r1.ints_of] at h1
      rw [r2.ints_of] at h2
      exact ⟨_, op_ltT hu, _, _, _, _, rfl, rfl, SqT.of h1, SqT.of h2, k _ F ω H (Sub.refl F) S (.bl _)⟩
    · cases hp
  · cases hp
theorem op_leG : OpG X (compareOp .LtE) (intCmp fun i j => decide (i ≤ j)) := intCmpG op_le
theorem op_gtG : OpG X (compareOp .Gt) (intCmp fun i j => decide (j < i)) := intCmpG op_gt
theorem op_geG : OpG X (compareOp .GtE) (intCmp fun i j => decide (j ≤ i)) := intCmpG op_ge
def eqP (dx dy : PyData) : Option R := if SeqAt.shaped dx && SeqAt.shaped dy then dBool (PyData.eqv dx dy) else none
def neP (dx dy : PyData) : Option R := if SeqAt.shaped dx && SeqAt.shaped dy then dBool (!PyData.eqv dx dy) else none
theorem op_eqG (hu : X.A.units + 65 < cLine) : OpG X (compareOp .Eq) eqP := by
  intro Z F ω ρ σ H x y dx dy r Q hK S hx hy hp k
  unfold eqP at hp
  split at hp
  · cases hp
    rename_i hc
    obtain ⟨c1, c2⟩ := Bool.and_eq_true_iff.mp hc
    rw [hK] at hx hy
    exact ⟨_, op_eqD (by omega), _, _, hx.dp S.sub c1, hy.dp S.sub c2, c1, c2, k _ F ω H (Sub.refl F) S (.bl _)⟩
  · cases hp
theorem op_neG (hu : X.A.units + 65 < cLine) : OpG X (compareOp .NotEq) neP := by
  intro Z F ω ρ σ H x y dx dy r Q hK S hx hy hp k
  unfold neP at hp
  split at hp
  · cases hp
    rename_i hc
    obtain ⟨c1, c2⟩ := Bool.and_eq_true_iff.mp hc
    rw [hK] at hx hy
    exact ⟨_, op_neD (by omega), _, _, hx.dp S.sub c1, hy.dp S.sub c2, c1, c2, k _ F ω H (Sub.refl F) S (.bl _)⟩
  · cases hp
/-- x is None, x is not None -/
def isNoneD : PyData → Bool
  | .none => true
  | _ => false
def isP (neg : Bool) (dx dy : PyData) : Option R := match dy with
  | .none => dBool (if neg then !isNoneD dx else isNoneD dx)
  | _ => none
theorem Vw.isNone {K : PySem.W.Frag} {F H : Hp} {v : V} {d : PyData} (h : Vw K F H v d) : decide (v = .non) = isNoneD d := by
  rcases h with h | ⟨l, vs, xs', rfl, rfl, h, r⟩
  · cases h <;> rfl
  · rfl
theorem op_isG : OpG X (compareOp .Is) (isP false) := by
  intro Z F ω ρ σ H x y dx dy r Q hK S hx hy hp k
  unfold isP at hp
  split at hp
  · cases hp
    refine ⟨_, op_isN, hy.none, ?_⟩
    rw [hx.isNone]
    exact k _ F ω H (Sub.refl F) S (.bl _)
  · cases hp
theorem op_notisG : OpG X (compareOp .IsNot) (isP true) := by
  intro Z F ω ρ σ H x y dx dy r Q hK S hx hy hp k
  unfold isP at hp
  split at hp
  · cases hp
    refine ⟨_, op_notN, hy.none, ?_⟩
    rw [hx.isNone]
    exact k _ F ω H (Sub.refl F) S (.bl _)
  · cases hp
end
end PL
end

section
set_option maxRecDepth 100000
set_option maxHeartbeats 1000000
/-! PL, fifth part: built-in calls, subscripts, slices, in. -/
namespace PL
open PySem L2
/-! ### what a call sees -/
def rsl (ρ : PEnv) : R → Option Slot
  | .dat d => some (.dat d)
  | .slot i => ρ[i]?
  | .new _ => none
def rsls (ρ : PEnv) : List R → Option (List Slot)
  | [] => some []
  | r :: rs => match rsl ρ r, rsls ρ rs with
    | some s, some ss => some (s :: ss)
    | _, _ => none
/-- what is read of a slot's thing -/
def SV (K : PySem.W.Frag) (F H : Hp) (v : V) : Slot → Prop
  | .non => False
  | .dat d => Rp K F v d
  | .lst xs | .bor xs => ∃ l vs, v = .ref l ∧ H l = some (.lst vs) ∧ RpAll K F vs xs
  | .nst xs => ∃ l vs, v = .ref l ∧ H l = some (.lst vs) ∧ RpAll K F vs xs
  | .dK kvs | .borK kvs => ∃ l vs, v = .ref l ∧ H l = some (.dK ((kvs.map (·.1)).zip vs)) ∧ RpAll K F vs (kvs.map (·.2))
  | .dT kvs | .borT kvs => ∃ l vs, v = .ref l ∧ H l = some (.dT ((kvs.map (·.1)).zip vs)) ∧ RpAll K F vs (kvs.map (·.2))
  | .scr ns => ∃ l, v = .ref l ∧ SqL K H l (ns.map V.int)
def SVs (K : PySem.W.Frag) (F H : Hp) : List V → List Slot → Prop
  | [], [] => True
  | v :: vs, s :: ss => SV K F H v s ∧ SVs K F H vs ss
  | _, _ => False
section
variable {Z : Zone} {F F' H H' : Hp} {ω : Addr → Option Path} {ρ : PEnv} {σ : St} {v : V}
theorem SR.sv (S : SR Z F ω ρ σ H) {r : R} {sl : Slot} (h : VR Z F ω σ ρ.length H r v) (e : rsl ρ r = some sl) (n : sl ≠ .non) : SV Z.K F H v sl := by
  cases r with
  | dat d => cases e; exact h
  | new _ => cases e
  | slot i =>
    obtain ⟨hi, hv⟩ := h
    have e : ρ[i]? = some sl := e
    obtain ⟨v', h1, h2⟩ := S.slots i sl e n
    rw [hv] at h1; cases h1
    cases sl with
    | non => exact n rfl
    | dat d => exact h2
    | lst xs => obtain ⟨l, vs, e, _, _, h, r⟩ := h2; exact ⟨l, vs, e, h, r⟩
    | nst xs => obtain ⟨l, b, vs, e, _, _, h, r, _, _⟩ := h2; exact ⟨l, _, e, h, r⟩
    | dK xs => obtain ⟨l, vs, e, _, _, h, r⟩ := h2; exact ⟨l, vs, e, h, r⟩
    | dT xs => obtain ⟨l, vs, e, _, _, h, r⟩ := h2; exact ⟨l, vs, e, h, r⟩
    | bor xs => obtain ⟨l, vs, e, h, b, r⟩ := h2; exact ⟨l, vs, e, S.keep _ _ h b, r⟩
    | borK xs => obtain ⟨l, vs, e, h, b, r⟩ := h2; exact ⟨l, vs, e, S.keep _ _ h b, r⟩
    | borT xs => obtain ⟨l, vs, e, h, b, r⟩ := h2; exact ⟨l, vs, e, S.keep _ _ h b, r⟩
    | scr ns =>
      obtain ⟨l, e, h, b⟩ := h2
      refine ⟨l, e, ?_⟩
      rcases h with (h | ⟨o, h⟩) | h
      · exact .inl (.inl (S.keep _ _ h b))
      · exact .inl (.inr ⟨o, S.keep _ _ h b⟩)
      · exact .inr h
def noNon : List Slot → Bool
  | [] => true
  | .non :: _ => false
  | _ :: ss => noNon ss
theorem noNon_cons {s : Slot} {ss : List Slot} (h : noNon (s :: ss) = true) : s ≠ .non ∧ noNon ss = true := by
  cases s <;> first | exact ⟨by simp, h⟩ | cases h
theorem SR.svs (S : SR Z F ω ρ σ H) : ∀ {rs : List R} {ss : List Slot} {vs : List V}, VRs Z F ω σ ρ.length H rs vs → rsls ρ rs = some ss → noNon ss = true → SVs Z.K F H vs ss
  | [], _, _, h, e, _ => by cases e; cases h; trivial
  | r :: rs, ss, vs, h, e, n => by
    obtain ⟨v, vs', rfl, _, hv, ht⟩ := h
    unfold rsls at e
    cases h1 : rsl ρ r with
    | none => rw [h1] at e; cases e
    | some s =>
      rw [h1] at e
      cases h2 : rsls ρ rs with
      | none => rw [h2] at e; cases e
      | some ss' =>
        rw [h2] at e
        cases e
        obtain ⟨n1, n2⟩ := noNon_cons n
        exact ⟨S.sv hv h1 n1, S.svs ht h2 n2⟩
theorem SVs.one {K : PySem.W.Frag} {vs : List V} {s : Slot} (h : SVs K F H vs [s]) : ∃ v, vs = [v] ∧ SV K F H v s := by
  cases vs with
  | nil => exact h.elim
  | cons v vs =>
    cases vs with
    | nil => exact ⟨v, rfl, h.1⟩
    | cons _ _ => exact h.2.elim
theorem SVs.two {K : PySem.W.Frag} {vs : List V} {s t : Slot} (h : SVs K F H vs [s, t]) : ∃ v w, vs = [v, w] ∧ SV K F H v s ∧ SV K F H w t := by
  cases vs with
  | nil => exact h.elim
  | cons v vs =>
    obtain ⟨w, rfl, h2⟩ := SVs.one h.2
    exact ⟨v, w, rfl, h.1, h2⟩
theorem SV.view {K : PySem.W.Frag} {s : Slot} {d : PyData} (h : SV K F H v s) (e : rdS s = some d) : Vw K F H v d := by
  cases s with
  | dat d' => cases e; exact .inl h
  | lst xs => obtain ⟨l, vs, e1, h, r⟩ := h; cases e; exact .inr ⟨l, vs, _, e1, rfl, h, r⟩
  | bor xs => obtain ⟨l, vs, e1, h, r⟩ := h; cases e; exact .inr ⟨l, vs, _, e1, rfl, h, r⟩
  | nst xs => obtain ⟨l, vs, e1, h, r⟩ := h; cases e; exact .inr ⟨l, vs, _, e1, rfl, h, r⟩
  | _ => cases e
end
/-- a built-in's answer from what it sees -/
def CallG (X : Cx) (f : Value) (p : List Slot → Option R) : Prop :=
  ∀ Z F ω ρ σ H vs ss r Q, Z.K = X.K → SR Z F ω ρ σ H → SVs Z.K F H vs ss → p ss = some r →
    (∀ v F' ω' H', Sub F F' → SR Z F' ω' ρ σ H' → VR Z F' ω' σ ρ.length H' r v → Q v H') → wCa X f vs H Q
def eCall (p : List Slot → Option R) (ms : M (List R)) : M R := fun ρ => (ms ρ).bind fun rs ρ' => match rsls ρ' rs with
  | some ss => if noNon ss then (match p ss with
    | some r => .ok r ρ'
    | none => .bad) else .bad
  | none => .bad
section
variable {X : Cx} {W : WX} {e a b : Expr} {es : List Expr} {m ma mb : M R} {ms : M (List R)} {pos pp : Pos} {p : List Slot → Option R}
theorem call_core {f : Value} (ho : CallG X f p) (ha : PXA X W es ms) :
    ∀ Z F ω ρ σ H Q, Z.K = X.K → SR Z F ω ρ σ H → Okk X W Z σ F (eCall p ms ρ) (fun r ρ' F' ω' H' => ∀ v, VR Z F' ω' σ ρ'.length H' r v → Q v H') → tCB (wCa X f) (wA X es) σ H Q := by
  intro Z F ω ρ σ H Q hK S ok
  refine ha Z F ω ρ σ H _ hK S ((Okk.bind ok).imp fun rs ρ1 F1 ω1 H1 s1 S1 ok1 => ?_)
  intro vs hvs
  cases h1 : rsls ρ1 rs with
  | none => simp only [h1] at ok1; exact ok1.elim
  | some ss =>
    simp only [h1] at ok1
    split at ok1
    · rename_i hn
      cases h2 : p ss with
      | none => simp only [h2] at ok1; exact ok1.elim
      | some r =>
        simp only [h2] at ok1
        exact ho Z F1 ω1 ρ1 σ H1 vs ss r Q hK S1 (S1.svs hvs h1 hn) h2 fun v F' ω' H' s' S' hv => ok1 F' ω' H' s' S' v hv
    · exact ok1.elim
theorem px_callB {x : Str} {id : String} (hc : CallG X (.builtin id) p) (hm : X.mg x = none) (hv : bootBuiltins x = some (.builtin id)) (ha : PXA X W (e :: es) ms) (hg : Gl X x := by rfl) (hn : x ≠ "__name__" := by decide) (hdb : (x == ("__debug__" : Str)) = false := by decide)
    (he : starEach (e :: es) X.env = (false, eval e X.env) :: starEach es X.env := by rfl) (hpl : (backTo pos (starEach es X.env)).any (·.1) = false := by rfl) : PX X W (.Call (.Name x pp) (e :: es) [] pos) (eCall p ms) := fun Z F ω ρ σ H Q hK S ok =>
  wE.of (pe_callB CallR.wCa hg hm hv PA.wA hn hdb he hpl) (call_core hc ha Z F ω ρ σ H Q hK S ok)
theorem px_callTy {x : Str} {T : String} (hc : CallG X (.type T) p) (hm : X.mg x = none) (hv : bootBuiltins x = some (.type T)) (ha : PXA X W (e :: es) ms) (hg : Gl X x := by rfl) (hn : x ≠ "__name__" := by decide) (hdb : (x == ("__debug__" : Str)) = false := by decide)
    (he : starEach (e :: es) X.env = (false, eval e X.env) :: starEach es X.env := by rfl) (hpl : (backTo pos (starEach es X.env)).any (·.1) = false := by rfl) : PX X W (.Call (.Name x pp) (e :: es) [] pos) (eCall p ms) := fun Z F ω ρ σ H Q hK S ok =>
  wE.of (pe_callTy CallR.wCa hg hm hv PA.wA hn hdb he hpl) (call_core hc ha Z F ω ρ σ H Q hK S ok)

/-! ### len, list, tuple, int, str, abs, min, max, sum, any, all, sorted -/
def seqS : Slot → Option (List PyData)
  | .dat (.list xs) => some xs
  | .lst xs => some xs
  | .bor xs => some xs
  | .nst xs => some xs
  | _ => none
theorem SV.seq {K : PySem.W.Frag} {F H : Hp} {v : V} {s : Slot} {xs : List PyData} (S : Sub F H) (h : SV K F H v s) (e : seqS s = some xs) : ∃ l vs, v = .ref l ∧ H l = some (.lst vs) ∧ RpAll K F vs xs := by
  cases s with
  | dat d =>
    cases d with
    | list ys => cases e; cases h with
      | lst e r => exact ⟨_, _, rfl, S _ _ e, r⟩
    | _ => cases e
  | lst ys => cases e; exact h
  | bor ys => cases e; exact h
  | nst ys => cases e; exact h
  | _ => cases e
def lenP : List Slot → Option R
  | [s] => match s with
    | .dat (.list xs) => dInt xs.length
    | .lst xs => dInt xs.length
    | .bor xs => dInt xs.length
    | .dat (.tuple xs) => dInt xs.length
    | .dat (.str x) => if x.length ≤ sizeLine then dInt x.length else none
    | .dT kvs => dInt kvs.length
    | .scr ns => dInt ns.length
    | _ => none
  | _ => none
theorem lenG : CallG X (.builtin "len") lenP := by
  intro Z F ω ρ σ H vs ss r Q hK S hv hp k
  have dat : ∀ i : Int, R.dat (.int i) = r → Q (.int i) H := fun i e => by subst e; exact k _ F ω H (Sub.refl F) S (.int _)
  have lst : ∀ (s : Slot) (xs : List PyData), ss = [s] → seqS s = some xs → dInt xs.length = some r → wCa X (.builtin "len") vs H Q := fun s xs e1 e2 e3 => by
    subst e1
    obtain ⟨v, rfl, h⟩ := hv.one
    obtain ⟨l, us, rfl, hl, hr⟩ := h.seq S.sub e2
    refine ⟨_, call_len_seq, l, us, rfl, .inl (SqL.of hl), ?_⟩
    rw [hr.length]
    exact dat _ (Option.some.inj e3)
  unfold lenP at hp
  split at hp
  · split at hp
    · exact lst _ _ rfl rfl hp
    · exact lst _ _ rfl rfl hp
    · exact lst _ _ rfl rfl hp
    · obtain ⟨v, rfl, h⟩ := hv.one
      obtain ⟨l, us, rfl, hl, hr, _⟩ := (show Vw Z.K F H v (.tuple _) from .inl h).tuple S.sub
      refine ⟨_, call_len_seq, l, us, rfl, .inr (SqT.of hl), ?_⟩
      rw [hr.length]
      exact dat _ (Option.some.inj hp)
    · split at hp
      · obtain ⟨v, rfl, h⟩ := hv.one
        cases h
        exact ⟨_, call_len_str, _, rfl, by assumption, dat _ (Option.some.inj hp)⟩
      · cases hp
    · rename_i kvs
      obtain ⟨v, rfl, h⟩ := hv.one
      obtain ⟨l, us, rfl, hl, hr⟩ := h
      refine ⟨_, call_len_dT, l, _, rfl, hl, ?_⟩
      have hz : ((kvs.map (·.1)).zip us).length = kvs.length := by rw [List.length_zip, hr.length]; simp
      rw [hz]
      exact dat _ (Option.some.inj hp)
    · obtain ⟨v, rfl, h⟩ := hv.one
      obtain ⟨l, rfl, hl⟩ := h
      rw [hK] at hl
      refine ⟨_, call_len_seq, l, _, rfl, .inl hl, ?_⟩
      rw [List.length_map]
      exact dat _ (Option.some.inj hp)
    · cases hp
  · cases hp

/-- list(x) -/
def listP : List Slot → Option R
  | [s] => match s with
    | .dat (.tuple xs) => some (.new (.lst xs))
    | .scr ns => some (.new (.lst (ns.map .int)))
    | s => (seqS s).map fun xs => .new (.lst xs)
  | _ => none
theorem listG : CallG X (.type "list") listP := by
  intro Z F ω ρ σ H vs ss r Q hK S hv hp k
  unfold listP at hp
  split at hp
  · rename_i s
    split at hp
    · cases hp
      obtain ⟨v, rfl, h⟩ := hv.one
      obtain ⟨l, us, rfl, hl, hr, _⟩ := (show Vw Z.K F H v (.tuple _) from .inl h).tuple S.sub
      refine ⟨_, call_list_of, l, us, rfl, .inr (SqT.of hl), fun p hp => ?_⟩
      obtain ⟨ω', n1, n2⟩ := S.newLst hp hr
      exact k _ F ω' _ (Sub.refl F) n1 n2
    · cases hp
      obtain ⟨v, rfl, h⟩ := hv.one
      obtain ⟨l, rfl, hl⟩ := h
      rw [hK] at hl
      refine ⟨_, call_list_of, l, _, rfl, .inl hl, fun p hp => ?_⟩
      obtain ⟨ω', n1, n2⟩ := S.newLst hp (RpAll.ints _)
      exact k _ F ω' _ (Sub.refl F) n1 n2
    · cases e : seqS s with
      | none => rw [e] at hp; cases hp
      | some xs =>
        rw [e] at hp
        cases hp
        obtain ⟨v, rfl, h⟩ := hv.one
        obtain ⟨l, us, rfl, hl, hr⟩ := h.seq S.sub e
        refine ⟨_, call_list_of, l, us, rfl, .inl (SqL.of hl), fun p hp => ?_⟩
        obtain ⟨ω', n1, n2⟩ := S.newLst hp hr
        exact k _ F ω' _ (Sub.refl F) n1 n2
  · cases hp
/-- tuple(x) -/
def tupleP : List Slot → Option R
  | [s] => match s with
    | .dat (.tuple xs) => some (.dat (.tuple xs))
    | s => (seqS s).map fun xs => .dat (.tuple xs)
  | _ => none
theorem tupleG : CallG X (.type "tuple") tupleP := by
  intro Z F ω ρ σ H vs ss r Q hK S hv hp k
  unfold tupleP at hp
  split at hp
  · rename_i s
    split at hp
    · cases hp
      obtain ⟨v, rfl, h⟩ := hv.one
      obtain ⟨l, us, rfl, hl, hr, _⟩ := (show Vw Z.K F H v (.tuple _) from .inl h).tuple S.sub
      exact ⟨_, call_tuple_of, l, us, rfl, .inr ⟨SqT.of hl, k _ F ω H (Sub.refl F) S h⟩⟩
    · cases e : seqS s with
      | none => rw [e] at hp; cases hp
      | some xs =>
        rw [e] at hp
        cases hp
        obtain ⟨v, rfl, h⟩ := hv.one
        obtain ⟨l, us, rfl, hl, hr⟩ := h.seq S.sub e
        refine ⟨_, call_tuple_of, l, us, rfl, .inl ⟨SqL.of hl, fun p hp => ?_⟩⟩
        obtain ⟨n1, n2, n3⟩ := S.newTup hp hr
        exact k _ _ ω _ n2 n1 n3
  · cases hp
/-- int(x) -/
def intP : List Slot → Option R
  | [.dat (.int i)] => dInt i
  | [.dat (.str x)] => match PySem.intText? x with
    | some n => if x.length ≤ 640 then dInt n else none
    | none => none
  | _ => none
theorem intG : CallG X (.type "int") intP := by
  intro Z F ω ρ σ H vs ss r Q hK S hv hp k
  unfold intP at hp
  split at hp
  · cases hp
    obtain ⟨v, rfl, h⟩ := hv.one
    cases h
    exact ⟨_, call_int1, .inl ⟨_, rfl, k _ F ω H (Sub.refl F) S (.int _)⟩⟩
  · split at hp
    · split at hp
      · cases hp
        obtain ⟨v, rfl, h⟩ := hv.one
        cases h
        exact ⟨_, call_int_str, _, _, rfl, by assumption, by assumption, k _ F ω H (Sub.refl F) S (.int _)⟩
      · cases hp
    · cases hp
  · cases hp
def strP : List Slot → Option R
  | [.dat (.int i)] => if i.natAbs.log2 < 1920 then some (.dat (.str (toString i))) else none
  | _ => none
theorem strG : CallG X (.type "str") strP := by
  intro Z F ω ρ σ H vs ss r Q hK S hv hp k
  unfold strP at hp
  split at hp
  · split at hp
    · cases hp
      obtain ⟨v, rfl, h⟩ := hv.one
      cases h
      exact ⟨_, call_str_int, _, rfl, by assumption, k _ F ω H (Sub.refl F) S (.str _)⟩
    · cases hp
  · cases hp
def absP : List Slot → Option R
  | [.dat (.int i)] => dInt (if i < 0 then -i else i)
  | _ => none
theorem absG : CallG X (.builtin "abs") absP := by
  intro Z F ω ρ σ H vs ss r Q hK S hv hp k
  unfold absP at hp
  split at hp
  · cases hp
    obtain ⟨v, rfl, h⟩ := hv.one
    cases h
    exact ⟨_, call_abs, _, rfl, k _ F ω H (Sub.refl F) S (.int _)⟩
  · cases hp
/-- the greatest of a list -/
def maxOf : Int → List Int → Int
  | a, [] => a
  | a, b :: l => maxOf (if b > a then b else a) l
def minOf : Int → List Int → Int
  | a, [] => a
  | a, b :: l => minOf (if b < a then b else a) l
theorem maxOf_ge : ∀ (l : List Int) (a : Int), a ≤ maxOf a l ∧ (∀ y ∈ l, y ≤ maxOf a l) ∧ (maxOf a l = a ∨ maxOf a l ∈ l)
  | [], a => ⟨Int.le_refl _, (by intro _ h; cases h), .inl rfl⟩
  | b :: l, a => by
    obtain ⟨h1, h2, h3⟩ := maxOf_ge l (if b > a then b else a)
    have e : maxOf a (b :: l) = maxOf (if b > a then b else a) l := rfl
    rw [e]
    refine ⟨?_, fun y hy => ?_, ?_⟩
    · split at h1 <;> rename_i c <;> simp only [c, if_true, if_false] <;> omega
    · rcases List.mem_cons.mp hy with rfl | hy
      · split at h1 <;> rename_i c <;> simp only [c, if_true, if_false] <;> omega
      · exact h2 y hy
    · rcases h3 with h3 | h3
      · by_cases c : b > a
        · rw [if_pos c] at h3 ⊢; exact .inr (by rw [h3]; exact List.mem_cons_self)
        · rw [if_neg c] at h3 ⊢; exact .inl h3
      · exact .inr (List.mem_cons_of_mem _ h3)
theorem minOf_le : ∀ (l : List Int) (a : Int), minOf a l ≤ a ∧ (∀ y ∈ l, minOf a l ≤ y) ∧ (minOf a l = a ∨ minOf a l ∈ l)
  | [], a => ⟨Int.le_refl _, (by intro _ h; cases h), .inl rfl⟩
  | b :: l, a => by
    obtain ⟨h1, h2, h3⟩ := minOf_le l (if b < a then b else a)
    have e : minOf a (b :: l) = minOf (if b < a then b else a) l := rfl
    rw [e]
    refine ⟨?_, fun y hy => ?_, ?_⟩
    · split at h1 <;> rename_i c <;> simp only [c, if_true, if_false] <;> omega
    · rcases List.mem_cons.mp hy with rfl | hy
      · split at h1 <;> rename_i c <;> simp only [c, if_true, if_false] <;> omega
      · exact h2 y hy
    · rcases h3 with h3 | h3
      · by_cases c : b < a
        · rw [if_pos c] at h3 ⊢; exact .inr (by rw [h3]; exact List.mem_cons_self)
        · rw [if_neg c] at h3 ⊢; exact .inl h3
      · exact .inr (List.mem_cons_of_mem _ h3)
def intsS (s : Slot) : Option (List Int) := (seqS s).bind intsOf
theorem SV.ints {K : PySem.W.Frag} {F H : Hp} {v : V} {s : Slot} {ns : List Int} (S : Sub F H) (h : SV K F H v s) (e : intsS s = some ns) : ∃ l, v = .ref l ∧ H l = some (.lst (ns.map V.int)) := by
  unfold intsS at e
  cases e1 : seqS s with
  | none => rw [e1] at e; cases e
  | some xs =>
    rw [e1] at e
    obtain ⟨l, vs, rfl, hl, hr⟩ := h.seq S e1
    rw [intsOf_eq e] at hr
    exact ⟨l, rfl, by rw [hl, hr.ints_of]⟩
def maxP : List Slot → Option R
  | [.dat (.int i), .dat (.int j)] => dInt (if j > i then j else i)
  | [s] => match intsS s with
    | some (n :: ns) => dInt (maxOf n ns)
    | _ => none
  | _ => none
theorem maxG (hc : X.calm = true) : CallG X (.builtin "max") maxP := by
  intro Z F ω ρ σ H vs ss r Q hK S hv hp k
  unfold maxP at hp
  split at hp
  · cases hp
    obtain ⟨v, w, rfl, h, h'⟩ := hv.two
    cases h
    cases h'
    exact ⟨_, call_max2 hc, _, _, rfl, k _ F ω H (Sub.refl F) S (.int _)⟩
  · split at hp
    · cases hp
      rename_i n ns e
      obtain ⟨v, rfl, h⟩ := hv.one
      obtain ⟨l, rfl, hl⟩ := h.ints S.sub e
      refine ⟨_, cr_max hc, l, n :: ns, rfl, SqL.of hl, by simp, fun m hm hg => ?_⟩
      obtain ⟨h1, h2, h3⟩ := maxOf_ge ns n
      have e : m = maxOf n ns := by
        have a1 : m ≤ maxOf n ns := by
          rcases List.mem_cons.mp hm with rfl | hm
          · exact h1
          · exact h2 m hm
        have a2 : maxOf n ns ≤ m := by
          rcases h3 with h3 | h3
          · rw [h3]; exact hg n List.mem_cons_self
          · exact hg _ (List.mem_cons_of_mem _ h3)
        omega
      rw [e]
      exact k _ F ω H (Sub.refl F) S (.int _)
    · cases hp
  · cases hp
def minP : List Slot → Option R
  | [.dat (.int i), .dat (.int j)] => dInt (if j < i then j else i)
  | [s] => match intsS s with
    | some (n :: ns) => dInt (minOf n ns)
    | _ => none
  | _ => none
theorem minG (hc : X.calm = true) : CallG X (.builtin "min") minP := by
  intro Z F ω ρ σ H vs ss r Q hK S hv hp k
  unfold minP at hp
  split at hp
  · cases hp
    obtain ⟨v, w, rfl, h, h'⟩ := hv.two
    cases h
    cases h'
    exact ⟨_, call_min2 hc, _, _, rfl, k _ F ω H (Sub.refl F) S (.int _)⟩
  · split at hp
    · cases hp
      rename_i n ns e
      obtain ⟨v, rfl, h⟩ := hv.one
      obtain ⟨l, rfl, hl⟩ := h.ints S.sub e
      refine ⟨_, cr_min hc, l, n :: ns, rfl, SqL.of hl, by simp, fun m hm hg => ?_⟩
      obtain ⟨h1, h2, h3⟩ := minOf_le ns n
      have e : m = minOf n ns := by
        have a1 : minOf n ns ≤ m := by
          rcases List.mem_cons.mp hm with rfl | hm
          · exact h1
          · exact h2 m hm
        have a2 : m ≤ minOf n ns := by
          rcases h3 with h3 | h3
          · rw [h3]; exact hg n List.mem_cons_self
          · exact hg _ (List.mem_cons_of_mem _ h3)
        omega
      rw [e]
      exact k _ F ω H (Sub.refl F) S (.int _)
    · cases hp
  · cases hp
def sumP : List Slot → Option R
  | [s] => match intsS s with
    | some ns => dInt ns.sum
    | _ => none
  | _ => none
theorem sumG (hc : X.calm = true) : CallG X (.builtin "sum") sumP := by
  intro Z F ω ρ σ H vs ss r Q hK S hv hp k
  unfold sumP at hp
  split at hp
  · split at hp
    · cases hp
      rename_i e
      obtain ⟨v, rfl, h⟩ := hv.one
      obtain ⟨l, rfl, hl⟩ := h.ints S.sub e
      exact ⟨_, cr_sum hc, l, _, rfl, SqL.of hl, k _ F ω H (Sub.refl F) S (.int _)⟩
    · cases hp
  · cases hp
def boolsOf : List PyData → Option (List Bool)
  | [] => some []
  | .bool i :: ds => (boolsOf ds).map (i :: ·)
  | _ :: _ => none
theorem boolsOf_eq : ∀ {ds : List PyData} {ns : List Bool}, boolsOf ds = some ns → ds = ns.map PyData.bool
  | [], _, h => by cases h; rfl
  | d :: ds, ns, h => by
    cases d with
    | bool i =>
      simp only [boolsOf] at h
      cases e : boolsOf ds with
      | none => rw [e] at h; cases h
      | some ms => rw [e] at h; cases h; rw [boolsOf_eq e]; rfl
    | _ => cases h
theorem boolsOf_map (ns : List Bool) : boolsOf (ns.map PyData.bool) = some ns := by
  induction ns with
  | nil => rfl
  | cons n ns ih => simp only [List.map_cons, boolsOf, ih, Option.map_some]
def boolsS (s : Slot) : Option (List Bool) := (seqS s).bind boolsOf
theorem SV.bools {K : PySem.W.Frag} {F H : Hp} {v : V} {s : Slot} {ns : List Bool} (S : Sub F H) (h : SV K F H v s) (e : boolsS s = some ns) : ∃ l, v = .ref l ∧ H l = some (.lst (ns.map V.bl)) := by
  unfold boolsS at e
  cases e1 : seqS s with
  | none => rw [e1] at e; cases e
  | some xs =>
    rw [e1] at e
    obtain ⟨l, vs, rfl, hl, hr⟩ := h.seq S e1
    rw [boolsOf_eq e] at hr
    exact ⟨l, rfl, by rw [hl, hr.bls_of]⟩
def anyP : List Slot → Option R
  | [s] => match boolsS s with
    | some ns => dBool (ns.any id)
    | _ => none
  | _ => none
theorem anyG (hc : X.calm = true) : CallG X (.builtin "any") anyP := by
  intro Z F ω ρ σ H vs ss r Q hK S hv hp k
  unfold anyP at hp
  split at hp
  · split at hp
    · cases hp
      rename_i e
      obtain ⟨v, rfl, h⟩ := hv.one
      obtain ⟨l, rfl, hl⟩ := h.bools S.sub e
      exact ⟨_, cr_any hc, l, _, rfl, SqL.of hl, k _ F ω H (Sub.refl F) S (.bl _)⟩
    · cases hp
  · cases hp
def allP : List Slot → Option R
  | [s] => match boolsS s with
    | some ns => dBool (ns.all id)
    | _ => none
  | _ => none
theorem allG (hc : X.calm = true) : CallG X (.builtin "all") allP := by
  intro Z F ω ρ σ H vs ss r Q hK S hv hp k
  unfold allP at hp
  split at hp
  · split at hp
    · cases hp
      rename_i e
      obtain ⟨v, rfl, h⟩ := hv.one
      obtain ⟨l, rfl, hl⟩ := h.bools S.sub e
      exact ⟨_, cr_all hc, l, _, rfl, SqL.of hl, k _ F ω H (Sub.refl F) S (.bl _)⟩
    · cases hp
  · cases hp
/-- insertion into an ascending list; the sorted list -/
def insI (a : Int) : List Int → List Int
  | [] => [a]
  | b :: l => if a ≤ b then a :: b :: l else b :: insI a l
def sortI : List Int → List Int
  | [] => []
  | a :: l => insI a (sortI l)
theorem insI_perm (a : Int) : ∀ l, (insI a l).Perm (a :: l)
  | [] => .refl _
  | b :: l => by
    unfold insI
    split
    · exact .refl _
    · exact ((insI_perm a l).cons b).trans (.swap a b l)
theorem sortI_perm : ∀ l, (sortI l).Perm l
  | [] => .refl _
  | a :: l => (insI_perm a _).trans ((sortI_perm l).cons a)
theorem insI_sorted (a : Int) : ∀ l : List Int, l.Pairwise (· ≤ ·) → (insI a l).Pairwise (· ≤ ·)
  | [], _ => List.pairwise_singleton _ _
  | b :: l, h => by
    obtain ⟨h1, h2⟩ := List.pairwise_cons.mp h
    unfold insI
    split
    · rename_i c
      refine List.pairwise_cons.mpr ⟨fun y hy => ?_, h⟩
      rcases List.mem_cons.mp hy with rfl | hy
      · exact c
      · exact Int.le_trans c (h1 y hy)
    · rename_i c
      refine List.pairwise_cons.mpr ⟨fun y hy => ?_, insI_sorted a l h2⟩
      rcases List.mem_cons.mp ((insI_perm a l).mem_iff.mp hy) with rfl | hy
      · omega
      · exact h1 y hy
theorem sortI_sorted : ∀ l : List Int, (sortI l).Pairwise (· ≤ ·)
  | [] => .nil
  | a :: l => insI_sorted a _ (sortI_sorted l)
theorem sorted_unique : ∀ {l m : List Int}, l.Perm m → l.Pairwise (· ≤ ·) → m.Pairwise (· ≤ ·) → l = m
  | [], m, p, _, _ => p.nil_eq
  | a :: l, [], p, _, _ => absurd p.length_eq (by simp)
  | a :: l, b :: m, p, hl, hm => by
    obtain ⟨h1, h2⟩ := List.pairwise_cons.mp hl
    obtain ⟨h3, h4⟩ := List.pairwise_cons.mp hm
    have e : a = b := by
      have m1 : a ∈ b :: m := p.mem_iff.mp List.mem_cons_self
      have m2 : b ∈ a :: l := p.mem_iff.mpr List.mem_cons_self
      have l1 : b ≤ a := by
        rcases List.mem_cons.mp m1 with e | h
        · omega
        · exact h3 a h
      have l2 : a ≤ b := by
        rcases List.mem_cons.mp m2 with e | h
        · omega
        · exact h1 b h
      omega
    subst e
    rw [sorted_unique (List.Perm.cons_inv p) h2 h4]
/-- sorted(list or tuple of ints) -/
def sortedP : List Slot → Option R
  | [s] => match intsS s with
    | some ns => some (.new (.lst ((sortI ns).map .int)))
    | _ => none
  | _ => none
theorem sortedG : CallG X (.builtin "sorted") sortedP := by
  intro Z F ω ρ σ H vs ss r Q hK S hv hp k
  unfold sortedP at hp
  split at hp
  · split at hp
    · cases hp
      rename_i ns e
      obtain ⟨v, rfl, h⟩ := hv.one
      obtain ⟨l, rfl, hl⟩ := h.ints S.sub e
      refine ⟨_, cr_sortedI, l, ns, rfl, SqL.of hl, fun ns' p hp1 hp2 hp3 => ?_⟩
      have e : ns' = sortI ns := sorted_unique (hp1.trans (sortI_perm ns).symm) hp2 (sortI_sorted ns)
      subst e
      obtain ⟨ω', n1, n2⟩ := S.newLst hp3 (RpAll.ints _)
      exact k _ F ω' _ (Sub.refl F) n1 n2
    · cases hp
  · cases hp
end
end PL
end

section
set_option maxRecDepth 100000
set_option maxHeartbeats 1000000
/-! PL, sixth part: subscripts, slices, in, tests. -/
namespace PL
open PySem L2
section
variable {X : Cx} {W : WX} {e a b c : Expr} {es : List Expr} {m ma mb mc : M R} {ms : M (List R)} {pos pp : Pos} {p : List Slot → Option R}
/-- o[i] over sequences -/
def ixP (o : Slot) (i : PyData) : Option PyData := match o, i with
  | .dat (.tuple xs), .int k => atI xs k
  | .dat (.str x), .int k => if x.length ≤ sizeLine then (atI x.cps.toList k).map fun c => .str ⟨#[c]⟩ else none
  | .scr ns, .int k => (atI ns k).map .int
  | s, .int k => (seqS s).bind fun xs => atI xs k
  | _, _ => none
def eIxS (ma mb : M R) : M R := fun ρ => (opd ma ρ).bind fun ra ρ1 => (opd mb ρ1).bind fun rb ρ2 =>
  match rsl ρ2 ra, rv ρ2 rb with
  | some .non, _ => .bad
  | some sa, some db => match ixP sa db with
    | some d => .ok (.dat d) ρ2
    | none => .bad
  | _, _ => .bad
theorem atI_rp {K : PySem.W.Frag} {F : Hp} {vs : List V} {ds : List PyData} {k : Int} {d : PyData} (r : RpAll K F vs ds) (h : atI ds k = some d) : ∃ v, atI vs k = some v ∧ Rp K F v d := by
  unfold atI at h ⊢
  rw [r.length]
  cases e : ixN ds.length k with
  | none => rw [e] at h; cases h
  | some j =>
    rw [e] at h
    exact r.get h
theorem px_ixS (ha : PX X W a ma) (hb : PX X W b mb) (hs : PlainIx b := by exact fun _ _ => rfl) : PX X W (.Subscript a b pos) (eIxS ma mb) := by
  intro Z F ω ρ σ H Q hK S ok
  refine wE.of (pe_ix IxR.wIx PE.wE PE.wE hs) ?_
  refine ha.opd Z F ω ρ σ H _ hK S ((Okk.bind ok).imp fun ra ρ1 F1 ω1 H1 s1 S1 ok1 => ?_)
  intro x olda hx
  refine hb.opd Z F1 ω1 ρ1 σ H1 _ hK S1 ((Okk.bind ok1).imp fun rb ρ2 F2 ω2 H2 s2 S2 ok2 => ?_)
  intro y oldb hy
  have hx2 : VR Z F2 ω2 σ ρ2.length H2 ra x := by rw [S1.len' S2]; exact hx.mono s2 olda
  cases e1 : rsl ρ2 ra with
  | none => simp only [e1] at ok2; exact ok2.elim
  | some sa =>
    have nn : sa ≠ .non := by intro z; subst z; simp only [e1] at ok2; exact ok2.elim
    have hsv := S2.sv hx2 e1 nn
    cases e2 : rv ρ2 rb with
    | none =>
      cases sa <;> first | exact absurd rfl nn | (simp only [e1, e2] at ok2; exact ok2.elim)
    | some db =>
      have hyv := S2.view hy e2
      have ok3 : Okk X W Z σ F2 (match ixP sa db with | some d => Res.ok (R.dat d) ρ2 | none => Res.bad) (fun r ρ' F' ω' H' => ∀ v, VR Z F' ω' σ ρ'.length H' r v → Q v H') := by
        cases sa <;> first | exact absurd rfl nn | (simp only [e1, e2] at ok2; exact ok2)
      cases e3 : ixP sa db with
      | none => simp only [e3] at ok3; exact ok3.elim
      | some d =>
        simp only [e3] at ok3
        have fin : ∀ v, Rp Z.K F2 v d → Q v H2 := fun v hv => Okk.here S2 ok3 v hv
        have seq : ∀ (xs : List PyData) (k : Int), seqS sa = some xs → db = .int k → atI xs k = some d → wIx X x y H2 Q := fun xs k h1 h2 h3 => by
          subst h2
          obtain ⟨l, vs, rfl, hl, hr⟩ := hsv.seq S2.sub h1
          obtain ⟨v, hv, hvd⟩ := atI_rp hr h3
          exact ⟨_, ix_list, l, vs, k, v, rfl, hyv.int, SqL.of hl, hv, fin v hvd⟩
        unfold ixP at e3
        split at e3
        · obtain ⟨l, vs, rfl, hl, hr, _⟩ := (show Vw Z.K F2 H2 x (.tuple _) from .inl hsv).tuple S2.sub
          obtain ⟨v, hv, hvd⟩ := atI_rp hr e3
          exact ⟨_, ix_tup, l, vs, _, v, rfl, hyv.int, SqT.of hl, hv, fin v hvd⟩
        · split at e3
          · rename_i z k hz
            cases hsv
            cases h : atI z.cps.toList k with
            | none => rw [h] at e3; cases e3
            | some c =>
              rw [h] at e3
              cases e3
              exact ⟨_, ix_str, z, k, c, rfl, hyv.int, hz, h, fin _ (.str _)⟩
          · cases e3
        · rename_i ns k
          obtain ⟨l, rfl, hl⟩ := hsv
          cases h : atI ns k with
          | none => rw [h] at e3; cases e3
          | some n =>
            rw [h] at e3
            cases e3
            rw [hK] at hl
            have h' : atI (ns.map V.int) k = some (V.int n) := by
              unfold atI at h ⊢
              rw [List.length_map]
              cases e : ixN ns.length k with
              | none => rw [e] at h; cases h
              | some j => rw [e] at h; show (ns.map V.int)[j]? = _; rw [List.getElem?_map]; rw [show ns[j]? = some n from h]; rfl
            exact ⟨_, ix_list, l, _, k, _, rfl, hyv.int, hl, h', fin _ (.int n)⟩
        · rename_i k _ _ _
          cases h : seqS sa with
          | none => rw [h] at e3; cases e3
          | some xs => rw [h] at e3; exact seq xs _ h rfl e3
        · cases e3

/-! ### slices -/
def cutD (xs : List PyData) (lo hi : Option Int) : List PyData := (xs.drop (HT.sIx xs.length 0 lo)).take (HT.sIx xs.length xs.length hi - HT.sIx xs.length 0 lo)
theorem cutD_rp {K : PySem.W.Frag} {F : Hp} {vs : List V} {ds : List PyData} (r : RpAll K F vs ds) (lo hi : Option Int) : RpAll K F (cutV vs lo hi) (cutD ds lo hi) := by
  unfold cutV cutD
  rw [r.length]
  exact (r.drop _).take _
def slP (o : Slot) (lo hi : Option Int) : Option R := match o with
  | .dat (.tuple xs) => some (.dat (.tuple (cutD xs lo hi)))
  | .dat (.str x) => if x.length ≤ sizeLine then some (.dat (.str (cutS x lo hi))) else none
  | s => (seqS s).map fun xs => .new (.lst (cutD xs lo hi))
/-- an optional bound -/
def PXO (X : Cx) (W : WX) (e : Option Expr) (m : M (Option Int)) : Prop :=
  ∃ t, PO X e t ∧ ∀ Z F ω ρ σ H Q, Z.K = X.K → SR Z F ω ρ σ H → Okk X W Z σ F (m ρ) (fun o ρ' F' ω' H' => Q o H') → t σ H Q
def mNoPart : M (Option Int) := fun ρ => .ok none ρ
def mPart (m : M R) : M (Option Int) := fun ρ => (opd m ρ).bind fun r ρ1 => match rv ρ1 r with
  | some (.int i) => .ok (some i) ρ1
  | _ => .bad
theorem pxo_none : PXO X W none mNoPart := ⟨_, po_none, fun Z F ω ρ σ H Q hK S ok => Okk.here S ok⟩
theorem pxo_some (h : PX X W a ma) : PXO X W (some a) (mPart ma) := by
  refine ⟨_, po_some PE.wE, fun Z F ω ρ σ H Q hK S ok => ?_⟩
  refine h.opd Z F ω ρ σ H _ hK S ((Okk.bind ok).imp fun r ρ1 F1 ω1 H1 s1 S1 ok1 => ?_)
  intro v old hv
  cases e1 : rv ρ1 r with
  | none => simp only [e1] at ok1; exact ok1.elim
  | some d =>
    cases d with
    | int i => simp only [e1] at ok1; exact ⟨i, (S1.view hv e1).int, Okk.here S1 ok1⟩
    | _ => simp only [e1] at ok1; exact ok1.elim
def eSl (ma : M R) (ml mh : M (Option Int)) : M R := fun ρ => (opd ma ρ).bind fun ra ρ1 => (ml ρ1).bind fun lo ρ2 => (mh ρ2).bind fun hi ρ3 =>
  match rsl ρ3 ra with
  | some .non => .bad
  | some sa => match slP sa lo hi with
    | some r => .ok r ρ3
    | none => .bad
  | none => .bad
theorem px_slice {lo hi : Option Expr} {ml mh : M (Option Int)} {p2 : Pos} (ha : PX X W a ma) (hl : PXO X W lo ml) (hh : PXO X W hi mh) : PX X W (.Subscript a (.Slice lo hi none p2) pos) (eSl ma ml mh) := by
  obtain ⟨tl, pl, kl⟩ := hl
  obtain ⟨th, ph, kh⟩ := hh
  intro Z F ω ρ σ H Q hK S ok
  refine wE.of (pe_slice SlR.wSl PE.wE pl ph) ?_
  refine ha.opd Z F ω ρ σ H _ hK S ((Okk.bind ok).imp fun ra ρ1 F1 ω1 H1 s1 S1 ok1 => ?_)
  intro x olda hx
  refine kl Z F1 ω1 ρ1 σ H1 _ hK S1 ((Okk.bind ok1).imp fun lo ρ2 F2 ω2 H2 s2 S2 ok2 => ?_)
  refine kh Z F2 ω2 ρ2 σ H2 _ hK S2 ((Okk.bind ok2).imp fun hi ρ3 F3 ω3 H3 s3 S3 ok3 => ?_)
  have hx3 : VR Z F3 ω3 σ ρ3.length H3 ra x := by rw [S1.len' S3]; exact hx.mono (s2.trans s3) olda
  cases e1 : rsl ρ3 ra with
  | none => simp only [e1] at ok3; exact ok3.elim
  | some sa =>
    have nn : sa ≠ .non := by intro z; subst z; simp only [e1] at ok3; exact ok3.elim
    have hsv := S3.sv hx3 e1 nn
    have ok4 : Okk X W Z σ F3 (match slP sa lo hi with | some r => Res.ok r ρ3 | none => Res.bad) (fun r ρ' F' ω' H' => ∀ v, VR Z F' ω' σ ρ'.length H' r v → Q v H') := by
      cases sa <;> first | exact absurd rfl nn | (simp only [e1] at ok3; exact ok3)
    cases e3 : slP sa lo hi with
    | none => simp only [e3] at ok4; exact ok4.elim
    | some r =>
      simp only [e3] at ok4
      unfold slP at e3
      split at e3
      · cases e3
        rename_i xs
        obtain ⟨l, vs, rfl, hl, hr, hw⟩ := (show Vw Z.K F3 H3 x (.tuple _) from .inl hsv).tuple S3.sub
        refine ⟨_, sl_tupA, l, vs, rfl, SqT.of hl, fun z => ?_, fun _ p hp => ?_⟩
        · have e : cutD xs lo hi = xs := by
            unfold cutD
            rw [← hr.length, z.1, z.2, hr.length]
            simp
          rw [e] at ok4
          exact Okk.here S3 ok4 _ hw
        · obtain ⟨n1, n2, n3⟩ := S3.newTup hp (cutD_rp hr lo hi)
          exact ok4 _ _ _ n2 n1 _ n3
      · split at e3
        · cases e3
          cases hsv
          exact ⟨_, sl_str, _, rfl, by assumption, Okk.here S3 ok4 _ (.str _)⟩
        · cases e3
      · cases h : seqS sa with
        | none => rw [h] at e3; cases e3
        | some xs =>
          rw [h] at e3
          cases e3
          obtain ⟨l, vs, rfl, hl, hr⟩ := hsv.seq S3.sub h
          refine ⟨_, sl_list, l, vs, rfl, SqL.of hl, fun p hp => ?_⟩
          obtain ⟨ω', n1, n2⟩ := S3.newLst hp (cutD_rp hr lo hi)
          exact ok4 _ _ _ (Sub.refl _) n1 _ n2

/-! ### in, not in -/
/-- flat data -/
def flatD : PyData → Bool
  | .none => true
  | .bool _ => true
  | .int _ => true
  | .str _ => true
  | _ => false
theorem flatD_v {K : PySem.W.Frag} {F : Hp} {v : V} {d : PyData} (h : Rp K F v d) (f : flatD d = true) : flatV v = true := by
  cases h <;> first | rfl | cases f
theorem eqV_d {K : PySem.W.Frag} {F G : Hp} {v w : V} {d e : PyData} (h : Rp K F v d) (g : Rp K G w e) (f : flatD d = true) (f' : flatD e = true) : eqV v w = PyData.eqv d e := by
  cases h <;> first | (cases g <;> first | rfl | cases f' | (simp only [eqV, PyData.eqv])) | cases f
theorem flatD_all {K : PySem.W.Frag} {F : Hp} : ∀ {vs : List V} {ds : List PyData}, RpAll K F vs ds → ds.all flatD = true → vs.all flatV = true
  | _, _, .nil, _ => rfl
  | _, _, .cons h t, f => by
    rw [List.all_cons, Bool.and_eq_true] at f ⊢
    exact ⟨flatD_v h f.1, flatD_all t f.2⟩
theorem inV_d {K : PySem.W.Frag} {F G : Hp} {w : V} {e : PyData} (g : Rp K G w e) (f' : flatD e = true) : ∀ {vs : List V} {ds : List PyData}, RpAll K F vs ds → ds.all flatD = true → inV w vs = ds.any fun z => PyData.eqv z e
  | _, _, .nil, _ => rfl
  | _, _, .cons h t, f => by
    rw [List.all_cons, Bool.and_eq_true] at f
    have ih := inV_d g f' t f.2
    unfold inV at ih ⊢
    rw [List.any_cons, List.any_cons, ih, eqV_d h g f.1 f']
def inP (neg : Bool) (x : PyData) (s : Slot) : Option R := match s with
  | .dat (.tuple ys) => if flatD x && ys.all flatD then dBool (if neg then !(ys.any fun z => PyData.eqv z x) else ys.any fun z => PyData.eqv z x) else none
  | s => (seqS s).bind fun ys => if SeqAt.shaped x && SeqAt.shaped (.list ys) then dBool (if neg then !(ys.any fun z => PyData.eqv z x) else ys.any fun z => PyData.eqv z x) else none
/-- the key that data is -/
def toKey : PyData → Option Key
  | .int i => some (.inl i)
  | .str x => some (.inr x)
  | _ => none
def toKeys : List PyData → Option (List Key)
  | [] => some []
  | d :: ds => match toKey d, toKeys ds with
    | some k, some ks => some (k :: ks)
    | _, _ => none
theorem toKey_eq {d : PyData} {k : Key} (h : toKey d = some k) : d = keyD k := by
  cases d <;> first | (cases h; rfl) | cases h
theorem toKeys_eq : ∀ {ds : List PyData} {ks : List Key}, toKeys ds = some ks → ds = ks.map keyD
  | [], _, h => by cases h; rfl
  | d :: ds, ks, h => by
    unfold toKeys at h
    cases h1 : toKey d with
    | none => rw [h1] at h; cases h
    | some k =>
      rw [h1] at h
      cases h2 : toKeys ds with
      | none => rw [h2] at h; cases h
      | some ks' => rw [h2] at h; cases h; rw [toKey_eq h1, toKeys_eq h2]; rfl
theorem rp_key {K : PySem.W.Frag} {F : Hp} {v : V} {k : Key} (h : Rp K F v (keyD k)) : v = kV k := by
  cases k <;> (cases h; rfl)
theorem rp_keys {K : PySem.W.Frag} {F : Hp} : ∀ {vs : List V} {ks : List Key}, RpAll K F vs (ks.map keyD) → vs = ks.map kV
  | _, [], .nil => rfl
  | _, k :: ks, .cons h t => by rw [rp_key h, rp_keys t]; rfl
/-- association lists -/
def getA {κ β : Type} [DecidableEq κ] (kvs : List (κ × β)) (k : κ) : Option β := (kvs.find? fun kv => decide (kv.1 = k)).map (·.2)
def putA {κ β : Type} [DecidableEq κ] (kvs : List (κ × β)) (k : κ) (v : β) : List (κ × β) :=
  if (kvs.any fun kv => decide (kv.1 = k)) = true then kvs.map fun kv => if kv.1 = k then (kv.1, v) else kv else kvs ++ [(k, v)]
def OptR (K : PySem.W.Frag) (F : Hp) (o : Option PyData) (o' : Option V) : Prop := match o with
  | some d => ∃ w, o' = some w ∧ Rp K F w d
  | none => o' = none
theorem valV_getA {κ : Type} [DecidableEq κ] {K : PySem.W.Frag} {F : Hp} (k : κ) : ∀ (kvs : List (κ × PyData)) {vs : List V}, RpAll K F vs (kvs.map (·.2)) →
    OptR K F (getA kvs k) (valV ((kvs.map (·.1)).zip vs) k)
  | [], _, _ => rfl
  | (k', d) :: kvs, v :: vs, .cons h t => by
    have ih := valV_getA k kvs t
    by_cases e : k' = k
    · have e1 : getA ((k', d) :: kvs) k = some d := by simp [getA, List.find?_cons, e]
      rw [e1]
      exact ⟨v, valV_pos (p := (k', v)) e, h⟩
    · have e1 : getA ((k', d) :: kvs) k = getA kvs k := by simp [getA, List.find?_cons, e]
      rw [e1]
      show OptR K F (getA kvs k) (valV ((k', v) :: (kvs.map (·.1)).zip vs) k)
      rw [valV_neg (p := (k', v)) e]
      exact ih
/-- what a dict of a slot holds at x; none: x can't be a key of it -/
def dgetS (s : Slot) (x : PyData) : Option (Option PyData) := match s, x with
  | .dK kvs, x => (toKey x).map fun k => getA kvs k
  | .borK kvs, x => (toKey x).map fun k => getA kvs k
  | .dT kvs, .tuple xs => (toKeys xs).map fun k => getA kvs k
  | .borT kvs, .tuple xs => (toKeys xs).map fun k => getA kvs k
  | _, _ => none
theorem dget_ok {K : PySem.W.Frag} {F H : Hp} {v x : V} {s : Slot} {d : PyData} {o : Option PyData} (S : Sub F H) (h : SV K F H v s) (hx : Vw K F H x d) (e : dgetS s d = some o) :
    ∃ a o', v = .ref a ∧ DGet H a x o' ∧ OptR K F o o' := by
  have flat : ∀ (kvs : List (Key × PyData)) (o : Option PyData), (∃ l vs, v = .ref l ∧ H l = some (.dK ((kvs.map (·.1)).zip vs)) ∧ RpAll K F vs (kvs.map (·.2))) → (toKey d).map (fun k => getA kvs k) = some o →
      ∃ a o', v = .ref a ∧ DGet H a x o' ∧ OptR K F o o' := fun kvs o ⟨l, vs, ev, hl, hr⟩ e => by
    cases hk : toKey d with
    | none => rw [hk] at e; cases e
    | some k =>
      rw [hk] at e
      have e : getA kvs k = o := Option.some.inj e
      have q := valV_getA (K := K) (F := F) k kvs hr
      rw [e] at q
      have ed := toKey_eq hk
      subst ed
      have ex : x = kV k := by
        rcases hx with hx | ⟨_, _, _, _, ez, _⟩
        · exact rp_key hx
        · cases k <;> cases ez
      subst ex
      refine ⟨l, _, ev, DGet.k hl, ?_⟩
      exact q
  have tups : ∀ (kvs : List (List Key × PyData)) (xs : List PyData) (o : Option PyData), d = .tuple xs → (∃ l vs, v = .ref l ∧ H l = some (.dT ((kvs.map (·.1)).zip vs)) ∧ RpAll K F vs (kvs.map (·.2))) → (toKeys xs).map (fun k => getA kvs k) = some o →
      ∃ a o', v = .ref a ∧ DGet H a x o' ∧ OptR K F o o' := fun kvs xs o ed ⟨l, vs, ev, hl, hr⟩ e0 => by
    subst ed
    cases hk : toKeys xs with
    | none => rw [hk] at e0; cases e0
    | some k =>
      rw [hk] at e0
      have e0 : getA kvs k = o := Option.some.inj e0
      have q := valV_getA (K := K) (F := F) k kvs hr
      rw [e0] at q
      have ed := toKeys_eq hk
      subst ed
      obtain ⟨b, us, rfl, hb, hbr, _⟩ := hx.tuple' S
      rw [rp_keys hbr] at hb
      refine ⟨l, _, ev, DGet.t hl hb, ?_⟩
      exact q
  unfold dgetS at e
  split at e
  · exact flat _ _ h e
  · exact flat _ _ h e
  · exact tups _ _ _ rfl h e
  · exact tups _ _ _ rfl h e
  · cases e
end
end PL
end

section
set_option maxRecDepth 100000
set_option maxHeartbeats 1000000
/-! PL, seventh part: in, dict reads, tests. -/
namespace PL
open PySem L2
section
variable {X : Cx} {W : WX} {e a b c : Expr} {es rest : List Expr} {m ma mb mc : M R} {ms : M (List R)} {pos pp : Pos}
theorem op_inDict (hu : X.A.units + 1 < cLine) : OpR X (compareOp .In) (fun x y H Q => ∃ a o, y = .ref a ∧ DGet H a x o ∧ Q (.bl o.isSome) H) := by
  intro pins s σ H x y v u Q I rx ry h
  obtain ⟨a, o, rfl, g, q⟩ := h
  cases ry
  exact d_in hu I g rx fun s' I' => ⟨.bl _, H, I', rfl, q⟩
theorem op_notInDict (hu : X.A.units + 1 < cLine) : OpR X (compareOp .NotIn) (fun x y H Q => ∃ a o, y = .ref a ∧ DGet H a x o ∧ Q (.bl (!o.isSome)) H) := by
  intro pins s σ H x y v u Q I rx ry h
  obtain ⟨a, o, rfl, g, q⟩ := h
  cases ry
  exact d_notIn hu I g rx fun s' I' => ⟨.bl _, H, I', rfl, q⟩
/-- x in s: s a dict of a slot; a text (one sign); a list, a tuple -/
def inS (neg : Bool) (x : PyData) (s : Slot) : Option R := match s, x with
  | .dat (.str z), .str y => match y.cps.toList with
    | [c] => dBool (if neg then !decide (c ∈ z.cps.toList) else decide (c ∈ z.cps.toList))
    | _ => none
  | s, x => match dgetS s x with
    | some o => dBool (if neg then !o.isSome else o.isSome)
    | none => inP neg x s
theorem OptR.some {K : PySem.W.Frag} {F : Hp} {o : Option PyData} {o' : Option V} (h : OptR K F o o') : o'.isSome = o.isSome := by
  cases o with
  | none => rw [show o' = Option.none from h]; rfl
  | some d => obtain ⟨w, e, _⟩ := h; rw [e]; rfl
theorem inG {neg : Bool} (hr : X.A.units + 65 < cLine) {Z : Zone} {F : Hp} {ω : Addr → Option Path} {ρ : PEnv} {σ : St} {H : Hp} {x y : V} {d : PyData} {s : Slot} {r : R} {Q : VK} (hK : Z.K = X.K) (S2 : SR Z F ω ρ σ H)
    (hxv : Vw Z.K F H x d) (hsv : SV Z.K F H y s) (e3 : inS neg d s = some r) (fin : ∀ k : Bool, R.dat (.bool k) = r → Q (.bl k) H) : wOp X (compareOp (if neg then .NotIn else .In)) x y H Q := by
  have fin : ∀ k : Bool, dBool k = some r → Q (.bl k) H := fun k e => fin k (Option.some.inj e)
  have gen : (match dgetS s d with | some o => dBool (if neg then !o.isSome else o.isSome) | none => inP neg d s) = some r → wOp X (compareOp (if neg then .NotIn else .In)) x y H Q := fun e3 => by
    cases e4 : dgetS s d with
    | some o =>
      rw [e4] at e3
      obtain ⟨l, o', rfl, g, ho⟩ := dget_ok S2.sub hsv hxv e4
      cases neg with
      | true => exact ⟨_, op_notInDict (by omega), l, o', rfl, g, by rw [ho.some]; exact fin _ e3⟩
      | false => exact ⟨_, op_inDict (by omega), l, o', rfl, g, by rw [ho.some]; exact fin _ e3⟩
    | none =>
      rw [e4] at e3
      have e6 : inP neg d s = some r := e3
      clear e3
      unfold inP at e6
      split at e6
      · rename_i ys
        split at e6
        · rename_i hf
          obtain ⟨f1, f2⟩ := Bool.and_eq_true_iff.mp hf
          obtain ⟨l, vs, rfl, hl, hr', _⟩ := (show Vw Z.K F H y (.tuple ys) from .inl hsv).tuple' S2.sub
          have hx' : Rp Z.K F x d := by
            rcases hxv with h | ⟨_, _, _, _, rfl, _⟩
            · exact h
            · cases f1
          have ev := inV_d hx' f1 hr' f2
          cases neg with
          | true => exact ⟨_, op_notIn_seq, l, vs, rfl, .inr (SqT.of hl), flatD_v hx' f1, flatD_all hr' f2, by rw [if_pos rfl, ev]; exact fin _ e6⟩
          | false => exact ⟨_, op_in_seq, l, vs, rfl, .inr (SqT.of hl), flatD_v hx' f1, flatD_all hr' f2, by rw [if_neg (by decide), ev]; exact fin _ e6⟩
        · cases e6
      · cases e5 : seqS s with
        | none => rw [e5] at e6; cases e6
        | some ys =>
          rw [e5] at e6
          have e6 : (if SeqAt.shaped d && SeqAt.shaped (.list ys) then dBool (if neg then !(ys.any fun z => PyData.eqv z d) else ys.any fun z => PyData.eqv z d) else none) = some r := e6
          split at e6
          · rename_i hc
            obtain ⟨c1, c2⟩ := Bool.and_eq_true_iff.mp hc
            obtain ⟨l, vs, rfl, hl, hr'⟩ := hsv.seq S2.sub e5
            have hy' : Vw X.K F H (.ref l) (.list ys) := .inr ⟨l, vs, ys, rfl, rfl, hl, by rw [← hK]; exact hr'⟩
            rw [hK] at hxv
            cases neg with
            | true => exact ⟨_, op_notInD hr, d, ys, hxv.dp S2.sub c1, hy'.dp S2.sub c2, c1, c2, fin _ e6⟩
            | false => exact ⟨_, op_inD hr, d, ys, hxv.dp S2.sub c1, hy'.dp S2.sub c2, c1, c2, fin _ e6⟩
          · cases e6
  unfold inS at e3
  split at e3
  · rename_i z w
    split at e3
    · rename_i ch hcs
      cases hsv
      have hw : x = V.str ⟨#[ch]⟩ := by
        rw [hxv.str]
        congr 1
        cases w with
        | mk cps => simp only at hcs; rw [← hcs]
      subst hw
      cases neg with
      | true => exact ⟨_, op_notIn_sign, ch, z, rfl, rfl, fin _ e3⟩
      | false => exact ⟨_, op_in_sign, ch, z, rfl, rfl, fin _ e3⟩
    · cases e3
  · exact gen e3
/-- two operands, the right one seen as a slot -/
def two {β : Type} (f : PyData → Slot → PEnv → Res β) (ma mb : M R) : M β := fun ρ => (opd ma ρ).bind fun ra ρ1 => (opd mb ρ1).bind fun rb ρ2 =>
  match rv ρ2 ra, rsl ρ2 rb with
  | some x, some s => match s with
    | .non => .bad
    | s => f x s ρ2
  | _, _ => .bad
theorem two_core {β : Type} {f : PyData → Slot → PEnv → Res β} {P : β → PEnv → Hp → (Addr → Option Path) → Hp → Prop} {R2' : V → V → Hp → Prop} (ha : PX X W a ma) (hb : PX X W b mb)
    {Z : Zone} {F : Hp} {ω : Addr → Option Path} {ρ : PEnv} {σ : St} {H : Hp} (hK : Z.K = X.K) (S : SR Z F ω ρ σ H) (ok : Okk X W Z σ F (two f ma mb ρ) P)
    (k : ∀ F2 ω2 ρ2 H2 x y d s, SR Z F2 ω2 ρ2 σ H2 → Vw Z.K F2 H2 x d → SV Z.K F2 H2 y s → Okk X W Z σ F2 (f d s ρ2) P → R2' x y H2) :
    wE X a σ H fun x H1 => wE X b σ H1 fun y H2 => R2' x y H2 := by
  refine ha.opd Z F ω ρ σ H _ hK S ((Okk.bind ok).imp fun ra ρ1 F1 ω1 H1 s1 S1 ok1 => ?_)
  intro x olda hx
  refine hb.opd Z F1 ω1 ρ1 σ H1 _ hK S1 ((Okk.bind ok1).imp fun rb ρ2 F2 ω2 H2 s2 S2 ok2 => ?_)
  intro y oldb hy
  have hx2 : VR Z F2 ω2 σ ρ2.length H2 ra x := by rw [S1.len' S2]; exact hx.mono s2 olda
  cases e1 : rv ρ2 ra with
  | none => simp only [e1] at ok2; exact ok2.elim
  | some d =>
    cases e2 : rsl ρ2 rb with
    | none => simp only [e1, e2] at ok2; exact ok2.elim
    | some s =>
      have hxv := S2.view hx2 e1
      have key : s ≠ .non → Okk X W Z σ F2 (f d s ρ2) P → R2' x y H2 := fun nn o => k F2 ω2 ρ2 H2 x y d s S2 hxv (S2.sv hy e2 nn) o
      cases s <;> first | (simp only [e1, e2] at ok2; exact ok2.elim) | (simp only [e1, e2] at ok2; exact key (by intro z; cases z) ok2)
def eIn (neg : Bool) (ma mb : M R) : M R := two (fun x s ρ => match inS neg x s with
    | some r => .ok r ρ
    | none => .bad) ma mb
theorem inS_bool {neg : Bool} {x : PyData} {s : Slot} {r : R} (h : inS neg x s = some r) : ∃ b, r = .dat (.bool b) := by
  have db : ∀ {b : Bool}, dBool b = some r → ∃ b, r = .dat (.bool b) := fun {b} e => ⟨b, (Option.some.inj e).symm⟩
  unfold inS at h
  split at h
  · split at h
    · exact db h
    · cases h
  · split at h
    · exact db h
    · unfold inP at h
      split at h
      · split at h
        · exact db h
        · cases h
      · cases e5 : seqS s with
        | none => rw [e5] at h; cases h
        | some ys =>
          rw [e5] at h
          have h : (if SeqAt.shaped x && SeqAt.shaped (.list ys) then dBool (if neg then !(ys.any fun z => PyData.eqv z x) else ys.any fun z => PyData.eqv z x) else none) = some r := h
          split at h
          · exact db h
          · cases h
def tIn (neg : Bool) (ma mb : M R) : M Bool := two (fun x s ρ => match inS neg x s with
    | some (.dat (.bool k)) => .ok k ρ
    | _ => .bad) ma mb
theorem in_core {neg : Bool} (hr : X.A.units + 65 < cLine) (ha : PX X W a ma) (hb : PX X W b mb) :
    ∀ Z F ω ρ σ H Q, Z.K = X.K → SR Z F ω ρ σ H → Okk X W Z σ F (eIn neg ma mb ρ) (fun r ρ' F' ω' H' => ∀ v, VR Z F' ω' σ ρ'.length H' r v → Q v H') →
      tOp (wOp X (compareOp (if neg then .NotIn else .In))) (wE X a) (wE X b) σ H Q := by
  intro Z F ω ρ σ H Q hK S ok
  refine two_core ha hb hK S ok fun F2 ω2 ρ2 H2 x y d s S2 hx hy ok2 => ?_
  cases e3 : inS neg d s with
  | none => simp only [e3] at ok2; exact ok2.elim
  | some r =>
    simp only [e3] at ok2
    exact inG hr hK S2 hx hy e3 fun k e => by subst e; exact Okk.here S2 ok2 _ (.bl k)
theorem in_test {neg : Bool} (hr : X.A.units + 65 < cLine) (ha : PX X W a ma) (hb : PX X W b mb) :
    ∀ Z F ω ρ σ H (Q : Bool → Hp → Prop), Z.K = X.K → SR Z F ω ρ σ H → Okk X W Z σ F (tIn neg ma mb ρ) (fun b _ _ _ H' => Q b H') →
      tOp (wOp X (compareOp (if neg then .NotIn else .In))) (wE X a) (wE X b) σ H (fun x H1 => ∃ k, x = .bl k ∧ Q k H1) := by
  intro Z F ω ρ σ H Q hK S ok
  refine two_core ha hb hK S ok fun F2 ω2 ρ2 H2 x y d s S2 hx hy ok2 => ?_
  cases e3 : inS neg d s with
  | none => simp only [e3] at ok2; exact ok2.elim
  | some r =>
    obtain ⟨b, rfl⟩ := inS_bool e3
    simp only [e3] at ok2
    exact inG hr hK S2 hx hy e3 fun k e => by cases e; exact ⟨_, rfl, Okk.here S2 ok2⟩
theorem px_in {k : Nat} (hr : Room k X.A) (ha : PX X W a ma) (hb : PX X W b mb) (hm : behindInMarks .In b = false := by rfl) : PX X W (.Compare a [.In] [b] pos) (eIn false ma mb) := fun Z F ω ρ σ H Q hK S ok =>
  wE.of (pe_cmpR OpR.wOp PE.wE PE.wE hm) (in_core (neg := false) (by have := hr.un; omega) ha hb Z F ω ρ σ H Q hK S ok)
theorem px_notin {k : Nat} (hr : Room k X.A) (ha : PX X W a ma) (hb : PX X W b mb) (hm : behindInMarks .NotIn b = false := by rfl) : PX X W (.Compare a [.NotIn] [b] pos) (eIn true ma mb) := fun Z F ω ρ σ H Q hK S ok =>
  wE.of (pe_cmpR OpR.wOp PE.wE PE.wE hm) (in_core (neg := true) (by have := hr.un; omega) ha hb Z F ω ρ σ H Q hK S ok)
/-! ### d[k], d.get(k), d.get(k, x) of a slot's dict -/
def eDGet (ma mb : M R) : M R := fun ρ => (opd ma ρ).bind fun ra ρ1 => (opd mb ρ1).bind fun rb ρ2 =>
  match rsl ρ2 ra, rv ρ2 rb with
  | some s, some x => match dgetS s x with
    | some (some d) => .ok (.dat d) ρ2
    | _ => .bad
  | _, _ => .bad
theorem dgetS_non {x : PyData} {o : Option PyData} (h : dgetS .non x = some o) : False := by cases h
theorem px_dget {k : Nat} (hr : Room k X.A) (ha : PX X W a ma) (hb : PX X W b mb) (hs : NoSl b := by exact fun _ _ => rfl) : PX X W (.Subscript a b pos) (eDGet ma mb) := by
  intro Z F ω ρ σ H Q hK S ok
  have hu := hu_of hr
  refine wE.of (pe_dget hu PE.wE PE.wE hs) ?_
  refine ha.opd Z F ω ρ σ H _ hK S ((Okk.bind ok).imp fun ra ρ1 F1 ω1 H1 s1 S1 ok1 => ?_)
  intro x olda hx
  refine hb.opd Z F1 ω1 ρ1 σ H1 _ hK S1 ((Okk.bind ok1).imp fun rb ρ2 F2 ω2 H2 s2 S2 ok2 => ?_)
  intro y oldb hy
  have hx2 : VR Z F2 ω2 σ ρ2.length H2 ra x := by rw [S1.len' S2]; exact hx.mono s2 olda
  cases e1 : rsl ρ2 ra with
  | none => simp only [e1] at ok2; exact ok2.elim
  | some s =>
    cases e2 : rv ρ2 rb with
    | none => simp only [e1, e2] at ok2; exact ok2.elim
    | some d =>
      simp only [e1, e2] at ok2
      cases e3 : dgetS s d with
      | none => simp only [e3] at ok2; exact ok2.elim
      | some o =>
        have nn : s ≠ .non := by intro z; subst z; exact dgetS_non e3
        obtain ⟨l, o', rfl, g, ho⟩ := dget_ok S2.sub (S2.sv hx2 e1 nn) (S2.view hy e2) e3
        cases o with
        | none => simp only [e3] at ok2; exact ok2.elim
        | some d' =>
          simp only [e3] at ok2
          obtain ⟨w, rfl, hw⟩ := ho
          exact ⟨l, w, rfl, g, Okk.here S2 ok2 _ hw⟩
/-- o[i]: a slot's dict, or a sequence -/
def isDictR (ρ : PEnv) : R → Bool
  | .slot i => match ρ[i]? with
    | some (.dK _) => true
    | some (.dT _) => true
    | some (.borK _) => true
    | some (.borT _) => true
    | _ => false
  | _ => false
def eIx (ma mb : M R) : M R := fun ρ => match opd ma ρ with
  | .ok ra ρ1 => if isDictR ρ1 ra then eDGet ma mb ρ else eIxS ma mb ρ
  | _ => eIxS ma mb ρ
theorem px_ix {k : Nat} (hr : Room k X.A) (ha : PX X W a ma) (hb : PX X W b mb) (hs : NoSl b := by exact fun _ _ => rfl) (hs2 : PlainIx b := by exact fun _ _ => rfl) : PX X W (.Subscript a b pos) (eIx ma mb) := by
  intro Z F ω ρ σ H Q hK S ok
  unfold eIx at ok
  split at ok
  · split at ok
    · exact px_dget hr ha hb hs Z F ω ρ σ H Q hK S ok
    · exact px_ixS ha hb hs2 Z F ω ρ σ H Q hK S ok
  · exact px_ixS ha hb hs2 Z F ω ρ σ H Q hK S ok
/-! ### tests -/
/-- a bool as a test -/
def tOfB (m : M R) : M Bool := fun ρ => (opd m ρ).bind fun r ρ1 => match rv ρ1 r with
  | some (.bool b) => .ok b ρ1
  | _ => .bad
theorem tOfB_core (h : PX X W a ma) : ∀ Z F ω ρ σ H (Q : Bool → Hp → Prop), Z.K = X.K → SR Z F ω ρ σ H → Okk X W Z σ F (tOfB ma ρ) (fun b _ _ _ H' => Q b H') → wE X a σ H (fun x H1 => ∃ k, x = .bl k ∧ Q k H1) := by
  intro Z F ω ρ σ H Q hK S ok
  refine h.opd Z F ω ρ σ H _ hK S ((Okk.bind ok).imp fun r ρ1 F1 ω1 H1 s1 S1 ok1 => ?_)
  intro v old hv
  cases e1 : rv ρ1 r with
  | none => simp only [e1] at ok1; exact ok1.elim
  | some d =>
    cases d with
    | bool b => simp only [e1] at ok1; exact ⟨b, (S1.view hv e1).bool, Okk.here S1 ok1⟩
    | _ => simp only [e1] at ok1; exact ok1.elim
/-- any expression whose test is its value's truth, a bool -/
theorem pxt_val (h : PX X W a ma) (he : ∀ whole, isTrue a X.env whole = (do let v ← whole; standAt a.pos; holding [v] (truthy v)) := by intro _; rfl) : PXT X W a (tOfB ma) := fun Z F ω ρ σ H Q hK S ok =>
  wT.of (pt_val PE.wE he) (tOfB_core h Z F ω ρ σ H Q hK S ok)
def tBin (p : PyData → PyData → Option R) (ma mb : M R) : M Bool := fun ρ => (opd ma ρ).bind fun ra ρ1 => (opd mb ρ1).bind fun rb ρ2 =>
  match rv ρ2 ra, rv ρ2 rb with
  | some da, some db => match p da db with
    | some (.dat (.bool k)) => .ok k ρ2
    | _ => .bad
  | _, _ => .bad
theorem bin_test {f : Value → Value → Sem Value} {p : PyData → PyData → Option R} (ho : OpG X f p) (ha : PX X W a ma) (hb : PX X W b mb) : ∀ Z F ω ρ σ H (Q : Bool → Hp → Prop), Z.K = X.K → SR Z F ω ρ σ H →
    Okk X W Z σ F (tBin p ma mb ρ) (fun b _ _ _ H' => Q b H') → tOp (wOp X f) (wE X a) (wE X b) σ H (fun x H1 => ∃ k, x = .bl k ∧ Q k H1) := by
  intro Z F ω ρ σ H Q hK S ok
  refine ha.opd Z F ω ρ σ H _ hK S ((Okk.bind ok).imp fun ra ρ1 F1 ω1 H1 s1 S1 ok1 => ?_)
  intro x olda hx
  refine hb.opd Z F1 ω1 ρ1 σ H1 _ hK S1 ((Okk.bind ok1).imp fun rb ρ2 F2 ω2 H2 s2 S2 ok2 => ?_)
  intro y oldb hy
  have hx2 : VR Z F2 ω2 σ ρ2.length H2 ra x := by rw [S1.len' S2]; exact hx.mono s2 olda
  cases e1 : rv ρ2 ra with
  | none => simp only [e1] at ok2; exact ok2.elim
  | some da =>
    cases e2 : rv ρ2 rb with
    | none => simp only [e1, e2] at ok2; exact ok2.elim
    | some db =>
      simp only [e1, e2] at ok2
      cases e3 : p da db with
      | none => simp only [e3] at ok2; exact ok2.elim
      | some r =>
        cases r with
        | dat d =>
          cases d with
          | bool k =>
            simp only [e3] at ok2
            exact ho Z F2 ω2 ρ2 σ H2 x y da db _ _ hK S2 (S2.view hx2 e1) (S2.view hy e2) e3 fun v F' ω' H' s' S' hv => ⟨k, by cases hv; rfl, ok2 F' ω' H' s' S'⟩
          | _ => simp only [e3] at ok2; exact ok2.elim
        | _ => simp only [e3] at ok2; exact ok2.elim
theorem pxt_cmp {op : CmpOp} {p : PyData → PyData → Option R} (ho : OpG X (compareOp op) p) (ha : PX X W a ma) (hb : PX X W b mb) (hm : behindInMarks op b = false := by first | exact nomark _ | rfl) : PXT X W (.Compare a [op] [b] pos) (tBin p ma mb) := fun Z F ω ρ σ H Q hK S ok =>
  wT.of (pt_cmpR OpR.wOp PE.wE PE.wE hm) (bin_test ho ha hb Z F ω ρ σ H Q hK S ok)
theorem pxt_in {k : Nat} (hr : Room k X.A) (ha : PX X W a ma) (hb : PX X W b mb) (hm : behindInMarks .In b = false := by rfl) : PXT X W (.Compare a [.In] [b] pos) (tIn false ma mb) := fun Z F ω ρ σ H Q hK S ok =>
  wT.of (pt_cmpR OpR.wOp PE.wE PE.wE hm) (in_test (neg := false) (by have := hr.un; omega) ha hb Z F ω ρ σ H Q hK S ok)
theorem pxt_notin {k : Nat} (hr : Room k X.A) (ha : PX X W a ma) (hb : PX X W b mb) (hm : behindInMarks .NotIn b = false := by rfl) : PXT X W (.Compare a [.NotIn] [b] pos) (tIn true ma mb) := fun Z F ω ρ σ H Q hK S ok =>
  wT.of (pt_cmpR OpR.wOp PE.wE PE.wE hm) (in_test (neg := true) (by have := hr.un; omega) ha hb Z F ω ρ σ H Q hK S ok)
def tNot' (m : M Bool) : M Bool := fun ρ => (m ρ).bind fun b ρ1 => .ok (!b) ρ1
theorem pxt_not {m : M Bool} (h : PXT X W a m) : PXT X W (.UnaryOp .Not a pos) (tNot' m) := by
  intro Z F ω ρ σ H Q hK S ok
  refine wT.of (pt_not PT.wT) ?_
  exact h Z F ω ρ σ H _ hK S ((Okk.bind ok).imp fun b ρ1 F1 ω1 H1 s1 S1 ok1 => Okk.here S1 ok1)
def tAnd' (m n : M Bool) : M Bool := fun ρ => (m ρ).bind fun b ρ1 => if b then n ρ1 else .ok false ρ1
def tOr' (m n : M Bool) : M Bool := fun ρ => (m ρ).bind fun b ρ1 => if b then .ok true ρ1 else n ρ1
theorem pxw_and1 {m : M Bool} (h : PXT X W a m) : PXW X W (.BoolOp .And [a] pos) m := fun Z F ω ρ σ H Q hK S ok => wW.of (pw_and1 PT.wT) (h Z F ω ρ σ H Q hK S ok)
theorem pxw_or1 {m : M Bool} (h : PXT X W a m) : PXW X W (.BoolOp .Or [a] pos) m := fun Z F ω ρ σ H Q hK S ok => wW.of (pw_or1 PT.wT) (h Z F ω ρ σ H Q hK S ok)
theorem pxw_and {m n : M Bool} (h : PXT X W a m) (h2 : PXW X W (.BoolOp .And (b :: rest) pos) n) : PXW X W (.BoolOp .And (a :: b :: rest) pos) (tAnd' m n) := by
  intro Z F ω ρ σ H Q hK S ok
  refine wW.of (pw_and PT.wT PW.wW) ?_
  refine h Z F ω ρ σ H _ hK S ((Okk.bind ok).imp fun c ρ1 F1 ω1 H1 s1 S1 ok1 => ?_)
  cases c with
  | true => rw [if_pos rfl]; exact h2 Z F1 ω1 ρ1 σ H1 Q hK S1 ok1
  | false => rw [if_neg (by decide)]; exact Okk.here S1 ok1
theorem pxw_or {m n : M Bool} (h : PXT X W a m) (h2 : PXW X W (.BoolOp .Or (b :: rest) pos) n) : PXW X W (.BoolOp .Or (a :: b :: rest) pos) (tOr' m n) := by
  intro Z F ω ρ σ H Q hK S ok
  refine wW.of (pw_or PT.wT PW.wW) ?_
  refine h Z F ω ρ σ H _ hK S ((Okk.bind ok).imp fun c ρ1 F1 ω1 H1 s1 S1 ok1 => ?_)
  cases c with
  | true => rw [if_pos rfl]; exact Okk.here S1 ok1
  | false => rw [if_neg (by decide)]; exact h2 Z F1 ω1 ρ1 σ H1 Q hK S1 ok1
theorem PXW.pxt {m : M Bool} (h : PXW X W e m) : PXT X W e m := fun Z F ω ρ σ H Q hK S ok => wT.of (PW.pt PW.wW) (h Z F ω ρ σ H Q hK S ok)
/-- a < b < c -/
def tChain' (p q : PyData → PyData → Option R) (ma mb mc : M R) : M Bool := fun ρ => (opd ma ρ).bind fun ra ρ1 => (opd mb ρ1).bind fun rb ρ2 =>
  match rv ρ2 ra, rv ρ2 rb with
  | some da, some db => match p da db with
    | some (.dat (.bool true)) => (opd mc ρ2).bind fun rc ρ3 => match rv ρ3 rb, rv ρ3 rc with
      | some db, some dc => match q db dc with
        | some (.dat (.bool k)) => .ok k ρ3
        | _ => .bad
      | _, _ => .bad
    | some (.dat (.bool false)) => .ok false ρ2
    | _ => .bad
  | _, _ => .bad
theorem chain_core {f g : Value → Value → Sem Value} {p q : PyData → PyData → Option R} (ho : OpG X f p) (hq : OpG X g q) (ha : PX X W a ma) (hb : PX X W b mb) (hc : PX X W c mc) : ∀ Z F ω ρ σ H (Q : Bool → Hp → Prop), Z.K = X.K → SR Z F ω ρ σ H →
    Okk X W Z σ F (tChain' p q ma mb mc ρ) (fun b _ _ _ H' => Q b H') → tChain (wOp X f) (wOp X g) (wE X a) (wE X b) (wE X c) σ H (fun x H1 => ∃ k, x = .bl k ∧ Q k H1) := by
  intro Z F ω ρ σ H Q hK S ok
  refine ha.opd Z F ω ρ σ H _ hK S ((Okk.bind ok).imp fun ra ρ1 F1 ω1 H1 s1 S1 ok1 => ?_)
  intro x olda hx
  refine hb.opd Z F1 ω1 ρ1 σ H1 _ hK S1 ((Okk.bind ok1).imp fun rb ρ2 F2 ω2 H2 s2 S2 ok2 => ?_)
  intro y oldb hy
  have hx2 : VR Z F2 ω2 σ ρ2.length H2 ra x := by rw [S1.len' S2]; exact hx.mono s2 olda
  cases e1 : rv ρ2 ra with
  | none => simp only [e1] at ok2; exact ok2.elim
  | some da =>
    cases e2 : rv ρ2 rb with
    | none => simp only [e1, e2] at ok2; exact ok2.elim
    | some db =>
      simp only [e1, e2] at ok2
      cases e3 : p da db with
      | none => simp only [e3] at ok2; exact ok2.elim
      | some r =>
        cases r with
        | dat d =>
          cases d with
          | bool k =>
            refine ho Z F2 ω2 ρ2 σ H2 x y da db _ _ hK S2 (S2.view hx2 e1) (S2.view hy e2) e3 fun v F3 ω3 H3 s3 S3 hv => ⟨k, by cases hv; rfl, ?_⟩
            cases k with
            | false =>
              simp only [e3] at ok2
              rw [if_neg (by decide)]
              exact ⟨false, rfl, Okk.here S3 (Okk.sub s3 ok2)⟩
            | true =>
              simp only [e3] at ok2
              rw [if_pos rfl]
              refine hc.opd Z F3 ω3 ρ2 σ H3 _ hK S3 ((Okk.bind (Okk.sub s3 ok2)).imp fun rc ρ4 F4 ω4 H4 s4 S4 ok4 => ?_)
              intro z oldc hz
              have hy4 : VR Z F4 ω4 σ ρ4.length H4 rb y := by rw [S2.len' S4]; exact hy.mono (s3.trans s4) oldb
              cases e4 : rv ρ4 rb with
              | none => simp only [e4] at ok4; exact ok4.elim
              | some db' =>
                cases e5 : rv ρ4 rc with
                | none => simp only [e4, e5] at ok4; exact ok4.elim
                | some dc =>
                  simp only [e4, e5] at ok4
                  cases e6 : q db' dc with
                  | none => simp only [e6] at ok4; exact ok4.elim
                  | some r =>
                    cases r with
                    | dat d =>
                      cases d with
                      | bool k =>
                        simp only [e6] at ok4
                        exact hq Z F4 ω4 ρ4 σ H4 y z db' dc _ _ hK S4 (S4.view hy4 e4) (S4.view hz e5) e6 fun v F' ω' H' s' S' hv => ⟨k, by cases hv; rfl, ok4 F' ω' H' s' S'⟩
                      | _ => simp only [e6] at ok4; exact ok4.elim
                    | _ => simp only [e6] at ok4; exact ok4.elim
          | _ => simp only [e3] at ok2; exact ok2.elim
        | _ => simp only [e3] at ok2; exact ok2.elim
theorem pxt_chain {op op' : CmpOp} {p q : PyData → PyData → Option R} (ho : OpG X (compareOp op) p) (hq : OpG X (compareOp op') q) (ha : PX X W a ma) (hb : PX X W b mb) (hc : PX X W c mc)
    (hm : lastMarks [op, op'] [b, c] = false := by with_unfolding_all rfl) : PXT X W (.Compare a [op, op'] [b, c] pos) (tChain' p q ma mb mc) := fun Z F ω ρ σ H Q hK S ok =>
  wT.of (pt_chain OpR.wOp OpR.wOp PE.wE PE.wE PE.wE hm) (chain_core ho hq ha hb hc Z F ω ρ σ H Q hK S ok)
/-- a test as a value -/
def eOfT (m : M Bool) : M R := fun ρ => (m ρ).bind fun b ρ1 => .ok (.dat (.bool b)) ρ1
def eIf (t : M Bool) (ma mb : M R) : M R := fun ρ => (t ρ).bind fun b ρ1 => if b then ma ρ1 else mb ρ1
theorem px_ifExp {t : M Bool} (hc : PXT X W c t) (ha : PX X W a ma) (hb : PX X W b mb) : PX X W (.IfExp c a b pos) (eIf t ma mb) := by
  intro Z F ω ρ σ H Q hK S ok
  refine wE.of (pe_ifExp PT.wT PE.wE PE.wE) ?_
  refine hc Z F ω ρ σ H _ hK S ((Okk.bind ok).imp fun k ρ1 F1 ω1 H1 s1 S1 ok1 => ?_)
  cases k with
  | true => rw [if_pos rfl]; exact ha Z F1 ω1 ρ1 σ H1 Q hK S1 ok1
  | false => rw [if_neg (by decide)]; exact hb Z F1 ω1 ρ1 σ H1 Q hK S1 ok1
/-- not a, a and b, a or b as values (bools) -/
def eNot (m : M R) : M R := eOfT (tNot' (tOfB m))
theorem px_not (h : PX X W a ma) : PX X W (.UnaryOp .Not a pos) (eNot ma) := by
  intro Z F ω ρ σ H Q hK S ok
  refine wE.of (pe_not PE.wE) ?_
  refine tOfB_core h Z F ω ρ σ H (fun k H1 => Q (.bl (!k)) H1) hK S ?_
  exact (Okk.bind (Okk.bind ok)).imp fun b ρ1 F1 ω1 H1 s1 S1 ok1 => Okk.here S1 (Okk.here S1 ok1) _ (.bl _)
def eAnd (m n : M R) : M R := fun ρ => (tOfB m ρ).bind fun b ρ1 => if b then n ρ1 else .ok (.dat (.bool false)) ρ1
def eOr (m n : M R) : M R := fun ρ => (tOfB m ρ).bind fun b ρ1 => if b then .ok (.dat (.bool true)) ρ1 else n ρ1
theorem px_one {op} (h : PX X W a ma) : PX X W (.BoolOp op [a] pos) ma := fun Z F ω ρ σ H Q hK S ok => wE.of (pe_one PE.wE) (h Z F ω ρ σ H Q hK S ok)
theorem px_and (ha : PX X W a ma) (hb : PX X W (.BoolOp .And (b :: rest) pos) mb) : PX X W (.BoolOp .And (a :: b :: rest) pos) (eAnd ma mb) := by
  intro Z F ω ρ σ H Q hK S ok
  refine wE.of (pe_and PE.wE PE.wE) ?_
  refine tOfB_core ha Z F ω ρ σ H (fun k H1 => if k = true then wE X (.BoolOp .And (b :: rest) pos) σ H1 Q else Q (.bl false) H1) hK S ?_
  refine (Okk.bind ok).imp fun k ρ1 F1 ω1 H1 s1 S1 ok1 => ?_
  cases k with
  | true => rw [if_pos rfl]; exact hb Z F1 ω1 ρ1 σ H1 Q hK S1 ok1
  | false => rw [if_neg (by decide)]; exact Okk.here S1 ok1 _ (.bl _)
theorem px_or (ha : PX X W a ma) (hb : PX X W (.BoolOp .Or (b :: rest) pos) mb) : PX X W (.BoolOp .Or (a :: b :: rest) pos) (eOr ma mb) := by
  intro Z F ω ρ σ H Q hK S ok
  refine wE.of (pe_or PE.wE PE.wE) ?_
  refine tOfB_core ha Z F ω ρ σ H (fun k H1 => if k = true then Q (.bl true) H1 else wE X (.BoolOp .Or (b :: rest) pos) σ H1 Q) hK S ?_
  refine (Okk.bind ok).imp fun k ρ1 F1 ω1 H1 s1 S1 ok1 => ?_
  cases k with
  | true => rw [if_pos rfl]; exact Okk.here S1 ok1 _ (.bl _)
  | false => rw [if_neg (by decide)]; exact hb Z F1 ω1 ρ1 σ H1 Q hK S1 ok1
end
end PL
end

section
set_option maxRecDepth 100000
set_option maxHeartbeats 1000000
/-! PL, eighth part: statements. -/
namespace PL
open PySem L2
/-! ### changing the slots -/
def setW (ω : Addr → Option Path) (n i : Nat) : Addr → Option Path := fun a => if ω a = some (n, 0) then some (i, 0) else if ω a = some (i, 0) then none else ω a
theorem setW_new {ω : Addr → Option Path} {n i : Nat} {a : Addr} (h : ω a = some (n, 0)) : setW ω n i a = some (i, 0) := if_pos h
theorem setW_other {ω : Addr → Option Path} {n i : Nat} {a : Addr} {π : Path} (h : ω a = some π) (h1 : π ≠ (n, 0)) (h2 : π ≠ (i, 0)) : setW ω n i a = some π := by
  unfold setW
  rw [if_neg (by rw [h]; intro z; exact h1 (Option.some.inj z)), if_neg (by rw [h]; intro z; exact h2 (Option.some.inj z))]
  exact h
theorem setW_some {ω : Addr → Option Path} {n i : Nat} {a : Addr} {π : Path} (h : setW ω n i a = some π) : ∃ π', ω a = some π' := by
  unfold setW at h
  split at h
  · rename_i e; exact ⟨_, e⟩
  · split at h
    · cases h
    · exact ⟨_, h⟩
section
variable {Z : Zone} {F F' H H' : Hp} {ω : Addr → Option Path} {ρ : PEnv} {σ : St} {v : V} {sl : Slot} {p : Addr}
theorem SR.setE {i : Nat} (S : SR Z F ω ρ σ H) (hi : i < ρ.length) (h : Own Z F H ω (ρ.length, 0) v sl) : SR Z F (setW ω ρ.length i) (ρ.set i sl) (σ.set i (some v)) H := by
  refine ⟨S.sub, S.kind, S.sub0, S.newF, S.keep, S.dom, fun a π e => ?_, by simp [S.len], fun j sl' e n => ?_⟩
  · obtain ⟨π', e'⟩ := setW_some e
    exact S.own a π' e'
  · by_cases hj : j = i
    · subst hj
      rw [List.getElem?_set_self hi] at e
      cases e
      refine ⟨v, List.getElem?_set_self (by rw [← S.len]; exact hi), ?_⟩
      exact Own.mono (Sub.refl F) (fun _ _ _ e => e) (fun a e => setW_new e) h
    · rw [List.getElem?_set_ne (fun z => hj z.symm)] at e
      obtain ⟨v', h1, h2⟩ := S.slots j sl' e n
      refine ⟨v', by rw [List.getElem?_set_ne (fun z => hj z.symm)]; exact h1, ?_⟩
      have hjn := (List.getElem?_eq_some_iff.mp e).1
      exact Own.mono (Sub.refl F) (fun _ _ _ e => e) (fun a e => setW_other e (by intro z; injection z with z _; omega) (by intro z; injection z with z _; omega)) h2
theorem SR.set {i : Nat} (S : SR Z F ω ρ σ H) (hi : i < ρ.length) (h : Own Z F H ω (ρ.length, 0) v sl) : ∃ ω', SR Z F ω' (ρ.set i sl) (σ.set i (some v)) H := ⟨_, S.setE hi h⟩
theorem SR.setDat {i : Nat} {d : PyData} (S : SR Z F ω ρ σ H) (hi : i < ρ.length) (h : Rp Z.K F v d) : ∃ ω', SR Z F ω' (ρ.set i (.dat d)) (σ.set i (some v)) H := S.set hi (sl := .dat d) h
/-- a slot is forgotten -/
theorem SR.forget {i : Nat} (S : SR Z F ω ρ σ H) : SR Z F ω (ρ.set i .non) σ H :=
  ⟨S.sub, S.kind, S.sub0, S.newF, S.keep, S.dom, S.own, by simp [S.len], fun j sl' e n => by
    by_cases hj : j = i
    · subst hj
      by_cases hl : j < ρ.length
      · rw [List.getElem?_set_self hl] at e; cases e; exact absurd rfl n
      · rw [List.getElem?_eq_none (by simp; omega)] at e; cases e
    · rw [List.getElem?_set_ne (fun z => hj z.symm)] at e
      exact S.slots j sl' e n⟩
/-- a slot's own thing is changed in place -/
theorem SR.inPlace {j : Nat} {l : Addr} {o : HO} (S : SR Z F ω ρ σ H) (hj : j < ρ.length) (hω : ω l = some (j, 0)) (h0 : Z.H0 l = none) (hv : σ[j]? = some (some v)) (h : Own Z F (upd H l o) ω (j, 0) v sl) :
    SR Z F ω (ρ.set j sl) σ (upd H l o) := by
  have fl := (S.own l _ hω).1
  refine ⟨fun a u e => ?_, S.kind, S.sub0, S.newF, fun a u e b => ?_, fun a e => ?_, fun a π e => ?_, by simp [S.len], fun i sl' e n => ?_⟩
  · rw [upd_ne (fun z => by subst z; rw [fl] at e; cases e)]; exact S.sub a u e
  · rw [upd_ne (fun z => by subst z; rw [h0] at e; cases e)]; exact S.keep a u e b
  · by_cases z : a = l
    · subst z; rw [upd_same]; simp
    · rw [upd_ne z]; exact S.dom a e
  · obtain ⟨h1, h2, h3⟩ := S.own a π e
    refine ⟨h1, ?_, h3⟩
    by_cases z : a = l
    · subst z; rw [upd_same]; simp
    · rw [upd_ne z]; exact h2
  · by_cases hi : i = j
    · subst hi
      rw [List.getElem?_set_self hj] at e
      cases e
      exact ⟨v, hv, h⟩
    · rw [List.getElem?_set_ne (fun z => hi z.symm)] at e
      obtain ⟨v', h1, h2⟩ := S.slots i sl' e n
      refine ⟨v', h1, Own.mono (Sub.refl F) (fun a u e' hu => ?_) (fun _ e => e) h2⟩
      rw [upd_ne (fun z => by subst z; rw [hω] at e'; injection e' with e'; injection e' with e' _; exact hi e'.symm)]; exact hu
end
/-! ### judgements -/
inductive Fl where
  | nx
  | bk
  | ct
  | ret (r : R)
def wS (X : Cx) (st : Stmt) : TS := fun D σ H => ∀ pins s, Inv X pins σ H s → wpAny (model X.prog X.w) X.A (exec st X.env) (SP X pins D) X.xe s
theorem PS.wS {X : Cx} {st : Stmt} : PS X st (wS X st) := ⟨fun pins s σ H D I h => h pins s I⟩
theorem wS.of {X : Cx} {st : Stmt} {t : TS} {σ : St} {H : Hp} {D : Ends} (h : PS X st t) (q : t D σ H) : wS X st D σ H := fun pins s I => h.run pins s σ H D I q
def wSs (X : Cx) (st : List Stmt) : TS := fun D σ H => ∀ pins s, Inv X pins σ H s → wpAny (model X.prog X.w) X.A (execs st X.env) (SP X pins D) X.xe s
theorem PSs.wSs {X : Cx} {st : List Stmt} : PSs X st (wSs X st) := ⟨fun pins s σ H D I h => h pins s I⟩
theorem wSs.of {X : Cx} {st : List Stmt} {t : TS} {σ : St} {H : Hp} {D : Ends} (h : PSs X st t) (q : t D σ H) : wSs X st D σ H := fun pins s I => h.run pins s σ H D I q
/-- behind a statement: the flow f, the slots ρ' -/
def After (X : Cx) (Z : Zone) (F : Hp) (ρ' : PEnv) (D : Ends) : Fl → Prop
  | .nx => ∀ F' ω' σ' H', Sub F F' → SR Z F' ω' ρ' σ' H' → D.nx σ' H'
  | .bk => ∀ F' ω' σ' H', Sub F F' → SR Z F' ω' ρ' σ' H' → D.bk σ' H'
  | .ct => ∀ F' ω' σ' H', Sub F F' → SR Z F' ω' ρ' σ' H' → D.ct σ' H'
  | .ret r => ∀ v F' ω' σ' H', Sub F F' → SR Z F' ω' ρ' σ' H' → Old r ∨ True → VR Z F' ω' σ' ρ'.length H' r v → D.rt v H'
def OkS (X : Cx) (W : WX) (Z : Zone) (F : Hp) (res : Res Fl) (D : Ends) : Prop :=
  match res with
  | .ok f ρ' => After X Z F ρ' D f
  | .err x ρ' => ∀ F' ω' σ' H' c d, Sub F F' → SR Z F' ω' ρ' σ' H' → XR X x c d F' H' → W c d σ' H'
  | .bad => False
def PSX (X : Cx) (W : WX) (st : Stmt) (m : M Fl) : Prop := ∀ Z F ω ρ σ H D, Z.K = X.K → SR Z F ω ρ σ H → OkS X W Z F (m ρ) D → wS X st D σ H
def PSSX (X : Cx) (W : WX) (st : List Stmt) (m : M Fl) : Prop := ∀ Z F ω ρ σ H D, Z.K = X.K → SR Z F ω ρ σ H → OkS X W Z F (m ρ) D → wSs X st D σ H
section
variable {X : Cx} {W : WX} {Z : Zone} {F F' : Hp} {D : Ends} {e a b c : Expr} {es : List Expr} {m ma mb mc : M R} {ms : M (List R)} {pos pp pos' pos2 : Pos} {st : Stmt} {sts sts2 : List Stmt}
theorem OkS.sub {res : Res Fl} (s : Sub F F') (h : OkS X W Z F res D) : OkS X W Z F' res D := by
  cases res with
  | ok f ρ' =>
    cases f with
    | ret r => exact fun v F2 ω2 σ2 H2 s2 S2 => h v F2 ω2 σ2 H2 (s.trans s2) S2
    | _ => exact fun F2 ω2 σ2 H2 s2 S2 => h F2 ω2 σ2 H2 (s.trans s2) S2
  | err x ρ' => exact fun F2 ω2 σ2 H2 c d s2 S2 => h F2 ω2 σ2 H2 c d (s.trans s2) S2
  | bad => exact h
/-- from an expression to the statement around it -/
theorem OkS.bind {α : Type} {res : Res α} {f : α → M Fl} {σ : St} (h : OkS X W Z F (res.bind f) D) : Okk X W Z σ F res (fun a ρ' F' _ _ => OkS X W Z F' (f a ρ') D) := by
  cases res with
  | ok a ρ' => exact fun F2 ω2 H2 s2 S2 => OkS.sub s2 h
  | err x ρ' => exact fun F2 ω2 H2 c d s2 S2 => h F2 ω2 σ H2 c d s2 S2
  | bad => exact h
def sNil : M Fl := fun ρ => .ok .nx ρ
def sSeq (m n : M Fl) : M Fl := fun ρ => match m ρ with
  | .ok .nx ρ' => n ρ'
  | r => r
theorem pss_nil' : PSSX X W [] sNil := fun Z F ω ρ σ H D hK S ok => wSs.of pss_nil (ok F ω σ H (Sub.refl F) S)
theorem pss_cons' {m n : M Fl} (h1 : PSX X W st m) (h2 : PSSX X W sts n) : PSSX X W (st :: sts) (sSeq m n) := by
  intro Z F ω ρ σ H D hK S ok
  refine wSs.of (pss_cons PS.wS PSs.wSs) ?_
  refine h1 Z F ω ρ σ H _ hK S ?_
  unfold sSeq at ok
  cases h : m ρ with
  | ok f ρ' =>
    rw [h] at ok
    cases f with
    | nx => exact fun F' ω' σ' H' s S' => h2 Z F' ω' ρ' σ' H' D hK S' (OkS.sub s ok)
    | bk => exact ok
    | ct => exact ok
    | ret r => exact ok
  | err x ρ' => rw [h] at ok; exact ok
  | bad => rw [h] at ok; exact ok
theorem pss_one' {m : M Fl} (h1 : PSX X W st m) : PSSX X W [st] m := fun Z F ω ρ σ H D hK S ok => wSs.of (pss_one PS.wS) (h1 Z F ω ρ σ H D hK S ok)
/-! ### small statements -/
theorem ps_pass' : PSX X W (.Pass pos) sNil := fun Z F ω ρ σ H D hK S ok => wS.of ps_pass (ok F ω σ H (Sub.refl F) S)
def sBreak : M Fl := fun ρ => .ok .bk ρ
theorem ps_break' : PSX X W (.Break pos) sBreak := fun Z F ω ρ σ H D hK S ok => wS.of ps_break (ok F ω σ H (Sub.refl F) S)
def sCont : M Fl := fun ρ => .ok .ct ρ
theorem ps_cont' : PSX X W (.Continue pos) sCont := fun Z F ω ρ σ H D hK S ok => wS.of ps_continue (ok F ω σ H (Sub.refl F) S)
/-- what a result hands back: data, or a thing of its own -/
def outR (ρ : PEnv) : R → Res Fl
  | .dat d => .ok (.ret (.dat d)) ρ
  | .new sl => .ok (.ret (.new sl)) ρ
  | .slot i => match ρ[i]? with
    | some (.dat d) => .ok (.ret (.dat d)) ρ
    | some (.lst xs) => .ok (.ret (.new (.lst xs))) (ρ.set i .non)
    | some (.dK xs) => .ok (.ret (.new (.dK xs))) (ρ.set i .non)
    | some (.dT xs) => .ok (.ret (.new (.dT xs))) (ρ.set i .non)
    | some (.nst xs) => .ok (.ret (.new (.nst xs))) (ρ.set i .non)
    | _ => .bad
def sRet (m : M R) : M Fl := fun ρ => (m ρ).bind fun r ρ1 => outR ρ1 r
def moveW (ω : Addr → Option Path) (i n : Nat) : Addr → Option Path := fun a => if ω a = some (i, 0) then some (n, 0) else ω a
theorem SR.move {ω : Addr → Option Path} {ρ : PEnv} {σ : St} {H : Hp} {i : Nat} (S : SR Z F ω ρ σ H) : SR Z F (moveW ω i ρ.length) (ρ.set i .non) σ H := by
  have S1 := S.forget (i := i)
  refine ⟨S1.sub, S1.kind, S1.sub0, S1.newF, S1.keep, S1.dom, fun a π e => ?_, S1.len, fun j sl e n => ?_⟩
  · unfold moveW at e
    split at e
    · rename_i e'; exact S.own a _ e'
    · exact S.own a _ e
  · obtain ⟨v, h1, h2⟩ := S1.slots j sl e n
    refine ⟨v, h1, Own.mono (Sub.refl F) (fun _ _ _ e => e) (fun a e' => ?_) h2⟩
    unfold moveW
    rw [if_neg (by
      rw [e']
      intro z
      injection z with z
      injection z with z _
      subst z
      have hj := (List.getElem?_eq_some_iff.mp e).1
      rw [List.getElem?_set_self (by simpa using hj)] at e
      cases e
      exact n rfl)]
    exact e'
theorem outR_ok {ω : Addr → Option Path} {ρ : PEnv} {σ : St} {H : Hp} {r : R} {v : V} (S : SR Z F ω ρ σ H) (hv : VR Z F ω σ ρ.length H r v) (ok : OkS X W Z F (outR ρ r) D) : D.rt v H := by
  cases r with
  | dat d => exact ok v F ω σ H (Sub.refl F) S (.inr trivial) hv
  | new sl => exact ok v F ω σ H (Sub.refl F) S (.inr trivial) hv
  | slot i =>
    obtain ⟨hi, hvi⟩ := hv
    cases hs : ρ[i]? with
    | none => simp only [outR, hs] at ok; exact ok.elim
    | some s =>
      simp only [outR, hs] at ok
      have own : s ≠ .non → Own Z F H ω (i, 0) v s := fun n => by
        obtain ⟨v', h1, h2⟩ := S.slots i s hs n
        rw [hvi] at h1; cases h1
        exact h2
      have mv : ∀ sl, Own Z F H ω (i, 0) v sl → VR Z F (moveW ω i ρ.length) σ (ρ.set i .non).length H (.new sl) v := fun sl h => by
        show Own _ _ _ _ _ _ _
        rw [List.length_set]
        exact Own.mono (Sub.refl F) (fun _ _ _ e => e) (fun a e => by unfold moveW; rw [if_pos e]) h
      cases s with
      | dat d => exact ok v F ω σ H (Sub.refl F) S (.inr trivial) (own (by simp))
      | lst xs => exact ok v F _ σ H (Sub.refl F) S.move (.inr trivial) (mv _ (own (by simp)))
      | dK xs => exact ok v F _ σ H (Sub.refl F) S.move (.inr trivial) (mv _ (own (by simp)))
      | dT xs => exact ok v F _ σ H (Sub.refl F) S.move (.inr trivial) (mv _ (own (by simp)))
      | nst xs => exact ok v F _ σ H (Sub.refl F) S.move (.inr trivial) (mv _ (own (by simp)))
      | _ => exact ok.elim
theorem ps_ret' (h : PX X W e m) : PSX X W (.Return (some e) pos) (sRet m) := by
  intro Z F ω ρ σ H D hK S ok
  refine wS.of (ps_ret PE.wE) ?_
  exact h Z F ω ρ σ H _ hK S ((OkS.bind ok).imp fun r ρ1 F1 ω1 H1 s1 S1 ok1 v hv => outR_ok S1 hv ok1)
def sRetN : M Fl := fun ρ => .ok (.ret (.dat .none)) ρ
theorem ps_retN' : PSX X W (.Return none pos) sRetN := fun Z F ω ρ σ H D hK S ok => wS.of ps_retN (ok _ F ω σ H (Sub.refl F) S (.inr trivial) .non)
def sDrop (m : M R) : M Fl := fun ρ => (opd m ρ).bind fun _ ρ1 => .ok .nx ρ1
theorem ps_expr' (h : PX X W e m) (hs : swapsWith e none pos.line X.env = pure false := by rfl) : PSX X W (.Expr e pos) (sDrop m) := by
  intro Z F ω ρ σ H D hK S ok
  refine wS.of (ps_expr PE.wE hs) ?_
  exact h.opd Z F ω ρ σ H _ hK S ((OkS.bind ok).imp fun r ρ1 F1 ω1 H1 s1 S1 ok1 v _ _ => ok1 _ _ _ _ (Sub.refl _) S1)
/-- what a slot holds of a result -/
def inS' (ρ : PEnv) : R → Option Slot
  | .dat d => some (.dat d)
  | .new sl => some sl
  | .slot j => match ρ[j]? with
    | some (.dat d) => some (.dat d)
    | some (.bor xs) => some (.bor xs)
    | some (.borK xs) => some (.borK xs)
    | some (.borT xs) => some (.borT xs)
    | some (.scr ns) => some (.scr ns)
    | _ => none
theorem inS_ok {ω : Addr → Option Path} {ρ : PEnv} {σ : St} {H : Hp} {r : R} {v : V} {sl : Slot} (S : SR Z F ω ρ σ H) (hv : VR Z F ω σ ρ.length H r v) (h : inS' ρ r = some sl) : Own Z F H ω (ρ.length, 0) v sl := by
  cases r with
  | dat d => cases h; exact hv
  | new sl => cases h; exact hv
  | slot j =>
    obtain ⟨hi, hvi⟩ := hv
    cases hs : ρ[j]? with
    | none => simp only [inS', hs] at h; cases h
    | some s =>
      simp only [inS', hs] at h
      have own : s ≠ .non → Own Z F H ω (j, 0) v s := fun n => by
        obtain ⟨v', h1, h2⟩ := S.slots j s hs n
        rw [hvi] at h1; cases h1
        exact h2
      cases s <;> first | (cases h; exact own (by simp)) | cases h
def sAsg (i : Nat) (m : M R) : M Fl := fun ρ => (m ρ).bind fun r ρ1 => match inS' ρ1 r with
  | some sl => if i < ρ1.length then .ok .nx (ρ1.set i sl) else .bad
  | none => .bad
theorem ps_asg' {i : Nat} {x : Str} (hN : X.N.Nodup) (h : PX X W e m) (hi : X.N[i]? = some x := by rfl) (hx : Loc X.env.scope x := by first | exact Or.inl rfl | exact Or.inr rfl) (hs : swapsWith e (some (.Name x pos')) pos.line X.env = pure false := by rfl)
    (hf : X.fn x = true ∨ X.env.scope.names.lookup x = some .local := by first | exact .inl rfl | exact .inr rfl | assumption) : PSX X W (.Assign [.Name x pos'] e pos) (sAsg i m) := by
  intro Z F ω ρ σ H D hK S ok
  refine wS.of (ps_set hN hi hx PE.wE hs hf) ?_
  refine h Z F ω ρ σ H _ hK S ((OkS.bind ok).imp fun r ρ1 F1 ω1 H1 s1 S1 ok1 v hv => ?_)
  show D.nx _ _
  cases hsl : inS' ρ1 r with
  | none => simp only [hsl] at ok1; exact ok1.elim
  | some sl =>
    simp only [hsl] at ok1
    split at ok1
    · rename_i hl
      obtain ⟨ω', S2⟩ := S1.set hl (inS_ok S1 hv hsl)
      exact ok1 _ _ _ _ (Sub.refl _) S2
    · exact ok1.elim
/-! ### if -/
def sIf (t : M Bool) (m n : M Fl) : M Fl := fun ρ => (t ρ).bind fun b ρ1 => if b then m ρ1 else n ρ1
theorem ps_if' {t : M Bool} {m n : M Fl} (ht : PXT X W c t) (h1 : PSSX X W sts m) (h2 : PSSX X W sts2 n) : PSX X W (.If c sts sts2 pos) (sIf t m n) := by
  intro Z F ω ρ σ H D hK S ok
  refine wS.of (ps_if PT.wT PSs.wSs PSs.wSs) ?_
  refine ht Z F ω ρ σ H _ hK S ((OkS.bind ok).imp fun k ρ1 F1 ω1 H1 s1 S1 ok1 => ?_)
  cases k with
  | true => rw [if_pos rfl]; exact h1 Z F1 ω1 ρ1 σ H1 D hK S1 ok1
  | false => rw [if_neg (by decide)]; exact h2 Z F1 ω1 ρ1 σ H1 D hK S1 ok1
/-! ### while -/
def whN (t : M Bool) (m : M Fl) : Nat → M Fl
  | 0 => fun _ => .bad
  | n + 1 => fun ρ => (t ρ).bind fun b ρ1 => if b then (match m ρ1 with
    | .ok .nx ρ2 => whN t m n ρ2
    | .ok .ct ρ2 => whN t m n ρ2
    | .ok .bk ρ2 => .ok .nx ρ2
    | r => r) else .ok .nx ρ1
/-- what the loop does, if it comes to an end -/
noncomputable def sWhile (t : M Bool) (m : M Fl) : M Fl := fun ρ => open Classical in if h : ∃ n, whN t m n ρ ≠ .bad then whN t m h.choose ρ else .bad
theorem ps_while' {t : M Bool} {m : M Fl} (hp : PassesOwn (model X.prog X.w) X.A X.env X.xe) (ht : PXT X W c t) (h1 : PSSX X W sts m) : PSX X W (.While c sts [] pos) (sWhile t m) := by
  intro Z F ω ρ σ H D hK S ok
  refine wS.of (ps_while hp PT.wT PSs.wSs) ?_
  unfold sWhile at ok
  split at ok
  · rename_i hn
    refine ⟨fun n σ H => ∃ F' ω' ρ', Sub F F' ∧ SR Z F' ω' ρ' σ H ∧ OkS X W Z F' (whN t m n ρ') D, ⟨_, F, ω, ρ, Sub.refl F, S, ok⟩, ?_⟩
    rintro n σ H ⟨F1, ω1, ρ1, s1, S1, ok1⟩
    cases n with
    | zero => exact ok1.elim
    | succ n =>
      refine ht Z F1 ω1 ρ1 σ H _ hK S1 ((OkS.bind ok1).imp fun k ρ2 F2 ω2 H2 s2 S2 ok2 => ?_)
      cases k with
      | false => rw [if_neg (by decide)]; exact ok2 F2 ω2 σ H2 (Sub.refl _) S2
      | true =>
        rw [if_pos rfl]
        refine ⟨fun σ H => ∃ F' ω' ρ', Sub F F' ∧ SR Z F' ω' ρ' σ H ∧ OkS X W Z F' (whN t m n ρ') D, fun σ' H' h => ⟨n, Nat.lt_succ_self n, h⟩, ?_⟩
        refine h1 Z F2 ω2 ρ2 σ H2 _ hK S2 ?_
        have ok3 : OkS X W Z F2 (match m ρ2 with
          | .ok .nx ρ2 => whN t m n ρ2
          | .ok .ct ρ2 => whN t m n ρ2
          | .ok .bk ρ2 => .ok .nx ρ2
          | r => r) D := ok2
        cases hm : m ρ2 with
        | ok f ρ3 =>
          rw [hm] at ok3
          cases f with
          | nx => exact fun F' ω' σ' H' s' S' => ⟨F', ω', ρ3, (s1.trans s2).trans s', S', OkS.sub s' ok3⟩
          | ct => exact fun F' ω' σ' H' s' S' => ⟨F', ω', ρ3, (s1.trans s2).trans s', S', OkS.sub s' ok3⟩
          | bk => exact fun F' ω' σ' H' s' S' => ok3 F' ω' σ' H' s' S'
          | ret r => exact ok3
        | err x ρ3 => rw [hm] at ok3; exact ok3
        | bad => rw [hm] at ok3; exact ok3.elim
  · exact ok.elim
end
end PL
end

section
set_option maxRecDepth 100000
set_option maxHeartbeats 1000000
/-! PL, ninth part: targets, for. -/
namespace PL
open PySem L2
/-- a target takes data -/
def Diff (is : List Nat) (σ σ' : St) : Prop := σ'.length = σ.length ∧ ∀ j, j ∉ is → σ'[j]? = σ[j]?
def PGX (X : Cx) (tg : Expr) (is : List Nat) (g : PyData → PEnv → Option PEnv) : Prop :=
  ∃ t, PG X tg t ∧ ∀ Z F ω ρ σ H v d Q, Z.K = X.K → SR Z F ω ρ σ H → Rp Z.K F v d → (match g d ρ with
    | some ρ' => ∀ ω' σ', SR Z F ω' ρ' σ' H → Diff is σ σ' → Q σ' H
    | none => False) → t v σ H Q
def PGsX (X : Cx) (tgs : List Expr) (is : List Nat) (g : List PyData → PEnv → Option PEnv) : Prop :=
  ∃ t, PGs X tgs t ∧ ∀ Z F ω ρ σ H vs ds Q, Z.K = X.K → SR Z F ω ρ σ H → RpAll Z.K F vs ds → (match g ds ρ with
    | some ρ' => ∀ ω' σ', SR Z F ω' ρ' σ' H → Diff is σ σ' → Q σ' H
    | none => False) → t vs σ H Q
theorem Diff.refl (is : List Nat) (σ : St) : Diff is σ σ := ⟨rfl, fun _ _ => rfl⟩
theorem Diff.trans {is js : List Nat} {σ σ' σ'' : St} (a : Diff is σ σ') (b : Diff js σ' σ'') : Diff (is ++ js) σ σ'' := ⟨b.1.trans a.1, fun j h => by
  rw [List.mem_append, not_or] at h
  exact (b.2 j h.2).trans (a.2 j h.1)⟩
def gN (i : Nat) : PyData → PEnv → Option PEnv := fun d ρ => if i < ρ.length then some (ρ.set i (.dat d)) else none
def gsNil : List PyData → PEnv → Option PEnv
  | [], ρ => some ρ
  | _, _ => none
def gsCons (g : PyData → PEnv → Option PEnv) (gs : List PyData → PEnv → Option PEnv) : List PyData → PEnv → Option PEnv
  | d :: ds, ρ => match g d ρ with
    | some ρ1 => gs ds ρ1
    | none => none
  | [], _ => none
def gT (n : Nat) (gs : List PyData → PEnv → Option PEnv) : PyData → PEnv → Option PEnv
  | .tuple ds, ρ => if ds.length = n then gs ds ρ else none
  | _, _ => none
section
variable {X : Cx} {W : WX} {e a b c tg : Expr} {es : List Expr} {m ma mb mc : M R} {ms : M (List R)} {pos pp pos' pos2 : Pos} {sts : List Stmt}
theorem pgx_name {i : Nat} {x : Str} (hN : X.N.Nodup) (hi : X.N[i]? = some x := by rfl) (hx : Loc X.env.scope x := by first | exact Or.inl rfl | exact Or.inr rfl) (hf : X.fn x = true ∨ X.env.scope.names.lookup x = some .local := by first | exact .inl rfl | exact .inr rfl | assumption) :
    PGX X (.Name x pos) [i] (gN i) := by
  refine ⟨_, pg_name hN hi hx hf, fun Z F ω ρ σ H v d Q hK S r h => ?_⟩
  unfold gN at h
  split at h
  · rename_i ρ' e
    split at e
    · rename_i hl
      cases e
      obtain ⟨ω', S'⟩ := S.setDat hl r
      exact h _ _ S' ⟨List.length_set .., fun j hj => List.getElem?_set_ne (fun z => hj (by simp [z]))⟩
    · cases e
  · exact h.elim
theorem pgsx_nil : PGsX X [] [] gsNil := by
  refine ⟨_, pgs_nil, fun Z F ω ρ σ H vs ds Q hK S r h => ?_⟩
  cases r with
  | nil => exact ⟨rfl, h ω σ S (Diff.refl _ _)⟩
  | cons _ _ => exact h.elim
theorem pgsx_cons {g : PyData → PEnv → Option PEnv} {gs : List PyData → PEnv → Option PEnv} {is js : List Nat} (h1 : PGX X e is g) (h2 : PGsX X es js gs)
    (hs : (assignEach (e :: es) X.env).map (·.2) = assign e X.env :: (assignEach es X.env).map (·.2) := by rfl) : PGsX X (e :: es) (is ++ js) (gsCons g gs) := by
  obtain ⟨t, p1, k1⟩ := h1
  obtain ⟨u, p2, k2⟩ := h2
  refine ⟨_, pgs_cons p1 p2 hs, fun Z F ω ρ σ H vs ds Q hK S r h => ?_⟩
  cases r with
  | nil => exact h.elim
  | cons r rs =>
    refine ⟨_, _, rfl, k1 Z F ω ρ σ H _ _ _ hK S r ?_⟩
    unfold gsCons at h
    cases hg : g (by assumption) ρ with
    | none => simp only [hg] at h
    | some ρ1 =>
      simp only [hg] at h
      intro ω' σ' S' d1
      refine k2 Z F ω' ρ1 σ' H _ _ Q hK S' rs ?_
      cases hgs : gs (by assumption) ρ1 with
      | none => rw [hgs] at h; exact h
      | some ρ2 => rw [hgs] at h; exact fun ω2 σ2 S2 d2 => h ω2 σ2 S2 (d1.trans d2)
theorem pgx_tup {k n : Nat} {gs : List PyData → PEnv → Option PEnv} {is : List Nat} (hc : X.calm = true) (h : PGsX X es is gs)
    (hn : (assignEach es X.env).length = n := by rfl) (hst : (assignEach es X.env).findIdx? (·.1) = none := by rfl) : PGX X (.Tuple es k pos) is (gT n gs) := by
  obtain ⟨t, p1, k1⟩ := h
  refine ⟨_, pg_tup hc p1 hn hst, fun Z F ω ρ σ H v d Q hK S r h => ?_⟩
  unfold gT at h
  split at h
  · rename_i ρ' e
    split at e
    · split at e
      · rename_i ds hl
        cases r with
        | tup hF hr =>
          refine ⟨_, _, rfl, SqT.of (S.sub _ _ hF), by rw [hr.length]; exact hl, k1 Z F ω ρ σ H _ _ Q hK S hr ?_⟩
          rw [e]
          exact h
      · cases e
    · cases e
  · exact h.elim
/-- a, b = e -/
def sAsgT (g : PyData → PEnv → Option PEnv) (m : M R) : M Fl := fun ρ => (opd m ρ).bind fun r ρ1 => match keepR ρ1 r with
  | some d => match g d ρ1 with
    | some ρ2 => .ok .nx ρ2
    | none => .bad
  | none => .bad
theorem ps_asgT {g : PyData → PEnv → Option PEnv} {is : List Nat} (h : PX X W e m) (hg : PGX X tg is g) (hs : swapsWithSole [tg] e pos.line X.env = pure false := by rfl) (hw : swappedStores [tg] e X.env = pure none := by rfl)
    (h1 : (assignEach [tg] X.env).map (·.2) = [assign tg X.env] := by rfl) : PSX X W (.Assign [tg] e pos) (sAsgT g m) := by
  obtain ⟨t, pg, kg⟩ := hg
  intro Z F ω ρ σ H D hK S ok
  refine wS.of (ps_asg PE.wE pg hs hw h1) ?_
  refine h.opd Z F ω ρ σ H _ hK S ((OkS.bind ok).imp fun r ρ1 F1 ω1 H1 s1 S1 ok1 v _ hv => ?_)
  cases hk : keepR ρ1 r with
  | none => simp only [hk] at ok1; exact ok1.elim
  | some d =>
    simp only [hk] at ok1
    refine kg Z F1 ω1 ρ1 σ H1 v d _ hK S1 (S1.kept hv hk) ?_
    cases hg : g d ρ1 with
    | none => simp only [hg] at ok1; exact ok1.elim
    | some ρ2 =>
      simp only [hg] at ok1
      exact fun ω' σ' S' _ => ok1 F1 ω' σ' H1 (Sub.refl _) S'

/-! ### what is walked -/
def wI (X : Cx) (tg iter : Expr) : TI := fun σ H R => ∀ pins s, Inv X pins σ H s → wpAny (model X.prog X.w) X.A (eval iter X.env) (fun v s1 => wpAny (model X.prog X.w) X.A (pyIter v) (PIE X pins σ tg R) X.xe s1) X.xe s
theorem PI.wI {X : Cx} {tg iter : Expr} : PI X tg iter (wI X tg iter) := ⟨fun pins s σ H R I h => h pins s I⟩
theorem wI.of {X : Cx} {tg iter : Expr} {t : TI} {σ : St} {H : Hp} {R : It → Hp → Prop} (h : PI X tg iter t) (q : t σ H R) : wI X tg iter σ H R := fun pins s I => h.run pins s σ H R I q
/-- J walks the data ds, whatever comes -/
def ItG (Z : Zone) (F' : Hp) (ds : List PyData) (J : It) : Prop := ∀ F ω ρ σ H i, Sub F' F → SR Z F ω ρ σ H →
  (i < ds.length → J.go i H ∧ ∀ x H3, J.yld i H x H3 → H3 = H ∧ ∃ d, ds[i]? = some d ∧ Rp Z.K F x d) ∧ (ds.length ≤ i → J.stop i H)
def PIX (X : Cx) (W : WX) (tg iter : Expr) (mi : M (List PyData)) : Prop :=
  ∀ Z F ω ρ σ H Rr, Z.K = X.K → SR Z F ω ρ σ H → Okk X W Z σ F (mi ρ) (fun ds ρ' F' ω' H' => ∀ J, ItG Z F' ds J → Rr J H') → wI X tg iter σ H Rr
theorem ItG.list {Z : Zone} {F' : Hp} {ds : List PyData} {K : PySem.W.Frag} {a : Addr} {vs : List V} (hH : ∀ F ω ρ σ H, Sub F' F → SR Z F ω ρ σ H → SqL K H a vs) (uniq : ∀ H xs, SqL K H a vs → SqL K H a xs → xs = vs ∨ True) (r : RpAll Z.K F' vs ds) : ItG Z F' ds (Itl K a) := by
  intro F ω ρ σ H i s S
  have h := hH F ω ρ σ H s S
  refine ⟨fun hi => ?_, fun hi => ⟨vs, h, by rw [r.length]; exact hi⟩⟩
  obtain ⟨d, hd⟩ : ∃ d, ds[i]? = some d := ⟨ds[i], List.getElem?_eq_getElem hi⟩
  obtain ⟨v, hv, hr⟩ := r.get hd
  refine ⟨⟨vs, v, h, hv⟩, fun x H3 hy => ?_⟩
  obtain ⟨e, hy⟩ := hy
  subst e
  have := hy vs h
  rw [hv] at this
  cases this
  exact ⟨rfl, d, hd, hr.mono s⟩
theorem ItG.tup {Z : Zone} {F' : Hp} {ds : List PyData} {K : PySem.W.Frag} {a : Addr} {vs : List V} (hH : ∀ F ω ρ σ H, Sub F' F → SR Z F ω ρ σ H → SqT K H a vs) (r : RpAll Z.K F' vs ds) : ItG Z F' ds (Itt K a) := by
  intro F ω ρ σ H i s S
  have h := hH F ω ρ σ H s S
  refine ⟨fun hi => ?_, fun hi => ⟨vs, h, by rw [r.length]; exact hi⟩⟩
  obtain ⟨d, hd⟩ : ∃ d, ds[i]? = some d := ⟨ds[i], List.getElem?_eq_getElem hi⟩
  obtain ⟨v, hv, hr⟩ := r.get hd
  refine ⟨⟨vs, v, h, hv⟩, fun x H3 hy => ?_⟩
  obtain ⟨e, hy⟩ := hy
  subst e
  have := hy vs h
  rw [hv] at this
  cases this
  exact ⟨rfl, d, hd, hr.mono s⟩
theorem ItG.range {Z : Zone} {F' : Hp} {lo : Int} {n : Nat} : ItG Z F' ((List.range n).map fun k : Nat => PyData.int (lo + k)) (Itr lo n) := by
  intro F ω ρ σ H i s S
  simp only [List.length_map, List.length_range]
  refine ⟨fun hi => ⟨hi, fun x H3 hy => ?_⟩, fun hi => hi⟩
  obtain ⟨e, e2⟩ := hy
  subst e2
  refine ⟨e, _, by rw [List.getElem?_map, List.getElem?_range hi]; rfl, .int _⟩
theorem ItG.rangeC {Z : Zone} {F' : Hp} {lo c : Int} {n : Nat} : ItG Z F' ((List.range n).map fun k : Nat => PyData.int (lo + (k : Nat) * c)) (Itc lo c n) := by
  intro F ω ρ σ H i s S
  simp only [List.length_map, List.length_range]
  refine ⟨fun hi => ⟨hi, fun x H3 hy => ?_⟩, fun hi => hi⟩
  obtain ⟨e, e2⟩ := hy
  subst e2
  refine ⟨e, _, by rw [List.getElem?_map, List.getElem?_range hi]; rfl, .int _⟩
/-- the items of a list, a tuple; a list of a slot's own is frozen -/
def itemsOf (ρ : PEnv) : R → Option (List PyData × PEnv)
  | .dat (.list ds) => some (ds, ρ)
  | .dat (.tuple ds) => some (ds, ρ)
  | .dat _ => none
  | .slot j => match ρ[j]? with
    | some (.dat (.list ds)) => some (ds, ρ)
    | some (.dat (.tuple ds)) => some (ds, ρ)
    | some (.bor ds) => some (ds, ρ)
    | some (.lst ds) => some (ds, ρ.set j (.dat (.list ds)))
    | _ => none
  | .new _ => none
def iSeq (m : M R) : M (List PyData) := fun ρ => (opd m ρ).bind fun r ρ1 => match itemsOf ρ1 r with
  | some (ds, ρ2) => .ok ds ρ2
  | none => .bad
/-- a slot's own list is frozen -/
theorem SR.frzSlot {Z : Zone} {F H : Hp} {ω : Addr → Option Path} {ρ : PEnv} {σ : St} {j : Nat} {xs : List PyData} (S : SR Z F ω ρ σ H) (hs : ρ[j]? = some (.lst xs)) :
    ∃ F' ω' l vs, Sub F F' ∧ SR Z F' ω' (ρ.set j (.dat (.list xs))) σ H ∧ σ[j]? = some (some (.ref l)) ∧ F' l = some (.lst vs) ∧ RpAll Z.K F' vs xs := by
  have hj := (List.getElem?_eq_some_iff.mp hs).1
  obtain ⟨v, hv, l, vs, rfl, hω, h0, hl, hr⟩ := S.slots j _ hs (by simp)
  have S1 := S.forget (i := j)
  obtain ⟨S2, s⟩ := S1.frzAt hl trivial hω h0 fun i sl e n z => by
    injection z with z _
    subst z
    rw [List.getElem?_set_self hj] at e
    cases e
    exact n rfl
  refine ⟨_, dropW ω (j, 0), l, vs, s, ?_, hv, upd_same, hr.mono s⟩
  refine ⟨S2.sub, S2.kind, S2.sub0, S2.newF, S2.keep, S2.dom, S2.own, by simpa using S2.len, fun i sl e n => ?_⟩
  by_cases hi : i = j
  · subst hi
    rw [List.getElem?_set_self hj] at e
    cases e
    exact ⟨_, hv, .lst upd_same (hr.mono s)⟩
  · rw [List.getElem?_set_ne (fun z => hi z.symm)] at e
    exact S2.slots i sl (by rw [List.getElem?_set_ne (fun z => hi z.symm)]; exact e) n
theorem pix_seq (h : PX X W e m) : PIX X W tg e (iSeq m) := by
  intro Z F ω ρ σ H Rr hK S ok
  -- what the expression gives is known ahead
  cases hm : opd m ρ with
  | bad => unfold iSeq at ok; rw [hm] at ok; exact ok.elim
  | err x ρ1 =>
    unfold iSeq at ok
    rw [hm] at ok
    refine wI.of (pi_list PE.wE) ?_
    refine h.opd Z F ω ρ σ H _ hK S ?_
    rw [hm]
    exact ok
  | ok r ρ1 =>
    unfold iSeq at ok
    rw [hm] at ok
    have ok0 : Okk X W Z σ F (match itemsOf ρ1 r with | some (ds, ρ2) => Res.ok ds ρ2 | none => Res.bad) (fun ds ρ' F' ω' H' => ∀ J, ItG Z F' ds J → Rr J H') := ok
    have lst : ∀ (ds : List PyData) (ρ2 : PEnv), itemsOf ρ1 r = some (ds, ρ2) → (∀ F1 ω1 H1 v, Sub F F1 → SR Z F1 ω1 ρ1 σ H1 → VR Z F1 ω1 σ ρ1.length H1 r v →
        ∃ F2 ω2 l vs, v = .ref l ∧ Sub F1 F2 ∧ SR Z F2 ω2 ρ2 σ H1 ∧ RpAll Z.K F2 vs ds ∧ ∀ F ω ρ σ H, Sub F2 F → SR Z F ω ρ σ H → H l = some (.lst vs)) → wI X tg e σ H Rr := fun ds ρ2 hi key => by
      rw [hi] at ok0
      refine wI.of (pi_list PE.wE) ?_
      refine h.opd Z F ω ρ σ H _ hK S ?_
      rw [hm]
      intro F1 ω1 H1 s1 S1 v _ hv
      obtain ⟨F2, ω2, l, vs, rfl, s2, S2, hr, per⟩ := key F1 ω1 H1 v s1 S1 hv
      refine ⟨l, rfl, ⟨vs, SqL.of (per F2 ω2 _ σ H1 (Sub.refl _) S2)⟩, ?_⟩
      exact ok0 F2 ω2 H1 (s1.trans s2) S2 _ (ItG.list (fun F ω ρ σ H s S => SqL.of (per F ω ρ σ H s S)) (fun _ _ _ _ => .inr trivial) hr)
    have tup : ∀ (ds : List PyData), itemsOf ρ1 r = some (ds, ρ1) → (∀ F1 ω1 H1 v, Sub F F1 → SR Z F1 ω1 ρ1 σ H1 → VR Z F1 ω1 σ ρ1.length H1 r v → Rp Z.K F1 v (.tuple ds)) → wI X tg e σ H Rr := fun ds hi key => by
      rw [hi] at ok0
      refine wI.of (pi_tup PE.wE) ?_
      refine h.opd Z F ω ρ σ H _ hK S ?_
      rw [hm]
      intro F1 ω1 H1 s1 S1 v _ hv
      have hr := key F1 ω1 H1 v s1 S1 hv
      cases hr with
      | tup hF hr =>
        refine ⟨_, rfl, ⟨_, SqT.of (S1.sub _ _ hF)⟩, ?_⟩
        exact ok0 F1 ω1 H1 s1 S1 _ (ItG.tup (fun F ω ρ σ H s S => SqT.of (S.sub _ _ (s _ _ hF))) hr)
    have frz : ∀ (ds : List PyData), itemsOf ρ1 r = some (ds, ρ1) → (∀ F1 ω1 H1 v, Sub F F1 → SR Z F1 ω1 ρ1 σ H1 → VR Z F1 ω1 σ ρ1.length H1 r v → Rp Z.K F1 v (.list ds)) → wI X tg e σ H Rr := fun ds hi key =>
      lst ds ρ1 hi fun F1 ω1 H1 v s1 S1 hv => by
        have hr := key F1 ω1 H1 v s1 S1 hv
        cases hr with
        | lst hF hr => exact ⟨F1, ω1, _, _, rfl, Sub.refl _, S1, hr, fun F ω ρ σ H s S => S.sub _ _ (s _ _ hF)⟩
    cases r with
    | new sl => exact ok0.elim
    | dat d =>
      cases d with
      | list ds => exact frz ds rfl fun F1 ω1 H1 v s1 S1 hv => hv
      | tuple ds => exact tup ds rfl fun F1 ω1 H1 v s1 S1 hv => hv
      | _ => exact ok0.elim
    | slot j =>
      cases hs : ρ1[j]? with
      | none => simp only [itemsOf, hs] at ok0; exact ok0.elim
      | some s =>
        have dat : ∀ d F1 ω1 H1 v, ρ1[j]? = some (.dat d) → SR Z F1 ω1 ρ1 σ H1 → VR Z F1 ω1 σ ρ1.length H1 (.slot j) v → Rp Z.K F1 v d := fun d F1 ω1 H1 v e S1 hv => by
          obtain ⟨v', h1, h2⟩ := S1.slots j _ e (by simp)
          rw [hv.2] at h1; cases h1
          exact h2
        cases s with
        | dat d =>
          cases d with
          | list ds => exact frz ds (by simp only [itemsOf, hs]) fun F1 ω1 H1 v s1 S1 hv => dat _ F1 ω1 H1 v hs S1 hv
          | tuple ds => exact tup ds (by simp only [itemsOf, hs]) fun F1 ω1 H1 v s1 S1 hv => dat _ F1 ω1 H1 v hs S1 hv
          | _ => simp only [itemsOf, hs] at ok0; exact ok0.elim
        | bor ds =>
          refine lst ds ρ1 (by simp only [itemsOf, hs]) fun F1 ω1 H1 v s1 S1 hv => ?_
          obtain ⟨v', h1, l, vs, rfl, h0, hB, hr⟩ := S1.slots j _ hs (by simp)
          rw [hv.2] at h1; cases h1
          exact ⟨F1, ω1, l, vs, rfl, Sub.refl _, S1, hr, fun F ω ρ σ H s S => S.keep _ _ h0 hB⟩
        | lst ds =>
          refine lst ds (ρ1.set j (.dat (.list ds))) (by simp only [itemsOf, hs]) fun F1 ω1 H1 v s1 S1 hv => ?_
          obtain ⟨F2, ω2, l, vs, s2, S2, h1, hF, hr⟩ := S1.frzSlot hs
          rw [hv.2] at h1; cases h1
          exact ⟨F2, ω2, l, vs, rfl, s2, S2, hr, fun F ω ρ σ H s S => S.sub _ _ (s _ _ hF)⟩
        | _ => simp only [itemsOf, hs] at ok0; exact ok0.elim
/-- ints of operands -/
def ints1 (ms : M (List R)) : M (List Int) := fun ρ => (ms ρ).bind fun rs ρ1 => match keepRs ρ1 rs with
  | some ds => match intsOf ds with
    | some ns => .ok ns ρ1
    | none => .bad
  | none => .bad
theorem ints1_core (h : PXA X W es ms) : ∀ Z F ω ρ σ H (Q : List V → Hp → Prop), Z.K = X.K → SR Z F ω ρ σ H → Okk X W Z σ F (ints1 ms ρ) (fun ns _ _ _ H' => Q (ns.map V.int) H') → wA X es σ H Q := by
  intro Z F ω ρ σ H Q hK S ok
  refine h Z F ω ρ σ H _ hK S ((Okk.bind ok).imp fun rs ρ1 F1 ω1 H1 s1 S1 ok1 vs hvs => ?_)
  cases hk : keepRs ρ1 rs with
  | none => simp only [hk] at ok1; exact ok1.elim
  | some ds =>
    cases hn : intsOf ds with
    | none => simp only [hk, hn] at ok1; exact ok1.elim
    | some ns =>
      simp only [hk, hn] at ok1
      have r := S1.keptAll hvs hk
      rw [intsOf_eq hn] at r
      rw [r.ints_of]
      exact Okk.here S1 ok1
noncomputable def iRange1 (ms : M (List R)) : M (List PyData) := fun ρ => (ints1 ms ρ).bind fun ns ρ1 => match ns with
  | [j] => if RngOk j then .ok ((List.range j.toNat).map fun k : Nat => PyData.int (0 + k)) ρ1 else .bad
  | _ => .bad
noncomputable def iRange2 (ms : M (List R)) : M (List PyData) := fun ρ => (ints1 ms ρ).bind fun ns ρ1 => match ns with
  | [i, j] => if RngOk i ∧ RngOk j then .ok ((List.range (j - i).toNat).map fun k : Nat => PyData.int (i + k)) ρ1 else .bad
  | _ => .bad
/-- range(i, j, -1) -/
noncomputable def iRange3 (ms : M (List R)) : M (List PyData) := fun ρ => (ints1 ms ρ).bind fun ns ρ1 => match ns with
  | [i, j, k] => if k = -1 ∧ RngOk i ∧ RngOk j then .ok ((List.range (i - j).toNat).map fun k : Nat => PyData.int (i + (k : Nat) * -1)) ρ1 else .bad
  | _ => .bad
theorem pix_range1 (ha : PXA X W [a] ms) (hm : X.mg "range" = none) (hg : Gl X "range" := by rfl) (hs : starEach [a] X.env = [(false, eval a X.env)] := by rfl) : PIX X W tg (.Call (.Name "range" pp) [a] [] pos) (iRange1 ms) := by
  intro Z F ω ρ σ H Rr hK S ok
  refine wI.of (pi_range1 hg hm PA.wA hs) ?_
  refine ints1_core ha Z F ω ρ σ H _ hK S ((Okk.bind ok).imp fun ns ρ1 F1 ω1 H1 s1 S1 ok1 => ?_)
  split at ok1
  · split at ok1
    · rename_i j hj
      exact ⟨j, rfl, hj.1, hj.2, Okk.here S1 ok1 _ ItG.range⟩
    · exact ok1.elim
  · exact ok1.elim
theorem pix_range2 (ha : PXA X W [a, b] ms) (hm : X.mg "range" = none) (hg : Gl X "range" := by rfl) (hs : starEach [a, b] X.env = [(false, eval a X.env), (false, eval b X.env)] := by rfl) (hs2 : starEach [b] X.env = [(false, eval b X.env)] := by rfl) :
    PIX X W tg (.Call (.Name "range" pp) [a, b] [] pos) (iRange2 ms) := by
  intro Z F ω ρ σ H Rr hK S ok
  refine wI.of (pi_range2 hg hm PA.wA hs hs2) ?_
  refine ints1_core ha Z F ω ρ σ H _ hK S ((Okk.bind ok).imp fun ns ρ1 F1 ω1 H1 s1 S1 ok1 => ?_)
  split at ok1
  · split at ok1
    · rename_i i j hj
      exact ⟨i, j, rfl, ⟨hj.1.1, hj.1.2, hj.2.1, hj.2.2⟩, Okk.here S1 ok1 _ ItG.range⟩
    · exact ok1.elim
  · exact ok1.elim
theorem pix_range3 (ha : PXA X W [a, b, c] ms) (hm : X.mg "range" = none) (hg : Gl X "range" := by rfl) (hs : starEach [a, b, c] X.env = (false, eval a X.env) :: starEach [b, c] X.env := by rfl) (hpl : (backTo pos (starEach [b, c] X.env)).any (·.1) = false := by rfl) :
    PIX X W tg (.Call (.Name "range" pp) [a, b, c] [] pos) (iRange3 ms) := by
  intro Z F ω ρ σ H Rr hK S ok
  refine wI.of (pi_range3 hg hm PA.wA hs hpl) ?_
  refine ints1_core ha Z F ω ρ σ H _ hK S ((Okk.bind ok).imp fun ns ρ1 F1 ω1 H1 s1 S1 ok1 => ?_)
  split at ok1
  · split at ok1
    · rename_i i j k hj
      obtain ⟨rfl, ⟨h1, h2⟩, h3, h4⟩ := hj
      exact ⟨i, j, -1, _, rfl, RgC.neg h1 h2 h3 h4, Okk.here S1 ok1 _ ItG.rangeC⟩
    · exact ok1.elim
  · exact ok1.elim
/-! ### for -/
def forN (g : PyData → PEnv → Option PEnv) (m : M Fl) : List PyData → M Fl
  | [] => fun ρ => .ok .nx ρ
  | d :: ds => fun ρ => match g d ρ with
    | some ρ1 => match m ρ1 with
      | .ok .nx ρ2 => forN g m ds ρ2
      | .ok .ct ρ2 => forN g m ds ρ2
      | .ok .bk ρ2 => .ok .nx ρ2
      | r => r
    | none => .bad
def sFor (mi : M (List PyData)) (g : PyData → PEnv → Option PEnv) (m : M Fl) : M Fl := fun ρ => (mi ρ).bind fun ds ρ1 => forN g m ds ρ1
theorem ps_for' {mi : M (List PyData)} {g : PyData → PEnv → Option PEnv} {m : M Fl} (hp : PassesOwn (model X.prog X.w) X.A X.env X.xe) (hc : X.calm = true) {is : List Nat} (hi : PIX X W tg e mi) (hg : PGX X tg is g) (hb : PSSX X W sts m)
    (hs : ∀ x, foldedSetIterable e X.env x = pure x := by intro _; rfl) : PSX X W (.For tg e sts [] pos) (sFor mi g m) := by
  obtain ⟨t, pg, kg⟩ := hg
  intro Z F ω ρ σ H D hK S ok
  refine wS.of (ps_for hp hc PI.wI pg PSs.wSs hs) ?_
  refine hi Z F ω ρ σ H _ hK S ((OkS.bind ok).imp fun ds ρ1 F1 ω1 H1 s1 S1 ok1 J hJ => ?_)
  refine ⟨fun i n σ H => n = ds.length - i ∧ i ≤ ds.length ∧ ∃ F' ω' ρ', Sub F1 F' ∧ SR Z F' ω' ρ' σ H ∧ OkS X W Z F' (forN g m (ds.drop i) ρ') D, ⟨_, rfl, Nat.zero_le _, F1, ω1, ρ1, Sub.refl _, S1, ok1⟩, ?_⟩
  rintro i n σ2 H2 ⟨rfl, hi, F2, ω2, ρ2, s2, S2, ok2⟩
  by_cases hlt : i < ds.length
  · obtain ⟨go, yl⟩ := (hJ F2 ω2 ρ2 σ2 H2 i s2 S2).1 hlt
    refine .inr ⟨go, fun σ H => ∃ F' ω' ρ', Sub F1 F' ∧ SR Z F' ω' ρ' σ H ∧ OkS X W Z F' (forN g m (ds.drop (i + 1)) ρ') D, fun σ' H' h => ⟨ds.length - (i + 1), by omega, rfl, hlt, h⟩, fun x H3 hy => ?_⟩
    obtain ⟨e3, d, hd, hr⟩ := yl x H3 hy
    subst e3
    have hdr : ds.drop i = d :: ds.drop (i + 1) := by
      rw [List.drop_eq_getElem_cons hlt]
      congr 1
      have := List.getElem?_eq_getElem hlt
      rw [hd] at this
      exact (Option.some.inj this).symm
    rw [hdr] at ok2
    refine kg Z F2 ω2 ρ2 σ2 H3 x d _ hK S2 hr ?_
    cases hg : g d ρ2 with
    | none => simp only [forN, hg] at ok2; exact ok2.elim
    | some ρ3 =>
      simp only [forN, hg] at ok2
      intro ω3 σ3 S3 _
      refine hb Z F2 ω3 ρ3 σ3 H3 _ hK S3 ?_
      cases hm : m ρ3 with
      | ok f ρ4 =>
        rw [hm] at ok2
        cases f with
        | nx => exact fun F' ω' σ' H' s' S' => ⟨F', ω', ρ4, s2.trans s', S', OkS.sub s' ok2⟩
        | ct => exact fun F' ω' σ' H' s' S' => ⟨F', ω', ρ4, s2.trans s', S', OkS.sub s' ok2⟩
        | bk => exact fun F' ω' σ' H' s' S' => ok2 F' ω' σ' H' s' S'
        | ret r => exact ok2
      | err x ρ4 => rw [hm] at ok2; exact ok2
      | bad => rw [hm] at ok2; exact ok2.elim
  · refine .inl ⟨(hJ F2 ω2 ρ2 σ2 H2 i s2 S2).2 (by omega), ?_⟩
    rw [List.drop_eq_nil_of_le (by omega)] at ok2
    exact ok2 F2 ω2 σ2 H2 (Sub.refl _) S2
end
end PL
end

section
set_option maxRecDepth 100000
set_option maxHeartbeats 1000000
/-! PL, tenth part: a callee's zone, comprehensions. -/
namespace PL
open PySem L2
/-- what another sees of a slot -/
def toBor : Slot → Slot
  | .lst xs => .bor xs
  | .nst xs => .bor xs
  | .dK kvs => .borK kvs
  | .dT kvs => .borT kvs
  | s => s
@[reducible] def borE (ρ : PEnv) : PEnv := ρ.map toBor
def Zone.sub (Z : Zone) (F H : Hp) : Zone := ⟨Z.K, F, H, fun _ => False⟩
section
variable {Z : Zone} {F F' H H' : Hp} {ω ω' : Addr → Option Path} {ρ ρ' : PEnv} {σ σ' : St} {v : V} {sl : Slot} {p : Addr}
theorem SR.scr (S : SR Z F ω ρ σ H) {ns : List Int} {l : Addr} (h : SqL Z.K Z.H0 l (ns.map V.int)) (b : ¬ Z.B l) : SqL Z.K H l (ns.map V.int) := by
  rcases h with (h | ⟨o, h⟩) | h
  · exact .inl (.inl (S.keep _ _ h b))
  · exact .inl (.inr ⟨o, S.keep _ _ h b⟩)
  · exact .inr h
theorem SR.ownBor (S : SR Z F ω ρ σ H) {π π' : Path} {ω' : Addr → Option Path} (h : Own Z F H ω π v sl) : Own (Z.sub F H) F H ω' π' v (toBor sl) := by
  cases sl with
  | non => trivial
  | dat d => exact h
  | lst xs => obtain ⟨l, vs, e, _, _, h, r⟩ := h; exact ⟨l, vs, e, h, fun z => z, r⟩
  | dK xs => obtain ⟨l, vs, e, _, _, h, r⟩ := h; exact ⟨l, vs, e, h, fun z => z, r⟩
  | dT xs => obtain ⟨l, vs, e, _, _, h, r⟩ := h; exact ⟨l, vs, e, h, fun z => z, r⟩
  | bor xs => obtain ⟨l, vs, e, h, b, r⟩ := h; exact ⟨l, vs, e, S.keep _ _ h b, fun z => z, r⟩
  | borK xs => obtain ⟨l, vs, e, h, b, r⟩ := h; exact ⟨l, vs, e, S.keep _ _ h b, fun z => z, r⟩
  | borT xs => obtain ⟨l, vs, e, h, b, r⟩ := h; exact ⟨l, vs, e, S.keep _ _ h b, fun z => z, r⟩
  | scr ns => obtain ⟨l, e, h, b⟩ := h; exact ⟨l, e, S.scr h b, fun z => z⟩
  | nst xs => obtain ⟨l, b, vs, e, _, _, h, r, _, _⟩ := h; exact ⟨l, _, e, h, fun z => z, r⟩
theorem toBor_non {sl : Slot} (h : sl ≠ .non) : toBor sl ≠ .non := by cases sl <;> first | exact absurd rfl h | (intro z; cases z)
theorem SR.enter (S : SR Z F ω ρ σ H) : SR (Z.sub F H) F (fun _ => none) (borE ρ) σ H := by
  refine ⟨S.sub, S.kind, Sub.refl F, fun a e => .inl e, fun a o e _ => e, fun a e => e, fun a π e => (by cases e), by simp [S.len], fun i sl e n => ?_⟩
  rw [List.getElem?_map] at e
  cases hs : ρ[i]? with
  | none => rw [hs] at e; cases e
  | some s =>
    rw [hs] at e
    cases e
    obtain ⟨v, h1, h2⟩ := S.slots i s hs (by intro z; subst z; exact n rfl)
    exact ⟨v, h1, S.ownBor h2⟩
/-- back in one's own zone -/
theorem SR.leave (S : SR Z F ω ρ σ H) (hk : ∀ a o, H a = some o → H' a = some o) (sF : Sub F F') (sH : Sub F' H') (kind : ∀ a o, F' a = some o → DataHO o) (new : ∀ a, F' a ≠ none → F a ≠ none ∨ H a = none) : SR Z F' ω ρ σ H' := by
  refine ⟨sH, kind, S.sub0.trans sF, fun a e => ?_, fun a o e b => hk a o (S.keep a o e b), fun a e => ?_, fun a π e => ?_, S.len, fun i sl e n => ?_⟩
  · rcases new a e with h | h
    · exact S.newF a h
    · refine .inr ?_
      cases q : Z.H0 a with
      | none => rfl
      | some o => exact absurd h (S.dom a (by rw [q]; simp))
  · cases q : H a with
    | none => exact absurd q (S.dom a e)
    | some o => rw [hk a o q]; simp
  · obtain ⟨h1, h2, h3⟩ := S.own a π e
    refine ⟨?_, ?_, h3⟩
    · cases q : F' a with
      | none => rfl
      | some o =>
        rcases new a (by rw [q]; simp) with z | z
        · exact absurd h1 z
        · exact absurd z h2
    · cases q : H a with
      | none => exact absurd q h2
      | some o => rw [hk a o q]; simp
  · obtain ⟨v, h1, h2⟩ := S.slots i sl e n
    exact ⟨v, h1, Own.mono sF (fun a o _ e => hk a o e) (fun _ e => e) h2⟩
theorem SR.back (S : SR Z F ω ρ σ H) (S' : SR (Z.sub F H) F' ω' ρ' σ' H') : SR Z F' ω ρ σ H' :=
  S.leave (fun a o e => S'.keep a o e fun z => z) S'.sub0 S'.sub S'.kind S'.newF
/-- an object that is nobody's -/
theorem SR.touch {D : Addr} {o : HO} (S : SR Z F ω ρ σ H) (hF : F D = none) (h0 : Z.H0 D = none) (hω : ω D = none) : SR Z F ω ρ σ (upd H D o) := by
  refine ⟨fun a u e => ?_, S.kind, S.sub0, S.newF, fun a u e b => ?_, fun a e => ?_, fun a π e => ?_, S.len, fun i sl e n => ?_⟩
  · rw [upd_ne (fun z => by subst z; rw [hF] at e; cases e)]; exact S.sub a u e
  · rw [upd_ne (fun z => by subst z; rw [h0] at e; cases e)]; exact S.keep a u e b
  · by_cases z : a = D
    · subst z; rw [upd_same]; simp
    · rw [upd_ne z]; exact S.dom a e
  · obtain ⟨h1, h2, h3⟩ := S.own a π e
    refine ⟨h1, ?_, h3⟩
    by_cases z : a = D
    · subst z; rw [upd_same]; simp
    · rw [upd_ne z]; exact h2
  · obtain ⟨v, h1, h2⟩ := S.slots i sl e n
    exact ⟨v, h1, Own.mono (Sub.refl F) (fun a u e' hu => by rw [upd_ne (fun z => by subst z; rw [hω] at e'; cases e')]; exact hu) (fun _ e => e) h2⟩
/-- slots forgotten -/
def wipeP : PEnv → List Nat → PEnv
  | ρ, [] => ρ
  | ρ, v :: vs => (wipeP ρ vs).set v .non
theorem SR.setNone (S : SR Z F ω ρ σ H) (i : Nat) : SR Z F ω (ρ.set i .non) (σ.set i none) H := by
  have S1 := S.forget (i := i)
  refine ⟨S1.sub, S1.kind, S1.sub0, S1.newF, S1.keep, S1.dom, S1.own, by simpa using S1.len, fun j sl e n => ?_⟩
  by_cases hj : j = i
  · subst hj
    by_cases hl : j < ρ.length
    · rw [List.getElem?_set_self hl] at e; cases e; exact absurd rfl n
    · rw [List.getElem?_eq_none (by simp; omega)] at e; cases e
  · obtain ⟨v, h1, h2⟩ := S1.slots j sl e n
    exact ⟨v, by rw [List.getElem?_set_ne (fun z => hj z.symm)]; exact h1, h2⟩
theorem SR.wipe (S : SR Z F ω ρ σ H) : ∀ vs : List Nat, SR Z F ω (wipeP ρ vs) (wipe σ vs) H
  | [] => S
  | v :: vs => (S.wipe vs).setNone v
theorem wipe_at (σ : St) (i : Nat) : ∀ vs : List Nat, (L2.wipe σ vs)[i]? = if i ∈ vs ∧ i < σ.length then some none else σ[i]?
  | [] => by simp [L2.wipe]
  | v :: vs => by
    unfold L2.wipe
    by_cases e : v = i
    · subst e
      by_cases hl : v < σ.length
      · rw [List.getElem?_set_self (by rw [wipe_length]; exact hl), if_pos ⟨by simp, hl⟩]
      · rw [List.getElem?_eq_none (by simp [wipe_length]; omega), if_neg (fun z => hl z.2), List.getElem?_eq_none (by omega)]
    · rw [List.getElem?_set_ne e, wipe_at σ i vs]
      have : (i ∈ v :: vs ∧ i < σ.length) ↔ (i ∈ vs ∧ i < σ.length) := by
        simp only [List.mem_cons]
        constructor
        · rintro ⟨h | h, h2⟩
          · exact absurd h.symm e
          · exact ⟨h, h2⟩
        · exact fun ⟨h, h2⟩ => ⟨.inr h, h2⟩
      by_cases c : i ∈ vs ∧ i < σ.length
      · rw [if_pos c, if_pos (this.mpr c)]
      · rw [if_neg c, if_neg (fun z => c (this.mp z))]
theorem wipe_diff {is vs : List Nat} (h : Diff is σ σ') (hs : ∀ i ∈ is, i ∈ vs) : L2.wipe σ' vs = L2.wipe σ vs := by
  have hl := h.1
  refine List.ext_getElem? fun i => ?_
  rw [wipe_at, wipe_at, hl]
  by_cases c : i ∈ vs ∧ i < σ.length
  · rw [if_pos c, if_pos c]
  · rw [if_neg c, if_neg c]
    by_cases hi : i ∈ is
    · have hiv := hs i hi
      have hlen : ¬ i < σ.length := fun z => c ⟨hiv, z⟩
      rw [List.getElem?_eq_none (by omega), List.getElem?_eq_none (by omega)]
    · exact h.2 i hi
theorem wipe_wipe (vs : List Nat) : L2.wipe (L2.wipe σ vs) vs = L2.wipe σ vs := by
  refine List.ext_getElem? fun i => ?_
  rw [wipe_at, wipe_at, wipe_length]
  by_cases c : i ∈ vs ∧ i < σ.length
  · rw [if_pos c, if_pos c]
  · rw [if_neg c, if_neg c]
end
/-! ### comprehensions -/
def compN (vs : List Nat) (g : PyData → PEnv → Option PEnv) (t : M Bool) (me : M R) : List PyData → PEnv → Option (List PyData)
  | [], _ => some []
  | d :: ds, ρ => match g d (wipeP ρ vs) with
    | none => none
    | some ρ1 => match t (borE ρ1) with
      | .ok true _ => match opd me (borE ρ1) with
        | .ok r ρ3 => match keepR ρ3 r, compN vs g t me ds ρ with
          | some y, some ys => some (y :: ys)
          | _, _ => none
        | _ => none
      | .ok false _ => compN vs g t me ds ρ
      | _ => none
def eComp (vs : List Nat) (mi : M (List PyData)) (g : PyData → PEnv → Option PEnv) (t : M Bool) (me : M R) : M R := fun ρ => match mi (borE ρ) with
  | .ok ds _ => match compN vs g t me ds (borE ρ) with
    | some ys => if ds.length ≤ sizeLine then .ok (.new (.lst ys)) ρ else .bad
    | none => .bad
  | _ => .bad
/-- the tests of a clause -/
def PXTs (X : Cx) (ifs : List Expr) (m : M Bool) : Prop :=
  ∃ t, PTs X ifs t ∧ ∀ Z F ω ρ σ H Q, Z.K = X.K → SR Z F ω ρ σ H → Okk X (fun _ _ _ _ => False) Z σ F (m ρ) (fun b ρ' F' ω' H' => Q b H') → t σ H Q
def tYes' : M Bool := fun ρ => .ok true ρ
section
variable {X : Cx} {W : WX} {e c tg iter elt : Expr} {ifs : List Expr} {m : M R} {pos spos py : Pos}
abbrev W0 : WX := fun _ _ _ _ => False
theorem pts_nil' : PXTs X [] tYes' := ⟨_, pts_nil, fun Z F ω ρ σ H Q hK S ok => Okk.here S ok⟩
theorem pts_one' {m : M Bool} (h : PXT X W0 c m) : PXTs X [c] m := ⟨_, pts_one PT.wT, fun Z F ω ρ σ H Q hK S ok => h Z F ω ρ σ H Q hK S ok⟩
/-- every block of a comprehension -/
abbrev Blks (X : Cx) (scope : Scope) (P : Cx → Prop) : Prop := ∀ (s : Shared) (H : Hp) (C : Addr) (cl : List (Str × Addr)) (fp : List Addr), P (X.blk s H scope (compEnvC scope cl C X.env) fp)
/-- the weakest readings that stand in every block -/
def wGB (X : Cx) (scope : Scope) (tg : Expr) : TG := fun v σ H Q => Blks X scope fun X' => ∀ pins s u, Inv X' pins σ H s → RelV v u → wpAny (model X'.prog X'.w) X'.A (assign tg X'.env u) (fun _ s' => ∃ σ' H', Inv X' pins σ' H' s' ∧ Q σ' H') X'.xe s
def wTB (X : Cx) (scope : Scope) (ifs : List Expr) : TT := fun σ H Q => Blks X scope fun X' => ∃ t, PTs X' ifs t ∧ t σ H Q
def wEB (X : Cx) (scope : Scope) (e : Expr) : TE := fun σ H Q => Blks X scope fun X' => wE X' e σ H Q
theorem PG.wGB {scope : Scope} : Blks X scope fun X' => PG X' tg (wGB X scope tg) := fun s H C cl fp => ⟨fun pins s1 σ H1 v u Q I r h => h s H C cl fp pins s1 u I r⟩
theorem PTs.wTB {scope : Scope} : Blks X scope fun X' => PTs X' ifs (wTB X scope ifs) := fun s H C cl fp => ⟨fun pins s1 σ H1 Q I h => by
  obtain ⟨t, p, q⟩ := h s H C cl fp
  exact p.run pins s1 σ H1 Q I q⟩
theorem PE.wEB {scope : Scope} : Blks X scope fun X' => PE X' e (wEB X scope e) := fun s H C cl fp => ⟨fun pins s1 σ H1 Q I h => h s H C cl fp pins s1 I⟩
theorem lc_core' {scope : Scope} {own : List (Str × Nat)} {mi : M (List PyData)} {g : PyData → PEnv → Option PEnv} {t : M Bool} {me : M R} {is : List Nat}
    (hi : PIX X W tg iter mi) (hg : Blks X scope fun X' => PGX X' tg is g) (his : ∀ i ∈ is, i ∈ own.map (·.2)) (ht : Blks X scope fun X' => PXTs X' ifs t) (he : Blks X scope fun X' => PX X' W0 elt me) :
    ∀ Z F ω ρ σ H Q, Z.K = X.K → SR Z F ω ρ σ H → Okk X W Z σ F (eComp (own.map (·.2)) mi g t me ρ) (fun r ρ' F' ω' H' => ∀ v, VR Z F' ω' σ ρ'.length H' r v → Q v H') →
      tLc (wI X tg iter) (wGB X scope tg) (wTB X scope ifs) (wEB X scope elt) (own.map (·.2)) σ H Q := by
  intro Z F ω ρ σ H Q hK S ok
  cases hm : mi (borE ρ) with
  | err x ρ' => simp only [eComp, hm] at ok; exact ok.elim
  | bad => simp only [eComp, hm] at ok; exact ok.elim
  | ok ds ρx =>
    simp only [eComp, hm] at ok
    cases hcn : compN (own.map (·.2)) g t me ds (borE ρ) with
    | none => simp only [hcn] at ok; exact ok.elim
    | some ys =>
      simp only [hcn] at ok
      split at ok
      · rename_i hsz
        have S1 := S.enter
        refine hi (Z.sub F H) F _ (borE ρ) σ H _ hK S1 ?_
        rw [hm]
        intro F1 ω1 H1 s1 Sx J hJ D hD
        -- D is new over the entry of the zone
        have hD0 : H D = none := by
          cases q : H D with
          | none => rfl
          | some o => exact absurd (Sx.keep D o q fun z => z) (by rw [hD]; simp)
        have Sb : SR (Z.sub F H) F1 (fun _ => none) (borE ρ) σ H1 := by
          have := S1.leave (F' := F1) (H' := H1) (fun a o e => Sx.keep a o e fun z => z) s1 Sx.sub Sx.kind Sx.newF
          exact this
        have hFD : F1 D = none := Sb.noF hD
        refine ⟨fun i n H2 => n = ds.length - i ∧ i ≤ ds.length ∧ ∃ F2 vs dn rest, Sub F1 F2 ∧ SR (Z.sub F H) F2 (fun _ => none) (borE ρ) σ H2 ∧ F2 D = none ∧ H2 D = some (.lst vs) ∧ RpAll Z.K F2 vs dn ∧
          compN (own.map (·.2)) g t me (ds.drop i) (borE ρ) = some rest ∧ dn ++ rest = ys ∧ dn.length ≤ i, ⟨_, rfl, Nat.zero_le _, F1, [], [], ys, Sub.refl _, Sb.lay hD, hFD, upd_same, .nil, hcn, rfl, Nat.le_refl _⟩, ?_⟩
        rintro i n H2 ⟨rfl, hi', F2, vs, dn, rest, s2, S2, hF2, hH2, hr2, hc2, hy2, hl2⟩
        by_cases hlt : i < ds.length
        · obtain ⟨go, yl⟩ := (hJ F2 _ _ σ H2 i s2 S2).1 hlt
          refine .inr ⟨go, fun H3 => ∃ F2 vs dn rest, Sub F1 F2 ∧ SR (Z.sub F H) F2 (fun _ => none) (borE ρ) σ H3 ∧ F2 D = none ∧ H3 D = some (.lst vs) ∧ RpAll Z.K F2 vs dn ∧
            compN (own.map (·.2)) g t me (ds.drop (i + 1)) (borE ρ) = some rest ∧ dn ++ rest = ys ∧ dn.length ≤ i + 1, fun H3 h => ⟨ds.length - (i + 1), by omega, rfl, hlt, h⟩, fun x H3 hyd => ?_⟩
          obtain ⟨e3, d, hd, hxd⟩ := yl x H3 hyd
          subst e3
          have hdr : ds.drop i = d :: ds.drop (i + 1) := by
            rw [List.drop_eq_getElem_cons hlt]
            congr 1
            have := List.getElem?_eq_getElem hlt
            rw [hd] at this
            exact (Option.some.inj this).symm
          rw [hdr] at hc2
          have Sw := S2.wipe (own.map (·.2))
          -- the target
          intro s' H' C cl fp pins s u I ru
          obtain ⟨tgr, pg, kg⟩ := hg s' H' C cl fp
          refine pg.run pins s _ _ x u _ I ru ?_
          refine kg (Z.sub F H) F2 _ _ _ H3 x d _ hK Sw hxd ?_
          cases hgd : g d (wipeP (borE ρ) (own.map (·.2))) with
          | none => simp only [compN, hgd] at hc2; cases hc2
          | some ρ1 =>
            simp only [compN, hgd] at hc2
            intro ω3 σ3 S3 df3
            refine ⟨(wipe_diff df3 his).trans (wipe_wipe _), ?_⟩
            intro s' H' C cl fp
            obtain ⟨tt, pt, kt⟩ := ht s' H' C cl fp
            refine ⟨tt, pt, ?_⟩
            have S4 := S3.enter
            refine kt ((Z.sub F H).sub F2 H3) F2 _ (borE ρ1) σ3 H3 _ hK S4 ?_
            cases htt : t (borE ρ1) with
            | err x ρ' => simp only [htt] at hc2; cases hc2
            | bad => simp only [htt] at hc2; cases hc2
            | ok bt ρ2 =>
              simp only [htt] at hc2
              intro F4 ω4 H4 s4 S4'
              -- behind the test: all of H3 stands
              have kH : ∀ a o, H3 a = some o → H4 a = some o := fun a o e => S4'.keep a o e fun z => z
              have S5 : SR (Z.sub F H) F4 ω3 ρ1 σ3 H4 := S3.back S4'
              have S5b : SR (Z.sub F H) F4 (fun _ => none) (borE ρ) σ H4 := S2.leave kH s4 S4'.sub S4'.kind S4'.newF
              have hD4 : H4 D = some (.lst vs) := kH _ _ hH2
              have hF4 : F4 D = none := by
                cases q : F4 D with
                | none => rfl
                | some o =>
                  rcases S4'.newF D (by rw [q]; simp) with z | z
                  · exact absurd hF2 z
                  · exact absurd (show H3 D = none from z) (by rw [hH2]; simp)
              cases bt with
              | false =>
                rw [if_neg (by decide)]
                exact ⟨F4, vs, dn, rest, s2.trans s4, S5b, hF4, hD4, hr2.mono s4, hc2, hy2, Nat.le_succ_of_le hl2⟩
              | true =>
                rw [if_pos rfl]
                intro s' H' C cl fp
                have S6 := S5.enter
                cases hme : opd me (borE ρ1) with
                | err x ρ' => simp only [hme] at hc2; cases hc2
                | bad => simp only [hme] at hc2; cases hc2
                | ok r ρ3 =>
                  simp only [hme] at hc2
                  refine (he s' H' C cl fp).opd ((Z.sub F H).sub F4 H4) F4 _ (borE ρ1) σ3 H4 _ hK S6 ?_
                  rw [hme]
                  intro F7 ω7 H7 s7 S7 y old hy
                  cases hk : keepR ρ3 r with
                  | none => simp only [hk] at hc2; cases hc2
                  | some yd =>
                    cases hcr : compN (own.map (·.2)) g t me (ds.drop (i + 1)) (borE ρ) with
                    | none => simp only [hk, hcr] at hc2; cases hc2
                    | some ys' =>
                      simp only [hk, hcr] at hc2
                      cases hc2
                      have kH7 : ∀ a o, H4 a = some o → H7 a = some o := fun a o e => S7.keep a o e fun z => z
                      have S8 : SR (Z.sub F H) F7 (fun _ => none) (borE ρ) σ H7 := S5b.leave kH7 s7 S7.sub S7.kind S7.newF
                      have hD7 : H7 D = some (.lst vs) := kH7 _ _ hD4
                      have hF7 : F7 D = none := by
                        cases q : F7 D with
                        | none => rfl
                        | some o =>
                          rcases S7.newF D (by rw [q]; simp) with z | z
                          · exact absurd hF4 z
                          · exact absurd (show H4 D = none from z) (by rw [hD4]; simp)
                      have hyd : Rp Z.K F7 y yd := S7.kept hy hk
                      have hlen := hr2.length
                      refine ⟨vs, hD7, by omega, F7, vs ++ [y], dn ++ [yd], ys', (s2.trans s4).trans s7, S8.touch hF7 hD0 rfl, hF7, upd_same, ((hr2.mono (s4.trans s7)).append (.cons hyd .nil)), rfl, by rw [List.append_assoc]; exact hy2, by simp; omega⟩
        · refine .inl ⟨(hJ F2 _ _ σ H2 i s2 S2).2 (by omega), ?_⟩
          rw [List.drop_eq_nil_of_le (by omega)] at hc2
          cases hc2
          rw [List.append_nil] at hy2
          subst hy2
          have S9 : SR Z F2 ω ρ σ H2 := S.back S2
          refine ok F2 (ownW ω D (ρ.length, 0)) H2 (s1.trans s2) ?_ _ ?_
          · refine ⟨S9.sub, S9.kind, S9.sub0, S9.newF, S9.keep, S9.dom, fun a π e => ?_, S9.len, fun j sl e n => ?_⟩
            · by_cases z : a = D
              · subst z
                exact ⟨hF2, by rw [hH2]; simp, .inr (S.no0 hD0)⟩
              · rw [ownW_ne z] at e; exact S9.own a π e
            · obtain ⟨v, h1, h2⟩ := S9.slots j sl e n
              exact ⟨v, h1, Own.mono (Sub.refl _) (fun _ _ _ e => e) (fun a e => by
                rw [ownW_ne (fun z => by subst z; rw [S.noW hD0] at e; cases e)]; exact e) h2⟩
          · exact ⟨D, vs, rfl, ownW_same, S.no0 hD0, hH2, hr2⟩
      · exact ok.elim
end
end PL
end

section
set_option maxRecDepth 100000
set_option maxHeartbeats 1000000
open PySem.Spec PyProof.Rows
/-! PL, eleventh part: comprehensions as rules, calls of defs, lists and dicts changed. -/
namespace PL
open PySem L2
section
variable {X : Cx} {W : WX} {e c tg iter elt : Expr} {es : List Expr} {ifs : List Expr} {m ma mb : M R} {ms : M (List R)} {pos spos py pp pos' : Pos}
theorem px_comp {scope : Scope} {own : List (Str × Nat)} {mi : M (List PyData)} {g : PyData → PEnv → Option PEnv} {t : M Bool} {me : M R} {is : List Nat} (hc : X.calm = true) (hN : X.N.Nodup) (ok : BlkOk X.N X.env.scope scope own)
    (hi : PIX X W tg iter mi) (hg : Blks X scope fun X' => PGX X' tg is g) (ht : Blks X scope fun X' => PXTs X' ifs t) (he : Blks X scope fun X' => PX X' W0 elt me) (his : ∀ i ∈ is, i ∈ own.map (·.2) := by decide)
    (hs : ∀ x, foldedSetIterable iter X.env x = pure x := by intro _; rfl) : PX X W (.ListComp elt [⟨tg, iter, ifs, 0⟩] scope pos) (eComp (own.map (·.2)) mi g t me) := fun Z F ω ρ σ H Q hK S o =>
  wE.of (pe_lc hc hN PI.wI ok PG.wGB PTs.wTB PE.wEB hs) (lc_core' hi hg his ht he Z F ω ρ σ H Q hK S o)
theorem ps_setComp {i : Nat} {y : Str} {scope : Scope} {own : List (Str × Nat)} {mi : M (List PyData)} {g : PyData → PEnv → Option PEnv} {t : M Bool} {me : M R} {is : List Nat} (hc : X.calm = true) (hN : X.N.Nodup) (ok : BlkOk X.N X.env.scope scope own)
    (hi : PIX X W tg iter mi) (hg : Blks X scope fun X' => PGX X' tg is g) (ht : Blks X scope fun X' => PXTs X' ifs t) (he : Blks X scope fun X' => PX X' W0 elt me) (hyl : X.env.scope.names.lookup y = some .local)
    (hsw : swapsWith (.ListComp elt [⟨tg, iter, ifs, 0⟩] scope pos) (some (.Name y py)) spos.line X.env = pure true) (hy : X.N[i]? = some y := by rfl) (his : ∀ i ∈ is, i ∈ own.map (·.2) := by decide)
    (hs : ∀ x, foldedSetIterable iter X.env x = pure x := by intro _; rfl) : PSX X W (.Assign [.Name y py] (.ListComp elt [⟨tg, iter, ifs, 0⟩] scope pos) spos) (sAsg i (eComp (own.map (·.2)) mi g t me)) := by
  intro Z F ω ρ σ H D hK S o
  refine wS.of (ps_setLc hc hN hy hyl hsw PI.wI ok PG.wGB PTs.wTB PE.wEB hs) ?_
  refine lc_core' hi hg his ht he Z F ω ρ σ H _ hK S ((OkS.bind o).imp fun r ρ1 F1 ω1 H1 s1 S1 ok1 v hv => ?_)
  show D.nx _ _
  cases hsl : inS' ρ1 r with
  | none => simp only [hsl] at ok1; exact ok1.elim
  | some sl =>
    simp only [hsl] at ok1
    split at ok1
    · rename_i hl
      obtain ⟨ω', S2⟩ := S1.set hl (inS_ok S1 hv hsl)
      exact ok1 _ _ _ _ (Sub.refl _) S2
    · exact ok1.elim
/-! ### a def's promise -/
abbrev Z0 (K : PySem.W.Frag) (F0 H0 : Hp) : Zone := ⟨K, F0, H0, fun _ => False⟩
def ArgsOk (K : PySem.W.Frag) (F0 H0 : Hp) : List V → List Slot → Prop
  | [], [] => True
  | v :: vs, s :: ss => Own (Z0 K F0 H0) F0 H0 (fun _ => none) (0, 0) v s ∧ ArgsOk K F0 H0 vs ss
  | _, _ => False
/-- mf's answer is a promise -/
def spP (er : Bool) (K : PySem.W.Frag) (mg : Str → Option Value) (n : Nat) (mf : List Slot → Res R) : Sp := fun vs H0 Q E =>
  ∃ F0 ss, Sub F0 H0 ∧ (∀ a o, F0 a = some o → DataHO o) ∧ vs.length = n ∧ ArgsOk K F0 H0 vs ss ∧ match mf ss with
    | .ok r _ => ∀ v F' ω' H', SR (Z0 K F0 H0) F' ω' [] [] H' → VR (Z0 K F0 H0) F' ω' [] 0 H' r v → Q v H'
    | .err x _ => er = true ∧ ∀ (X : Cx) c d F' ω' H', X.mg = mg → X.K = K → SR (Z0 K F0 H0) F' ω' [] [] H' → XR X x c d F' H' → E c d H'
    | .bad => False
/-- a body run over arguments: N slots -/
def runP (n : Nat) (m : M Fl) (ss : List Slot) : Res R := match m (ss ++ List.replicate (n - ss.length) .non) with
  | .ok (.ret (.slot _)) _ => .bad
  | .ok (.ret r) _ => .ok r []
  | .ok .nx _ => .ok (.dat .none) []
  | .ok _ _ => .bad
  | .err x _ => .err x []
  | .bad => .bad
theorem ArgsOk.length {K : PySem.W.Frag} {F0 H0 : Hp} : ∀ {vs : List V} {ss : List Slot}, ArgsOk K F0 H0 vs ss → vs.length = ss.length
  | [], [], _ => rfl
  | _ :: _, _ :: _, h => by simp [ArgsOk.length h.2]
  | [], _ :: _, h => h.elim
  | _ :: _, [], h => h.elim
theorem ArgsOk.get {K : PySem.W.Frag} {F0 H0 : Hp} : ∀ {vs : List V} {ss : List Slot} {i : Nat} {s : Slot}, ArgsOk K F0 H0 vs ss → ss[i]? = some s → ∃ v, vs[i]? = some v ∧ Own (Z0 K F0 H0) F0 H0 (fun _ => none) (0, 0) v s
  | [], [], _, _, _, e => by simp at e
  | v :: vs, s :: ss, 0, _, h, e => by simp at e; subst e; exact ⟨v, rfl, h.1⟩
  | v :: vs, s :: ss, i + 1, s', h, e => by
    obtain ⟨w, h1, h2⟩ := ArgsOk.get (i := i) (s := s') h.2 (by simpa using e)
    exact ⟨w, by simpa using h1, h2⟩
  | [], _ :: _, _, _, h, _ => h.elim
  | _ :: _, [], _, _, h, _ => h.elim
theorem Own.none_pi {Z : Zone} {F H : Hp} {π π' : Path} {v : V} {s : Slot} (h : Own Z F H (fun _ => none) π v s) : Own Z F H (fun _ => none) π' v s :=
  Own.mono (Sub.refl F) (fun _ _ _ e => e) (fun a e => by cases e) h
theorem SR.start {K : PySem.W.Frag} {F0 H0 : Hp} {vs : List V} {ss : List Slot} {N : List Str} (s : Sub F0 H0) (k : ∀ a o, F0 a = some o → DataHO o) (h : ArgsOk K F0 H0 vs ss) (hn : vs.length ≤ N.length) :
    SR (Z0 K F0 H0) F0 (fun _ => none) (ss ++ List.replicate (N.length - ss.length) .non) (start N vs) H0 := by
  have hl := h.length
  refine ⟨s, k, Sub.refl F0, fun a e => .inl e, fun a o e _ => e, fun a e => e, fun a π e => (by cases e), by simp [L2.start]; omega, fun i sl e n => ?_⟩
  by_cases hi : i < ss.length
  · rw [List.getElem?_append_left hi] at e
    obtain ⟨v, h1, h2⟩ := h.get e
    refine ⟨v, ?_, h2.none_pi⟩
    unfold L2.start
    rw [List.getElem?_append_left (by simp; omega), List.getElem?_map, h1]
    rfl
  · rw [List.getElem?_append_right (by omega), List.getElem?_replicate] at e
    split at e
    · cases e; exact absurd rfl n
    · cases e
/-- slots left behind -/
theorem SR.close {Z : Zone} {F H : Hp} {ω : Addr → Option Path} {ρ : PEnv} {σ : L2.St} (S : SR Z F ω ρ σ H) : SR Z F ω [] [] H :=
  ⟨S.sub, S.kind, S.sub0, S.newF, S.keep, S.dom, S.own, rfl, fun i sl e _ => by simp at e⟩
def relW (ω : Addr → Option Path) (n k : Nat) : Addr → Option Path := fun a => if ω a = some (n, 0) then some (k, 0) else none
theorem SR.closeNew {Z : Zone} {F H : Hp} {ω : Addr → Option Path} {ρ : PEnv} {σ : L2.St} (S : SR Z F ω ρ σ H) : SR Z F (relW ω ρ.length 0) [] [] H :=
  ⟨S.sub, S.kind, S.sub0, S.newF, S.keep, S.dom, fun a π e => (by
    unfold relW at e
    split at e
    · rename_i e'; exact S.own a _ e'
    · cases e), rfl, fun i sl e _ => by simp at e⟩
end
/-! ### the rule for a def -/
section
variable {P : Program} {w : World} {K : PySem.W.Frag} {mg : Str → Option Value} {base : Heap}
/-- from a body's mirror to the def's promise -/
theorem body_ok {X : Cx} {W : WX} {body : List Stmt} {m : M Fl} {N : List Str} {n : Nat} {vs : List V} {H : Hp} {Q : VK} {E : XK} {er : Bool} (h : PSSX X W body m) (hW : er = true → ∀ c d σ H', E c d H' → W c d σ H') (hn : n ≤ N.length)
    (hsp : spP er X.K X.mg n (runP N.length m) vs H Q E) : wSs X body { nx := fun _ H' => Q .non H', rt := Q } (start N vs) H := by
  obtain ⟨F0, ss, s, k, hl, ha, q⟩ := hsp
  have S := SR.start (N := N) s k ha (by omega)
  refine h (Z0 X.K F0 H) F0 _ _ _ H _ rfl S ?_
  unfold runP at q
  cases hm : m (ss ++ List.replicate (N.length - ss.length) .non) with
  | bad => rw [hm] at q; exact q.elim
  | err x ρ' => rw [hm] at q; exact fun F' ω' σ' H' c d s' S' xr => hW q.1 _ _ _ _ (q.2 X c d F' ω' H' rfl rfl S'.close xr)
  | ok f ρ' =>
    rw [hm] at q
    cases f with
    | nx => exact fun F' ω' σ' H' s' S' => q .non F' ω' H' S'.close .non
    | bk => exact q.elim
    | ct => exact q.elim
    | ret r =>
      cases r with
      | dat d => intro v F' ω' σ' H' s' S' _ hv; exact q v F' ω' H' S'.close hv
      | slot i => exact q.elim
      | new sl => intro v F' ω' σ' H' s' S' _ hv; exact q v F' _ H' S'.closeNew (Own.mono (Sub.refl _) (fun _ _ _ e => e) (fun a e => by unfold relW; rw [if_pos e]) hv)
theorem len_spP {er : Bool} {n : Nat} {mf : List Slot → Res R} : ∀ vs H Q E, spP er K mg n mf vs H Q E → vs.length = n := fun vs H Q E ⟨_, _, _, _, h, _⟩ => h
/-- a def that lets nothing out -/
theorem fn_ok {x qual : Str} {st : Stmt} {f : Addr} {fd : FuncData} {N ps : List Str} {k : Nat} {m : M Fl} (F : Fun K x qual st f fd) (S : FnScope N ps (defScope st)) (hn : ps.length ≤ N.length)
    (hbody : ∀ (cdv : Value) (A : Around) (outer : List Env) (s : Shared) (H : Hp) (E : XK), Room k (A.deeper (envOfC qual (defScope st) s.heap.objs.size f cdv)) →
      PSSX (cxOf CX0 P w K mg base N qual (defScope st) f cdv A outer s H E).nox W0 (defBody st) m) : FnOk P w K mg base CX0 (k + 1) f fd ps (spP false K mg ps.length (runP N.length m)) := by
  refine F.ok S (fun vs H Q E h => len_spP vs H Q E h) (fun cdv A outer s H vs Q E hr h => ⟨_, PSs.wSs, ?_⟩)
  exact body_ok (E := E) (er := false) (hbody cdv A outer s H E hr) (fun z => nomatch z) hn h
/-- a def that may raise -/
theorem fn_okX {x qual : Str} {st : Stmt} {f : Addr} {fd : FuncData} {N ps : List Str} {k : Nat} {m : M Fl} (F : Fun K x qual st f fd) (S : FnScope N ps (defScope st)) (hn : ps.length ≤ N.length)
    (hbody : ∀ (cdv : Value) (A : Around) (outer : List Env) (s : Shared) (H : Hp) (E : XK), Room k (A.deeper (envOfC qual (defScope st) s.heap.objs.size f cdv)) →
      PSSX (cxOf (L2.CX P w) P w K mg base N qual (defScope st) f cdv A outer s H E) (fun c d _ H => E c d H) (defBody st) m) : FnOk P w K mg base (L2.CX P w) (k + 1) f fd ps (spP true K mg ps.length (runP N.length m)) := by
  refine F.okX S (fun vs H Q E h => len_spP vs H Q E h) (fun cdv A outer s H vs Q E hr h => ⟨wSs (cxOf (L2.CX P w) P w K mg base N qual (defScope st) f cdv A outer s H E) (defBody st), PSs.wSs, ?_⟩)
  exact body_ok (E := E) (er := true) (hbody cdv A outer s H E hr) (fun _ _ _ _ _ z => z) hn h
end
/-! ### a call -/
def argS (ρ : PEnv) (rs : List R) : Option (List Slot) := (rsls ρ rs).bind fun ss => if noNon ss then some (ss.map toBor) else none
def goodR : R → Bool
  | .dat _ => true
  | .new (.lst _) => true
  | .new (.dK _) => true
  | .new (.dT _) => true
  | .new (.nst _) => true
  | _ => false
def eDef (er : Bool) (n : Nat) (mf : List Slot → Res R) (ms : M (List R)) : M R := fun ρ => (ms ρ).bind fun rs ρ1 => match argS ρ1 rs with
  | some ss => if ss.length = n then (match mf ss with
    | .ok r _ => if goodR r then .ok r ρ1 else .bad
    | .err x _ => if er then .err x ρ1 else .bad
    | .bad => .bad) else .bad
  | none => .bad
section
variable {X : Cx} {W : WX} {e c tg iter elt : Expr} {es : List Expr} {ifs : List Expr} {m ma mb : M R} {ms : M (List R)} {pos spos py pp pos' : Pos}
theorem SR.args {Z : Zone} {F H : Hp} {ω : Addr → Option Path} {ρ : PEnv} {σ : L2.St} (S : SR Z F ω ρ σ H) : ∀ {rs : List R} {ss : List Slot} {vs : List V}, VRs Z F ω σ ρ.length H rs vs → rsls ρ rs = some ss → noNon ss = true → ArgsOk Z.K F H vs (ss.map toBor)
  | [], _, _, h, e, _ => by cases e; cases h; trivial
  | r :: rs, ss, vs, h, e, n => by
    obtain ⟨v, vs', rfl, _, hv, ht⟩ := h
    unfold rsls at e
    cases h1 : rsl ρ r with
    | none => rw [h1] at e; cases e
    | some s =>
      rw [h1] at e
      cases h2 : rsls ρ rs with
      | none => rw [h2] at e; cases e
      | some ss' =>
        rw [h2] at e
        cases e
        obtain ⟨n1, n2⟩ := noNon_cons n
        refine ⟨?_, S.args ht h2 n2⟩
        cases r with
        | dat d => cases h1; exact hv
        | new _ => cases h1
        | slot i =>
          obtain ⟨v', e1, e2⟩ := S.slots i s h1 n1
          rw [hv.2] at e1; cases e1
          exact S.ownBor e2
theorem SR.merge {Z : Zone} {F H F' H' : Hp} {ω ω' : Addr → Option Path} {ρ : PEnv} {σ : L2.St} (S : SR Z F ω ρ σ H) (S' : SR (Z0 Z.K F H) F' ω' [] [] H') {r : R} {v : V} (hr : goodR r = true) (hv : VR (Z0 Z.K F H) F' ω' [] 0 H' r v) :
    ∃ ω2, SR Z F' ω2 ρ σ H' ∧ VR Z F' ω2 σ ρ.length H' r v := by
  have Sb : SR Z F' ω ρ σ H' := S.leave (fun a o e => S'.keep a o e fun z => z) S'.sub0 S'.sub S'.kind S'.newF
  cases r with
  | slot i => cases hr
  | dat d => exact ⟨ω, Sb, hv⟩
  | new sl =>
    have dis : ∀ a π, ω a = some π → ω' a ≠ some (0, 0) ∨ (∃ o, H a = some o) := fun a π e => .inr (by
      cases q : H a with
      | none => exact absurd q (S.own a π e).2.1
      | some o => exact ⟨o, rfl⟩)
    have new : ∀ l, (∃ vs, ω' l = some (0, 0) ∧ H l = none ∧ (H' l = some vs)) → ownW ω l (ρ.length, 0) l = some (ρ.length, 0) := fun l _ => ownW_same
    have fin' : ∀ {sl : Slot} {v : V} (l : Addr), ω' l = some (0, 0) → H l = none → (∀ Z', Z'.K = Z.K → Z'.H0 l = none → Own Z' F' H' (ownW ω l (ρ.length, 0)) (ρ.length, 0) v sl) → ∃ ω2, SR Z F' ω2 ρ σ H' ∧ VR Z F' ω2 σ ρ.length H' (.new sl) v := fun {sl v} l hω hl own => by
      refine ⟨ownW ω l (ρ.length, 0), ⟨Sb.sub, Sb.kind, Sb.sub0, Sb.newF, Sb.keep, Sb.dom, fun a π e => ?_, Sb.len, fun j sl' e n => ?_⟩, own Z rfl (S.no0 hl)⟩
      · by_cases z : a = l
        · subst z
          obtain ⟨h1, h2, _⟩ := S'.own a _ hω
          exact ⟨h1, h2, .inr (S.no0 hl)⟩
        · rw [ownW_ne z] at e; exact Sb.own a π e
      · obtain ⟨w, h1, h2⟩ := Sb.slots j sl' e n
        exact ⟨w, h1, Own.mono (Sub.refl _) (fun _ _ _ e => e) (fun a e => by
          rw [ownW_ne (fun z => by subst z; rw [S.noW hl] at e; cases e)]; exact e) h2⟩
    have fin := @fin' sl v
    cases sl with
    | lst xs => obtain ⟨l, vs, rfl, hω, h0, hl, hr⟩ := hv; exact fin l hω h0 fun Z' hk z => ⟨l, vs, rfl, ownW_same, z, hl, by rw [hk]; exact hr⟩
    | dK xs => obtain ⟨l, vs, rfl, hω, h0, hl, hr⟩ := hv; exact fin l hω h0 fun Z' hk z => ⟨l, vs, rfl, ownW_same, z, hl, by rw [hk]; exact hr⟩
    | dT xs => obtain ⟨l, vs, rfl, hω, h0, hl, hr⟩ := hv; exact fin l hω h0 fun Z' hk z => ⟨l, vs, rfl, ownW_same, z, hl, by rw [hk]; exact hr⟩
    | nst xs =>
      obtain ⟨l, b, vs, rfl, hω, h0, hl, hr, hnb, hb⟩ := hv
      obtain ⟨ω2, e1, l', vs', ez, eo, e0, eh, er⟩ : ∃ ω2, SR Z F' ω2 ρ σ H' ∧ VR Z F' ω2 σ ρ.length H' (.new (.lst xs)) (.ref l) := fin' l hω h0 fun Z' hk z => ⟨l, _, rfl, ownW_same, z, hl, by rw [hk]; exact hr⟩
      cases ez
      rw [hl] at eh; cases eh
      exact ⟨ω2, e1, l, b, vs, rfl, eo, e0, hl, er, hnb, S.no0 hb⟩
    | _ => cases hr
end
end PL
end

section
set_option maxRecDepth 100000
set_option maxHeartbeats 1000000
/-! PL, twelfth part: calls as rules; lists and dicts changed. -/
namespace PL
open PySem L2
section
variable {X : Cx} {W : WX} {e c o i : Expr} {es : List Expr} {m ma mb mi mv : M R} {ms : M (List R)} {pos spos py pp pos' apos cpos tpos : Pos} {CX : CXT} {k n : Nat} {f : Addr} {fd : FuncData} {ps : List Str} {mf : List Slot → Res R} {x : Str}
theorem def_core {er : Bool} (ha : PXA X W es ms) :
    ∀ Z F ω ρ σ H Q, Z.K = X.K → SR Z F ω ρ σ H → Okk X W Z σ F (eDef er n mf ms ρ) (fun r ρ' F' ω' H' => ∀ v, VR Z F' ω' σ ρ'.length H' r v → Q v H') →
      wA X es σ H fun vs H1 => spP er X.K X.mg n mf vs H1 Q (fun c d H' => W c d σ H') := by
  intro Z F ω ρ σ H Q hK S ok
  refine ha Z F ω ρ σ H _ hK S ((Okk.bind ok).imp fun rs ρ1 F1 ω1 H1 s1 S1 ok1 vs hvs => ?_)
  cases h1 : argS ρ1 rs with
  | none => simp only [h1] at ok1; exact ok1.elim
  | some ss =>
    simp only [h1] at ok1
    unfold argS at h1
    cases h2 : rsls ρ1 rs with
    | none => rw [h2] at h1; cases h1
    | some s0 =>
      rw [h2] at h1
      have h1 : (if noNon s0 then some (s0.map toBor) else none) = some ss := h1
      split at h1
      · rename_i hnn
        cases h1
        split at ok1
        · rename_i hl
          have hA := S1.args hvs h2 hnn
          rw [hK] at hA
          refine ⟨F1, _, S1.sub, S1.kind, hA.length.trans hl, hA, ?_⟩
          cases hm : mf (s0.map toBor) with
          | bad => simp only [hm] at ok1; exact ok1.elim
          | err x ρ' =>
            simp only [hm] at ok1
            cases er with
            | false => exact ok1.elim
            | true =>
              refine ⟨rfl, fun X' c d F' ω' H' e1 e2 S' xr => ?_⟩
              rw [← hK] at S'
              refine ok1 F' ω1 H' c d S'.sub0 (S1.leave (fun a o e => S'.keep a o e fun z => z) S'.sub0 S'.sub S'.kind S'.newF) ?_
              unfold XR at xr ⊢
              rw [e1, e2] at xr
              exact xr
          | ok r ρ' =>
            simp only [hm] at ok1
            split at ok1
            · rename_i hg
              intro v F' ω' H' S' hv
              rw [← hK] at S' hv
              obtain ⟨ω2, S2, hv2⟩ := S1.merge S' hg hv
              exact ok1 F' ω2 H' S'.sub0 S2 v hv2
            · exact ok1.elim
        · exact ok1.elim
      · cases h1
/-- a call of a def that lets nothing out -/
theorem px_call (F : FnOk X.prog X.w X.K X.mg X.base CX k f fd ps (spP false X.K X.mg n mf)) (hr : Room k X.A) (hm : X.mg x = some (.ref f)) (hk : PySem.W.keepIn X.K (.ref f) = true) (hb : Binds X.K fd ps []) (hx : Passes CX X E0)
    (ha : PXA X W (e :: es) ms) (hg : Gl X x := by rfl) (hdb : (x == ("__debug__" : Str)) = false := by decide) (he : starEach (e :: es) X.env = (false, eval e X.env) :: starEach es X.env := by rfl) (hpl : (backTo pos (starEach es X.env)).any (·.1) = false := by rfl) :
    PX X W (.Call (.Name x pp) (e :: es) [] pos) (eDef false n mf ms) := by
  intro Z F0 ω ρ σ H Q hK S ok
  refine wE.of (pe_call F hr hg hm hk hb .nil hx PA.wA hdb he hpl) ?_
  show wA X (e :: es) σ H fun vs H1 => spP false X.K X.mg n mf (vs ++ []) H1 Q E0
  have h := def_core ha Z F0 ω ρ σ H Q hK S ok
  intro ps' pins s I
  refine thn (h ps' pins s I) fun us s' ⟨vs, H1, I1, r, F1, ss, q1, q2, q3, q4, q5⟩ => ⟨vs, H1, I1, r, F1, ss, q1, q2, by rw [List.append_nil]; exact q3, by rw [List.append_nil]; exact q4, ?_⟩
  cases hmf : mf ss with
  | ok r _ => rw [hmf] at q5; exact q5
  | err x _ => rw [hmf] at q5; exact absurd q5.1 (by decide)
  | bad => rw [hmf] at q5; exact q5
/-- a call of a def that may raise -/
theorem px_callX {er : Bool} (F : FnOk X.prog X.w X.K X.mg X.base (L2.CX X.prog X.w) k f fd ps (spP er X.K X.mg n mf)) (hr : Room k X.A) (hm : X.mg x = some (.ref f)) (hk : PySem.W.keepIn X.K (.ref f) = true) (hb : Binds X.K fd ps []) (tk : Takes X W)
    (ha : PXA X W (e :: es) ms) (hg : Gl X x := by rfl) (hdb : (x == ("__debug__" : Str)) = false := by decide) (he : starEach (e :: es) X.env = (false, eval e X.env) :: starEach es X.env := by rfl) (hpl : (backTo pos (starEach es X.env)).any (·.1) = false := by rfl) :
    PX X W (.Call (.Name x pp) (e :: es) [] pos) (eDef er n mf ms) := by
  intro Z F0 ω ρ σ H Q hK S ok
  refine wE.of (pe_callS F hr hg hm hk hb (fun σ => passAt tk σ) PA.wA hdb he hpl) ?_
  exact def_core ha Z F0 ω ρ σ H Q hK S ok
/-! ### x.append(e), x[i] = e of a slot's own list; d[k] = e, del d[k] of a slot's own dict; x += e -/
def sApp (j : Nat) (m : M R) : M Fl := fun ρ => match ρ[j]? with
  | some (.lst _) => (opd m ρ).bind fun r ρ1 => match keepR ρ1 r, ρ1[j]? with
    | some d, some (.lst xs) => if xs.length < sizeLine then .ok .nx (ρ1.set j (.lst (xs ++ [d]))) else .bad
    | _, _ => .bad
  | _ => .bad
theorem SR.getLst {Z : Zone} {F H : Hp} {ω : Addr → Option Path} {ρ : PEnv} {σ : St} {j : Nat} {xs : List PyData} (S : SR Z F ω ρ σ H) (hs : ρ[j]? = some (.lst xs)) :
    ∃ l vs, σ[j]? = some (some (.ref l)) ∧ ω l = some (j, 0) ∧ Z.H0 l = none ∧ H l = some (.lst vs) ∧ RpAll Z.K F vs xs := by
  obtain ⟨v, hv, l, vs, rfl, hω, h0, hl, hr⟩ := S.slots j _ hs (by simp)
  exact ⟨l, vs, hv, hω, h0, hl, hr⟩
theorem ps_app {j : Nat} {xp : Pos} (he : PX X W e m) (hN : X.N[j]? = some x := by rfl) (hv : Vis X.env.scope x := by first | exact Or.inl rfl | exact Or.inr (Or.inl rfl) | exact Or.inr (Or.inr rfl)) (hd : (x == ("__debug__" : Str)) = false := by decide)
    (hcd : (x == ("__classdict__" : Str)) = false := by decide) (hbase : attributeBase (.Name x xp) "append" X.env (eval (.Name x xp) X.env) = eval (.Name x xp) X.env := by rfl)
    (hfew : ((backTo cpos (starEach [e] X.env)).all (fun x => !x.1) && (backToKw cpos (keywordEach [] X.env)).all (fun x => x.1.isSome)
      && decide (([e] : List Expr).length + ([] : List Keyword).length + (if ([] : List Keyword).isEmpty then 0 else 1) < 30)) = true := by rfl)
    (hline : (apos.endLine == cpos.line) = true := by rfl) (hs : starEach [e] X.env = (false, eval e X.env) :: starEach [] X.env := by rfl) (hplain : (backTo cpos (starEach [] X.env)).any (·.1) = false := by rfl)
    (hsw : swapsWith (.Call (.Attribute (.Name x xp) "append" apos) [e] [] cpos) none spos.line X.env = pure false := by rfl) : PSX X W (.Expr (.Call (.Attribute (.Name x xp) "append" apos) [e] [] cpos) spos) (sApp j m) := by
  intro Z F ω ρ σ H D hK S ok
  refine wS.of (ps_expr (pe_bm PySem.F.plainAttrs_list PySem.F.slot_list_append PySem.F.type_list_append mt_append (pe_var (i := j) hN hv hd hcd) (pa_cons PE.wE pa_nil hs) hbase hfew hline hs hplain) hsw) ?_
  unfold sApp at ok
  cases h0 : ρ[j]? with
  | none => simp only [h0] at ok; exact ok.elim
  | some s0 =>
    cases s0 with
    | lst xs0 =>
      simp only [h0] at ok
      obtain ⟨l, vs0, hσ, hω, hn, hl, hr⟩ := S.getLst h0
      refine ⟨_, hσ, .inl ⟨rfl, _, .inl (.inl hl)⟩, ?_⟩
      refine he.opd Z F ω ρ σ H _ hK S ((OkS.bind ok).imp fun r ρ1 F1 ω1 H1 s1 S1 ok1 v old hv' => ?_)
      cases hk : keepR ρ1 r with
      | none => simp only [hk] at ok1; exact ok1.elim
      | some d =>
        cases h1 : ρ1[j]? with
        | none => simp only [hk, h1] at ok1; exact ok1.elim
        | some s1' =>
          cases s1' with
          | lst xs =>
            simp only [hk, h1] at ok1
            split at ok1
            · rename_i hz
              obtain ⟨l', vs, hσ', hω', hn', hl', hr'⟩ := S1.getLst h1
              rw [hσ] at hσ'
              cases hσ'
              refine ⟨l, vs, v, rfl, rfl, hl', by rw [hr'.length]; exact hz, ?_⟩
              have hj := (List.getElem?_eq_some_iff.mp h1).1
              exact ok1 F1 ω1 σ _ (Sub.refl _) (S1.inPlace hj hω' hn' hσ ⟨l, _, rfl, hω', hn', upd_same, hr'.append (.cons (S1.kept hv' hk) .nil)⟩)
            · exact ok1.elim
          | _ => simp only [hk, h1] at ok1; exact ok1.elim
    | _ => simp only [h0] at ok; exact ok.elim
/-- x[i] = e, a list -/
def sPutL (j : Nat) (mv mi : M R) : M Fl := fun ρ => (opd mv ρ).bind fun r ρ1 => match ρ1[j]? with
  | some (.lst _) => (opd mi ρ1).bind fun ri ρ2 => match keepR ρ2 r, rv ρ2 ri, ρ2[j]? with
    | some d, some (.int k), some (.lst xs) => match ixN xs.length k with
      | some a => .ok .nx (ρ2.set j (.lst (xs.set a d)))
      | none => .bad
    | _, _, _ => .bad
  | _ => .bad
theorem ps_putL {j : Nat} {xp : Pos} (hmv : PX X W e mv) (hmi : PX X W i mi) (hN : X.N[j]? = some x := by rfl) (hv : Vis X.env.scope x := by first | exact Or.inl rfl | exact Or.inr (Or.inl rfl) | exact Or.inr (Or.inr rfl)) (hd : (x == ("__debug__" : Str)) = false := by decide)
    (hcd : (x == ("__classdict__" : Str)) = false := by decide) (hs : swapsWithSole [.Subscript (.Name x xp) i tpos] e pos.line X.env = pure false := by rfl) (hw : swappedStores [.Subscript (.Name x xp) i tpos] e X.env = pure none := by rfl)
    (h1 : (assignEach [.Subscript (.Name x xp) i tpos] X.env).map (·.2) = [assign (.Subscript (.Name x xp) i tpos) X.env] := by rfl)
    (hpg : ∀ {to ti : TE} {t : TSet}, PE X (.Name x xp) to → PE X i ti → PSet X t → PG X (.Subscript (.Name x xp) i tpos) (gSub to ti t) := by exact fun a b c => pg_sub a b c) : PSX X W (.Assign [.Subscript (.Name x xp) i tpos] e pos) (sPutL j mv mi) := by
  intro Z F ω ρ σ H D hK S ok
  refine wS.of (ps_asg PE.wE (hpg (pe_var (i := j) hN hv hd hcd) PE.wE set_list) hs hw h1) ?_
  refine hmv.opd Z F ω ρ σ H _ hK S ((OkS.bind ok).imp fun r ρ1 F1 ω1 H1 s1 S1 ok1 v old hv1 => ?_)
  cases h0 : ρ1[j]? with
  | none => simp only [h0] at ok1; exact ok1.elim
  | some s0 =>
    cases s0 with
    | lst xs0 =>
      simp only [h0] at ok1
      obtain ⟨l, vs0, hσ, hω, hn, hl, hr⟩ := S1.getLst h0
      refine ⟨_, hσ, ?_⟩
      refine hmi.opd Z F1 ω1 ρ1 σ H1 _ hK S1 ((OkS.bind ok1).imp fun ri ρ2 F2 ω2 H2 s2 S2 ok2 w oldi hvi => ?_)
      have hv2 : VR Z F2 ω2 σ ρ2.length H2 r v := by rw [S1.len' S2]; exact hv1.mono s2 old
      cases hk : keepR ρ2 r with
      | none => simp only [hk] at ok2; exact ok2.elim
      | some d =>
        cases hi : rv ρ2 ri with
        | none => simp only [hk, hi] at ok2; exact ok2.elim
        | some di =>
          cases h2 : ρ2[j]? with
          | none => cases di <;> (simp only [hk, hi, h2] at ok2; exact ok2.elim)
          | some s2' =>
            cases di with
            | int kk =>
              cases s2' with
              | lst xs =>
                simp only [hk, hi, h2] at ok2
                cases ha : ixN xs.length kk with
                | none => simp only [ha] at ok2; exact ok2.elim
                | some a =>
                  simp only [ha] at ok2
                  obtain ⟨l', vs, hσ', hω', hn', hl', hr'⟩ := S2.getLst h2
                  rw [hσ] at hσ'
                  cases hσ'
                  refine ⟨l, vs, kk, a, rfl, (S2.view hvi hi).int, hl', by rw [hr'.length]; exact ha, ?_⟩
                  have hj := (List.getElem?_eq_some_iff.mp h2).1
                  exact ok2 F2 ω2 σ _ (Sub.refl _) (S2.inPlace hj hω' hn' hσ ⟨l, _, rfl, hω', hn', upd_same, hr'.set (S2.kept hv2 hk) a⟩)
              | _ => simp only [hk, hi, h2] at ok2; exact ok2.elim
            | _ => simp only [hk, hi, h2] at ok2; exact ok2.elim
    | _ => simp only [h0] at ok1; exact ok1.elim
/-- x += e, ints -/
def sAugI (f : Int → Int → Int) (j : Nat) (m : M R) : M Fl := fun ρ => match ρ[j]? with
  | some (.dat (.int a)) => (opd m ρ).bind fun r ρ1 => match rv ρ1 r with
    | some (.int b) => if j < ρ1.length then .ok .nx (ρ1.set j (.dat (.int (f a b)))) else .bad
    | _ => .bad
  | _ => .bad
theorem ps_augI {j : Nat} {op : Operator} {f : Int → Int → Int} (hop : PIp X op (ipI f)) (hN : X.N.Nodup) (he : PX X W e m) (hi : X.N[j]? = some x := by rfl) (hx : Loc X.env.scope x := by first | exact Or.inl rfl | exact Or.inr rfl)
    (hf : X.fn x = true ∨ X.env.scope.names.lookup x = some .local := by first | exact .inl rfl | exact .inr rfl | assumption) : PSX X W (.AugAssign (.Name x pos') op e pos) (sAugI f j m) := by
  intro Z F ω ρ σ H D hK S ok
  refine wS.of (ps_aug hN hi hx PE.wE hop hf) ?_
  unfold sAugI at ok
  cases h0 : ρ[j]? with
  | none => simp only [h0] at ok; exact ok.elim
  | some s0 =>
    cases s0 with
    | dat d0 =>
      cases d0 with
      | int a =>
        simp only [h0] at ok
        obtain ⟨v, hv, hr⟩ := S.slots j _ h0 (by simp)
        cases hr
        refine ⟨_, hv, ?_⟩
        refine he.opd Z F ω ρ σ H _ hK S ((OkS.bind ok).imp fun r ρ1 F1 ω1 H1 s1 S1 ok1 w old hw => ?_)
        cases h1 : rv ρ1 r with
        | none => simp only [h1] at ok1; exact ok1.elim
        | some d =>
          cases d with
          | int b =>
            simp only [h1] at ok1
            split at ok1
            · rename_i hl
              obtain ⟨ω', S2⟩ := S1.setDat hl (Rp.int (f a b))
              exact ⟨a, b, rfl, (S1.view hw h1).int, ok1 _ _ _ _ (Sub.refl _) S2⟩
            · exact ok1.elim
          | _ => simp only [h1] at ok1; exact ok1.elim
      | _ => simp only [h0] at ok; exact ok.elim
    | _ => simp only [h0] at ok; exact ok.elim
end
end PL
end

section
set_option maxRecDepth 100000
set_option maxHeartbeats 1000000
/-! PL, thirteenth part: dicts made and changed, freezing, names of built-ins. -/
namespace PL
open PySem L2
theorem hu65 {k : Nat} {A : Around} (hr : Room k A) : A.units + 65 < cLine := by have := hr.un; omega
abbrev leP : PyData → PyData → Option R := intCmp fun i j => decide (i ≤ j)
abbrev gtP : PyData → PyData → Option R := intCmp fun i j => decide (j < i)
abbrev geP : PyData → PyData → Option R := intCmp fun i j => decide (j ≤ i)
theorem bt_len : bootBuiltins "len" = some (.builtin "len") := by decide +kernel
theorem bt_abs : bootBuiltins "abs" = some (.builtin "abs") := by decide +kernel
theorem bt_max : bootBuiltins "max" = some (.builtin "max") := by decide +kernel
theorem bt_min : bootBuiltins "min" = some (.builtin "min") := by decide +kernel
theorem bt_sum : bootBuiltins "sum" = some (.builtin "sum") := by decide +kernel
theorem bt_any : bootBuiltins "any" = some (.builtin "any") := by decide +kernel
theorem bt_all : bootBuiltins "all" = some (.builtin "all") := by decide +kernel
theorem bt_sorted : bootBuiltins "sorted" = some (.builtin "sorted") := by decide +kernel
theorem bt_isinstance : bootBuiltins "isinstance" = some (.builtin "isinstance") := by decide +kernel
theorem bt_list : bootBuiltins "list" = some (.type "list") := by decide +kernel
theorem bt_tuple : bootBuiltins "tuple" = some (.type "tuple") := by decide +kernel
theorem bt_int : bootBuiltins "int" = some (.type "int") := by decide +kernel
theorem bt_str : bootBuiltins "str" = some (.type "str") := by decide +kernel
theorem bt_dict : bootBuiltins "dict" = some (.type "dict") := by decide +kernel
section
variable {X : Cx} {W : WX} {e c o i : Expr} {es : List Expr} {m ma mb mi mv : M R} {ms : M (List R)} {pos spos py pp pos' apos cpos tpos : Pos} {x : Str} {st : Stmt}
theorem px_globI {n : Int} (h : ∃ t, X.mg x = some (.int n t)) (hg : Gl X x := by rfl) (hd : (x == ("__debug__" : Str)) = false := by decide) : PX X W (.Name x pos) (eC (.int n)) := by
  obtain ⟨t, h⟩ := h
  exact px_glob (v := .int n) h ⟨t, rfl⟩ (fun F => .int n) hg hd
theorem px_globS {z : Str} (h : ∃ t, X.mg x = some (.str z t)) (hg : Gl X x := by rfl) (hd : (x == ("__debug__" : Str)) = false := by decide) : PX X W (.Name x pos) (eC (.str z)) := by
  obtain ⟨t, h⟩ := h
  exact px_glob (v := .str z) h ⟨t, rfl⟩ (fun F => .str z) hg hd
/-! ### {} -/
def eNewK : M R := fun ρ => .ok (.new (.dK [])) ρ
def eNewT : M R := fun ρ => .ok (.new (.dT [])) ρ
theorem px_newK : PX X W (.Dict [] [] pos) eNewK := by
  intro Z F ω ρ σ H Q hK S ok
  refine wE.of pe_dnewK fun p hp => ?_
  obtain ⟨ω', n1, n2⟩ := S.newThing (o := .dK []) (sl := .dK []) hp fun ω' e z => ⟨p, [], rfl, e, z, upd_same, .nil⟩
  exact ok F ω' _ (Sub.refl _) n1 _ n2
theorem px_newT : PX X W (.Dict [] [] pos) eNewT := by
  intro Z F ω ρ σ H Q hK S ok
  refine wE.of pe_dnewT fun p hp => ?_
  obtain ⟨ω', n1, n2⟩ := S.newThing (o := .dT []) (sl := .dT []) hp fun ω' e z => ⟨p, [], rfl, e, z, upd_same, .nil⟩
  exact ok F ω' _ (Sub.refl _) n1 _ n2
/-! ### a slot's own list or dict is frozen ahead of a statement -/
def frzE (j : Nat) (ρ : PEnv) : PEnv := match ρ[j]? with
  | some (.lst xs) => ρ.set j (.dat (.list xs))
  | some (.dK kvs) => ρ.set j (.dat (.dict (kvs.map fun kv => (keyD kv.1, kv.2))))
  | _ => ρ
def sFrz (j : Nat) (m : M Fl) : M Fl := fun ρ => m (frzE j ρ)
theorem SR.frzSlotK {Z : Zone} {F H : Hp} {ω : Addr → Option Path} {ρ : PEnv} {σ : St} {j : Nat} {kvs : List (Key × PyData)} (S : SR Z F ω ρ σ H) (hs : ρ[j]? = some (.dK kvs)) :
    ∃ F' ω', Sub F F' ∧ SR Z F' ω' (ρ.set j (.dat (.dict (kvs.map fun kv => (keyD kv.1, kv.2))))) σ H := by
  have hj := (List.getElem?_eq_some_iff.mp hs).1
  obtain ⟨v, hv, l, vs, rfl, hω, h0, hl, hr⟩ := S.slots j _ hs (by simp)
  have S1 := S.forget (i := j)
  obtain ⟨S2, s⟩ := S1.frzAt hl trivial hω h0 fun i sl e n z => by
    injection z with z _
    subst z
    rw [List.getElem?_set_self hj] at e
    cases e
    exact n rfl
  refine ⟨_, dropW ω (j, 0), s, S2.sub, S2.kind, S2.sub0, S2.newF, S2.keep, S2.dom, S2.own, by simpa using S2.len, fun i sl e n => ?_⟩
  by_cases hi : i = j
  · subst hi
    rw [List.getElem?_set_self hj] at e
    cases e
    refine ⟨_, hv, ?_⟩
    show Rp _ _ _ (.dict _)
    rw [← zip_maps]
    exact .dK upd_same (by rw [hr.length]; simp) (hr.mono s)
  · rw [List.getElem?_set_ne (fun z => hi z.symm)] at e
    exact S2.slots i sl (by rw [List.getElem?_set_ne (fun z => hi z.symm)]; exact e) n
theorem SR.frzE {Z : Zone} {F H : Hp} {ω : Addr → Option Path} {ρ : PEnv} {σ : St} (j : Nat) (S : SR Z F ω ρ σ H) : ∃ F' ω', Sub F F' ∧ SR Z F' ω' (frzE j ρ) σ H := by
  unfold PL.frzE
  split
  · rename_i xs h
    obtain ⟨F', ω', _, _, s, S', _⟩ := S.frzSlot h
    exact ⟨F', ω', s, S'⟩
  · rename_i kvs h
    exact S.frzSlotK h
  · exact ⟨F, ω, Sub.refl F, S⟩
theorem ps_frz {j : Nat} {m : M Fl} (h : PSX X W st m) : PSX X W st (sFrz j m) := by
  intro Z F ω ρ σ H D hK S ok
  obtain ⟨F', ω', s, S'⟩ := S.frzE j
  exact h Z F' ω' _ σ H D hK S' (OkS.sub s ok)
/-! ### x[i] = e -/
/-- d[k] = e, a slot's own dict -/
def sPutD (j : Nat) (mv mi : M R) : M Fl := fun ρ => (opd mv ρ).bind fun r ρ1 => match ρ1[j]? with
  | some .non => .bad
  | none => .bad
  | some _ => (opd mi ρ1).bind fun ri ρ2 => match keepR ρ2 r, rv ρ2 ri with
    | some d, some x => match ρ2[j]? with
      | some (.dK kvs) => match toKey x with
        | some k => if kvs.length < sizeLine then .ok .nx (ρ2.set j (.dK (putA kvs k d))) else .bad
        | none => .bad
      | some (.dT kvs) => match x with
        | .tuple xs => match toKeys xs with
          | some k => if kvs.length < sizeLine then .ok .nx (ρ2.set j (.dT (putA kvs k d))) else .bad
          | none => .bad
        | _ => .bad
      | _ => .bad
    | _, _ => .bad
theorem putA_rp {κ : Type} [DecidableEq κ] {K : PySem.W.Frag} {F : Hp} {v : V} {d : PyData} (k : κ) (h : Rp K F v d) {kvs : List (κ × PyData)} {vs : List V} (r : RpAll K F vs (kvs.map (·.2))) :
    ∃ vs', putK ((kvs.map (·.1)).zip vs) k v = ((putA kvs k d).map (·.1)).zip vs' ∧ RpAll K F vs' ((putA kvs k d).map (·.2)) := by
  have any : ∀ (kvs : List (κ × PyData)) {vs : List V}, RpAll K F vs (kvs.map (·.2)) → (((kvs.map (·.1)).zip vs).any fun kv => decide (kv.1 = k)) = kvs.any fun kv => decide (kv.1 = k) := by
    intro kvs
    induction kvs with
    | nil => intro vs r; rfl
    | cons a l ih =>
      intro vs r
      cases r with
      | cons _ t => simp only [List.map_cons, List.zip_cons_cons, List.any_cons, ih t]
  have rep : ∀ (kvs : List (κ × PyData)) {vs : List V}, RpAll K F vs (kvs.map (·.2)) → ∃ vs', (((kvs.map (·.1)).zip vs).map fun kv => if kv.1 = k then (kv.1, v) else kv) = ((kvs.map fun kv => if kv.1 = k then (kv.1, d) else kv).map (·.1)).zip vs' ∧
      RpAll K F vs' ((kvs.map fun kv => if kv.1 = k then (kv.1, d) else kv).map (·.2)) := by
    intro kvs
    induction kvs with
    | nil => intro vs r; exact ⟨[], rfl, .nil⟩
    | cons a l ih =>
      intro vs r
      cases r with
      | cons h1 t =>
        rename_i w ws
        obtain ⟨vs', e, r'⟩ := ih t
        by_cases c : a.1 = k
        · refine ⟨v :: vs', ?_, ?_⟩
          · simp only [List.map_cons, List.zip_cons_cons, e, if_pos c]
          · simp only [List.map_cons, if_pos c]; exact .cons h r'
        · refine ⟨w :: vs', ?_, ?_⟩
          · simp only [List.map_cons, List.zip_cons_cons, e, if_neg c]
          · simp only [List.map_cons, if_neg c]; exact .cons h1 r'
  unfold putK putA
  rw [any kvs r]
  by_cases c : (kvs.any fun kv => decide (kv.1 = k)) = true
  · rw [if_pos c, if_pos c]; exact rep kvs r
  · rw [if_neg c, if_neg c]
    refine ⟨vs ++ [v], ?_, ?_⟩
    · rw [List.map_append, List.zip_append (by rw [r.length]; simp)]; rfl
    · rw [List.map_append]; exact r.append (.cons h .nil)
theorem ps_putD {j : Nat} {xp : Pos} {k : Nat} (hr : Room k X.A) (hmv : PX X W e mv) (hmi : PX X W i mi) (hN : X.N[j]? = some x := by rfl) (hv : Vis X.env.scope x := by first | exact Or.inl rfl | exact Or.inr (Or.inl rfl) | exact Or.inr (Or.inr rfl)) (hd : (x == ("__debug__" : Str)) = false := by decide)
    (hcd : (x == ("__classdict__" : Str)) = false := by decide) (hs : swapsWith e (some (.Subscript (.Name x xp) i tpos)) pos.line X.env = pure false := by rfl) : PSX X W (.Assign [.Subscript (.Name x xp) i tpos] e pos) (sPutD j mv mi) := by
  intro Z F ω ρ σ H D hK S ok
  refine wS.of (ps_dput (hu_of hr) (pe_var (i := j) hN hv hd hcd) PE.wE PE.wE hs) ?_
  refine hmv.opd Z F ω ρ σ H _ hK S ((OkS.bind ok).imp fun r ρ1 F1 ω1 H1 s1 S1 ok1 v old hv1 => ?_)
  cases h0 : ρ1[j]? with
  | none => simp only [h0] at ok1; exact ok1.elim
  | some s0 =>
    have nn : s0 ≠ .non := by intro z; subst z; simp only [h0] at ok1; exact ok1.elim
    obtain ⟨u, hu, _⟩ := S1.slots j _ h0 nn
    have ok1' : OkS X W Z F1 ((opd mi ρ1).bind fun ri ρ2 => match keepR ρ2 r, rv ρ2 ri with
      | some d, some x => match ρ2[j]? with
        | some (.dK kvs) => match toKey x with
          | some k => if kvs.length < sizeLine then .ok .nx (ρ2.set j (.dK (putA kvs k d))) else .bad
          | none => .bad
        | some (.dT kvs) => match x with
          | .tuple xs => match toKeys xs with
            | some k => if kvs.length < sizeLine then .ok .nx (ρ2.set j (.dT (putA kvs k d))) else .bad
            | none => .bad
          | _ => .bad
        | _ => .bad
      | _, _ => .bad) D := by
      cases s0 <;> first | exact absurd rfl nn | (simp only [h0] at ok1; exact ok1)
    refine ⟨u, hu, ?_⟩
    refine hmi.opd Z F1 ω1 ρ1 σ H1 _ hK S1 ((OkS.bind ok1').imp fun ri ρ2 F2 ω2 H2 s2 S2 ok2 w oldi hvi => ?_)
    have hv2 : VR Z F2 ω2 σ ρ2.length H2 r v := by rw [S1.len' S2]; exact hv1.mono s2 old
    cases hk : keepR ρ2 r with
    | none => simp only [hk] at ok2; exact ok2.elim
    | some d =>
      have hvd := S2.kept hv2 hk
      cases hi : rv ρ2 ri with
      | none => simp only [hk, hi] at ok2; exact ok2.elim
      | some di =>
        have hwi := S2.view hvi hi
        cases h2 : ρ2[j]? with
        | none => simp only [hk, hi, h2] at ok2; exact ok2.elim
        | some s2' =>
          have hj := (List.getElem?_eq_some_iff.mp h2).1
          cases s2' with
          | dK kvs =>
            simp only [hk, hi, h2] at ok2
            cases ht : toKey di with
            | none => simp only [ht] at ok2; exact ok2.elim
            | some kk =>
              simp only [ht] at ok2
              split at ok2
              · rename_i hz
                obtain ⟨v', hv', l, vs, rfl, hω, h0', hl, hr'⟩ := S2.slots j _ h2 (by simp)
                rw [hu] at hv'; cases hv'
                have ed := toKey_eq ht
                subst ed
                have ex : w = kV kk := by
                  rcases hwi with hx | ⟨_, _, _, _, ez, _⟩
                  · exact rp_key hx
                  · cases kk <;> cases ez
                subst ex
                obtain ⟨vs', e1, e2⟩ := putA_rp kk hvd hr'
                refine ⟨l, _, rfl, DPut.k hl (by rw [List.length_zip, hr'.length]; simp; exact hz), ?_⟩
                rw [e1]
                exact ok2 F2 ω2 σ _ (Sub.refl _) (S2.inPlace hj hω h0' hu ⟨l, vs', rfl, hω, h0', upd_same, e2⟩)
              · exact ok2.elim
          | dT kvs =>
            simp only [hk, hi, h2] at ok2
            cases di with
            | tuple xs =>
              simp only at ok2
              cases ht : toKeys xs with
              | none => simp only [ht] at ok2; exact ok2.elim
              | some kk =>
                simp only [ht] at ok2
                split at ok2
                · rename_i hz
                  obtain ⟨v', hv', l, vs, rfl, hω, h0', hl, hr'⟩ := S2.slots j _ h2 (by simp)
                  rw [hu] at hv'; cases hv'
                  have ed := toKeys_eq ht
                  subst ed
                  obtain ⟨b, us, rfl, hb, hbr, _⟩ := hwi.tuple' S2.sub
                  rw [rp_keys hbr] at hb
                  obtain ⟨vs', e1, e2⟩ := putA_rp kk hvd hr'
                  refine ⟨l, _, rfl, DPut.t hl hb (by rw [List.length_zip, hr'.length]; simp; exact hz), ?_⟩
                  rw [e1]
                  exact ok2 F2 ω2 σ _ (Sub.refl _) (S2.inPlace hj hω h0' hu ⟨l, vs', rfl, hω, h0', upd_same, e2⟩)
                · exact ok2.elim
            | _ => simp only at ok2; exact ok2.elim
          | _ => simp only [hk, hi, h2] at ok2; exact ok2.elim
/-- x[i] = e, by what the slot holds -/
def sPut (j : Nat) (mv mi : M R) : M Fl := fun ρ => match ρ[j]? with
  | some (.lst _) => sPutL j mv mi ρ
  | _ => sPutD j mv mi ρ
theorem ps_put {j : Nat} {xp : Pos} {k : Nat} (hr : Room k X.A) (hmv : PX X W e mv) (hmi : PX X W i mi) (hN : X.N[j]? = some x := by rfl) (hv : Vis X.env.scope x := by first | exact Or.inl rfl | exact Or.inr (Or.inl rfl) | exact Or.inr (Or.inr rfl)) (hd : (x == ("__debug__" : Str)) = false := by decide)
    (hcd : (x == ("__classdict__" : Str)) = false := by decide) (hs : swapsWithSole [.Subscript (.Name x xp) i tpos] e pos.line X.env = pure false := by rfl) (hw : swappedStores [.Subscript (.Name x xp) i tpos] e X.env = pure none := by rfl)
    (h1 : (assignEach [.Subscript (.Name x xp) i tpos] X.env).map (·.2) = [assign (.Subscript (.Name x xp) i tpos) X.env] := by rfl)
    (hpg : ∀ {to ti : TE} {t : TSet}, PE X (.Name x xp) to → PE X i ti → PSet X t → PG X (.Subscript (.Name x xp) i tpos) (gSub to ti t) := by exact fun a b c => pg_sub a b c)
    (hs2 : swapsWith e (some (.Subscript (.Name x xp) i tpos)) pos.line X.env = pure false := by rfl) : PSX X W (.Assign [.Subscript (.Name x xp) i tpos] e pos) (sPut j mv mi) := by
  intro Z F ω ρ σ H D hK S ok
  unfold sPut at ok
  split at ok
  · exact ps_putL hmv hmi hN hv hd hcd hs hw h1 hpg Z F ω ρ σ H D hK S ok
  · exact ps_putD hr hmv hmi hN hv hd hcd hs2 Z F ω ρ σ H D hK S ok
end
end PL
end

section
set_option maxRecDepth 100000
set_option maxHeartbeats 1000000
/-! PL, fourteenth part: a list whose first item is nobody else's. -/
namespace PL
open PySem L2
theorem Rp.there {K : PySem.W.Frag} {F : Hp} {b : Addr} {d : PyData} (h : Rp K F (.ref b) d) : F b ≠ none := by
  cases h with
  | lst e _ => rw [e]; simp
  | tup e _ => rw [e]; simp
  | dK e _ _ => rw [e]; simp
  | dT e _ _ => rw [e]; simp
section
variable {X : Cx} {W : WX} {e c o i : Expr} {es : List Expr} {m ma mb mi mv : M R} {ms : M (List R)} {pos spos py pp pos' pos2 pos3 pos4 pos5 pos6 apos cpos tpos : Pos} {x : Str} {st : Stmt}
/-- [e], e a new list -/
def eLstN (m : M R) : M R := fun ρ => (m ρ).bind fun r ρ1 => match r with
  | .new (.lst r0) => .ok (.new (.nst [.list r0])) ρ1
  | _ => .bad
theorem px_lstN (h : PX X W e m) (hs : starEach [e] X.env = (false, eval e X.env) :: starEach [] X.env := by rfl) : PX X W (.List [e] pos) (eLstN m) := by
  intro Z F ω ρ σ H Q hK S ok
  refine wE.of (pe_lst (pa_cons PE.wE pa_nil hs)) ?_
  refine h Z F ω ρ σ H _ hK S ((Okk.bind ok).imp fun r ρ1 F1 ω1 H1 s1 S1 ok1 v hv => ?_)
  cases r with
  | dat _ => exact ok1.elim
  | slot _ => exact ok1.elim
  | new sl =>
    cases sl with
    | lst r0 =>
      obtain ⟨l, vs, rfl, hω, h0, hl, hr⟩ := hv
      obtain ⟨n1, n2⟩ := S1.frzAt hl trivial hω h0 S1.path_new
      refine ⟨by show 1 ≤ sizeLine; decide, fun p hp => ?_⟩
      obtain ⟨ω', k1, k2⟩ := n1.newThing (o := .lst [.ref l]) (sl := .nst [.list r0]) hp fun ω' e z => ⟨p, l, [], rfl, e, z, upd_same, .cons (.lst upd_same (hr.mono n2)) .nil, by simp, h0⟩
      exact ok1 _ ω' _ n2 k1 _ k2
    | _ => exact ok1.elim
/-- x.append(e), e a new list -/
def sAppN (j : Nat) (m : M R) : M Fl := fun ρ => match ρ[j]? with
  | some (.nst _) => (m ρ).bind fun r ρ1 => match r, ρ1[j]? with
    | .new (.lst r1), some (.nst xs) => if xs.length < sizeLine then .ok .nx (ρ1.set j (.nst (xs ++ [.list r1]))) else .bad
    | _, _ => .bad
  | _ => .bad
theorem ps_appN {j : Nat} {xp : Pos} (he : PX X W e m) (hN : X.N[j]? = some x := by rfl) (hv : Vis X.env.scope x := by first | exact Or.inl rfl | exact Or.inr (Or.inl rfl) | exact Or.inr (Or.inr rfl)) (hd : (x == ("__debug__" : Str)) = false := by decide)
    (hcd : (x == ("__classdict__" : Str)) = false := by decide) (hbase : attributeBase (.Name x xp) "append" X.env (eval (.Name x xp) X.env) = eval (.Name x xp) X.env := by rfl)
    (hfew : ((backTo cpos (starEach [e] X.env)).all (fun x => !x.1) && (backToKw cpos (keywordEach [] X.env)).all (fun x => x.1.isSome)
      && decide (([e] : List Expr).length + ([] : List Keyword).length + (if ([] : List Keyword).isEmpty then 0 else 1) < 30)) = true := by rfl)
    (hline : (apos.endLine == cpos.line) = true := by rfl) (hs : starEach [e] X.env = (false, eval e X.env) :: starEach [] X.env := by rfl) (hplain : (backTo cpos (starEach [] X.env)).any (·.1) = false := by rfl)
    (hsw : swapsWith (.Call (.Attribute (.Name x xp) "append" apos) [e] [] cpos) none spos.line X.env = pure false := by rfl) : PSX X W (.Expr (.Call (.Attribute (.Name x xp) "append" apos) [e] [] cpos) spos) (sAppN j m) := by
  intro Z F ω ρ σ H D hK S ok
  refine wS.of (ps_expr (pe_bm PySem.F.plainAttrs_list PySem.F.slot_list_append PySem.F.type_list_append mt_append (pe_var (i := j) hN hv hd hcd) (pa_cons PE.wE pa_nil hs) hbase hfew hline hs hplain) hsw) ?_
  unfold sAppN at ok
  cases h0 : ρ[j]? with
  | none => simp only [h0] at ok; exact ok.elim
  | some s0 =>
    cases s0 with
    | nst xs0 =>
      simp only [h0] at ok
      obtain ⟨v0, hσ, l, b, vs0, rfl, hω, hn, hl, hr, hnb, hb0⟩ := S.slots j _ h0 (by simp)
      refine ⟨_, hσ, .inl ⟨rfl, _, .inl (.inl hl)⟩, ?_⟩
      refine he Z F ω ρ σ H _ hK S ((OkS.bind ok).imp fun r ρ1 F1 ω1 H1 s1 S1 ok1 v hv' => ?_)
      cases r with
      | dat _ => exact ok1.elim
      | slot _ => exact ok1.elim
      | new sl =>
        cases sl with
        | lst r1 =>
          cases h1 : ρ1[j]? with
          | none => simp only [h1] at ok1; exact ok1.elim
          | some s1' =>
            cases s1' with
            | nst xs =>
              simp only [h1] at ok1
              split at ok1
              · rename_i hz
                have hj := (List.getElem?_eq_some_iff.mp h1).1
                obtain ⟨v0', hσ', l', b', vs, rfl, hω', hn', hl', hr', hnb', hb'⟩ := S1.slots j _ h1 (by simp)
                rw [hσ] at hσ'
                cases hσ'
                obtain ⟨q, ws, rfl, hqω, hq0, hq, hqr⟩ := hv'
                obtain ⟨n1, n2⟩ := S1.frzAt hq trivial hqω hq0 S1.path_new
                refine ⟨l, _, .ref q, rfl, rfl, hl', by rw [hr'.length]; exact hz, ?_⟩
                have qb : b' ≠ q := by
                  rintro rfl
                  have fb : F1 b' ≠ none := by
                    cases xs with
                    | nil => cases hr'
                    | cons d ds =>
                      cases hr' with
                      | cons hbr _ => exact Rp.there hbr
                  exact fb (S1.own _ _ hqω).1
                have own : Own Z (upd F1 q (.lst ws)) (upd H1 l (.lst (.ref b' :: (vs ++ [.ref q])))) (dropW ω1 (ρ1.length, 0)) (j, 0) (.ref l) (.nst (xs ++ [.list r1])) :=
                  ⟨l, b', vs ++ [.ref q], rfl, dropW_other hω' (fun z => by injection z with z _; omega), hn', upd_same, by
                    have := (hr'.mono n2).append (.cons (.lst upd_same (hqr.mono n2)) .nil)
                    exact this, by
                    intro z
                    rcases List.mem_append.mp z with z | z
                    · exact hnb' z
                    · simp at z; exact qb z, hb'⟩
                exact ok1 _ _ σ _ n2 (n1.inPlace hj (dropW_other hω' (fun z => by injection z with z _; omega)) hn' hσ own)
              · exact ok1.elim
            | _ => simp only [h1] at ok1; exact ok1.elim
        | _ => exact ok1.elim
    | _ => simp only [h0] at ok; exact ok.elim
/-! ### x = f(..) that gives such a list; if t: ..; x[0][0] = e -/
def rowsOf : List PyData → Option (List (List Int))
  | [] => some []
  | .list xs :: ds => match intsOf xs, rowsOf ds with
    | some ns, some r => some (ns :: r)
    | _, _ => none
  | _ :: _ => none
theorem rowsOf_cons {d : PyData} {ds : List PyData} {rs : List (List Int)} (h : rowsOf (d :: ds) = some rs) : ∃ ns rs', rs = ns :: rs' ∧ d = .list (ns.map PyData.int) ∧ rowsOf ds = some rs' := by
  cases d with
  | list xs =>
    simp only [rowsOf] at h
    cases e1 : intsOf xs with
    | none => simp only [e1] at h; cases h
    | some ns =>
      cases e2 : rowsOf ds with
      | none => simp only [e1, e2] at h; cases h
      | some r => simp only [e1, e2] at h; cases h; exact ⟨ns, r, rfl, by rw [intsOf_eq e1], rfl⟩
  | _ => simp [rowsOf] at h
/-- rows at other places stand when b changes -/
theorem rows_other {K : PySem.W.Frag} {F : Hp} {b : Addr} {o : HO} : ∀ {vs : List V} {ds : List PyData} {rs : List (List Int)}, RpAll K F vs ds → rowsOf ds = some rs → V.ref b ∉ vs → RpAll K (upd F b o) vs ds
  | _, _, _, .nil, _, _ => .nil
  | v :: vs, d :: ds, rs, .cons h t, e, n => by
    obtain ⟨ns, rs', rfl, rfl, e'⟩ := rowsOf_cons e
    refine .cons ?_ (rows_other t e' fun z => n (List.mem_cons_of_mem _ z))
    cases h with
    | lst ha hr =>
      rw [RpAll.ints_of hr] at ha
      exact .lst (by rw [upd_ne (fun z => n (by rw [z]; exact List.mem_cons_self ..))]; exact ha) (RpAll.ints ns)
def sNest (i : Nat) (m1 : M R) (t : M Bool) (mr : M Fl) (m3 : M R) (mn : M Fl) : M Fl := fun ρ => match m1 (borE ρ) with
  | .ok (.new (.nst xs)) _ => if i < ρ.length then (match rowsOf xs with
    | some ((n0 :: r0) :: rs) => match t (borE (ρ.set i (.lst xs))) with
      | .ok true _ => match mr (ρ.set i (.lst xs)) with
        | .ok (.ret r) ρ2 => .ok (.ret r) ρ2
        | _ => .bad
      | .ok false _ => match opd m3 (borE (ρ.set i (.lst xs))) with
        | .ok r ρ3 => match rv ρ3 r with
          | some (.int n) => mn (ρ.set i (.lst (((n :: r0) :: rs).map fun r => .list (r.map PyData.int))))
          | _ => .bad
        | _ => .bad
      | _ => .bad
    | _ => .bad) else .bad
  | _ => .bad
theorem rowsOf_eq : ∀ {ds : List PyData} {rs : List (List Int)}, rowsOf ds = some rs → ds = rs.map fun r => .list (r.map PyData.int)
  | [], _, h => by cases h; rfl
  | d :: ds, _, h => by
    obtain ⟨ns, rs', rfl, rfl, e'⟩ := rowsOf_cons h
    rw [rowsOf_eq e']; rfl
theorem SR.adopt {Z : Zone} {F H : Hp} {ω : Addr → Option Path} {ρ : PEnv} {σ : L2.St} {l : Addr} {π : Path} (S : SR Z F ω ρ σ H) (h1 : F l = none) (h2 : H l ≠ none) (h3 : Z.H0 l = none) (h4 : ω l = none) : SR Z F (ownW ω l π) ρ σ H := by
  refine ⟨S.sub, S.kind, S.sub0, S.newF, S.keep, S.dom, fun a π' e => ?_, S.len, fun j sl e n => ?_⟩
  · by_cases z : a = l
    · subst z; exact ⟨h1, h2, .inr h3⟩
    · rw [ownW_ne z] at e; exact S.own a π' e
  · obtain ⟨v, k1, k2⟩ := S.slots j sl e n
    exact ⟨v, k1, Own.mono (Sub.refl _) (fun _ _ _ e => e) (fun a e => by
      rw [ownW_ne (fun z => by subst z; rw [h4] at e; cases e)]; exact e) k2⟩
theorem pss_nest {i : Nat} {e1 c1 e3 : Expr} {sts rest : List Stmt} {m1 m3 : M R} {t : M Bool} {mr mn : M Fl} {j1 j2 : Nat} (hN : X.N.Nodup)
    (h1 : PX X W e1 m1) (h2 : PXT X W c1 t) (hr : PSSX X W sts mr) (h3 : PX X W e3 m3) (hn : PSSX X W rest mn)
    (hi : X.N[i]? = some x := by rfl) (hx : Loc X.env.scope x := by first | exact Or.inl rfl | exact Or.inr rfl) (hv : Vis X.env.scope x := by first | exact Or.inl rfl | exact Or.inr (Or.inl rfl) | exact Or.inr (Or.inr rfl)) (hd : (x == ("__debug__" : Str)) = false := by decide)
    (hcd : (x == ("__classdict__" : Str)) = false := by decide) (hs : swapsWith e1 (some (.Name x pos')) pos.line X.env = pure false := by rfl)
    (hf : X.fn x = true ∨ X.env.scope.names.lookup x = some .local := by first | exact .inl rfl | exact .inr rfl | assumption)
    (hs3 : swapsWithSole [.Subscript (.Subscript (.Name x pp) (.Constant (.int 0) j1 pos2) pos3) (.Constant (.int 0) j2 pos4) tpos] e3 pos5.line X.env = pure false := by rfl)
    (hw : swappedStores [.Subscript (.Subscript (.Name x pp) (.Constant (.int 0) j1 pos2) pos3) (.Constant (.int 0) j2 pos4) tpos] e3 X.env = pure none := by rfl)
    (ha : (assignEach [.Subscript (.Subscript (.Name x pp) (.Constant (.int 0) j1 pos2) pos3) (.Constant (.int 0) j2 pos4) tpos] X.env).map (·.2) = [assign (.Subscript (.Subscript (.Name x pp) (.Constant (.int 0) j1 pos2) pos3) (.Constant (.int 0) j2 pos4) tpos) X.env] := by rfl)
    (hpg : ∀ {to ti : TE} {t : TSet}, PE X (.Subscript (.Name x pp) (.Constant (.int 0) j1 pos2) pos3) to → PE X (.Constant (.int 0) j2 pos4) ti → PSet X t → PG X (.Subscript (.Subscript (.Name x pp) (.Constant (.int 0) j1 pos2) pos3) (.Constant (.int 0) j2 pos4) tpos) (gSub to ti t) := by exact fun a b c => pg_sub a b c) :
    PSSX X W (.Assign [.Name x pos'] e1 pos :: .If c1 sts [] spos :: .Assign [.Subscript (.Subscript (.Name x pp) (.Constant (.int 0) j1 pos2) pos3) (.Constant (.int 0) j2 pos4) tpos] e3 pos5 :: rest) (sNest i m1 t mr m3 mn) := by
  intro Z F ω ρ σ H D hK S ok
  refine wSs.of (pss_cons (ps_set hN hi hx PE.wE hs hf) (pss_cons (ps_if PT.wT PSs.wSs pss_nil) (pss_cons (ps_asg PE.wE (hpg (pe_ix ix_list (pe_var hi hv hd hcd) pe_int (fun _ _ => rfl)) pe_int set_list) hs3 hw ha) PSs.wSs))) ?_
  unfold sNest at ok
  cases e1m : m1 (borE ρ) with
  | bad => simp only [e1m] at ok; exact ok.elim
  | err _ _ => simp only [e1m] at ok; exact ok.elim
  | ok r1 ρ1 =>
  cases r1 with
  | dat _ => simp only [e1m] at ok; exact ok.elim
  | slot _ => simp only [e1m] at ok; exact ok.elim
  | new sl =>
  cases sl with
  | nst xs =>
    simp only [e1m] at ok
    split at ok
    · rename_i hil
      cases ero : rowsOf xs with
      | none => simp only [ero] at ok; exact ok.elim
      | some rws =>
      cases rws with
      | nil => simp only [ero] at ok; exact ok.elim
      | cons r00 rs =>
      cases r00 with
      | nil => simp only [ero] at ok; exact ok.elim
      | cons n0 r0 =>
      simp only [ero] at ok
      refine h1 (Z.sub F H) F _ (borE ρ) σ H _ hK S.enter ?_
      rw [e1m]
      intro F1 ω1 H1 s1 Sa v hv
      obtain ⟨l, b, vs, rfl, hω, h0, hl, hra, hnb, hb0⟩ := hv
      have hl0 : H l = none := h0
      have hbH : H b = none := hb0
      have kH1 : ∀ a o, H a = some o → H1 a = some o := fun a o e => Sa.keep a o e fun z => z
      have Sb : SR Z F1 ω ρ σ H1 := S.back Sa
      have hF1l : F1 l = none := (Sa.own _ _ hω).1
      have Sc := Sb.adopt (π := (ρ.length, 0)) hF1l (by rw [hl]; simp) (S.no0 hl0) (S.noW hl0)
      have Sd := Sc.setE (i := i) (sl := .lst xs) (v := .ref l) hil ⟨l, _, rfl, ownW_same, S.no0 hl0, hl, hra⟩
      show wT X c1 (σ.set i (some (.ref l))) H1 _
      -- the test
      refine h2 (Z.sub F1 H1) F1 _ (borE (ρ.set i (.lst xs))) _ H1 _ hK Sd.enter ?_
      cases et : t (borE (ρ.set i (.lst xs))) with
      | bad => simp only [et] at ok; exact ok.elim
      | err _ _ => simp only [et] at ok; exact ok.elim
      | ok bt ρt =>
      simp only [et] at ok
      intro F2 ω2 H2 s2 Se
      have kH2 : ∀ a o, H1 a = some o → H2 a = some o := fun a o e => Se.keep a o e fun z => z
      have Sf := Sd.back Se
      cases bt with
      | true =>
        rw [if_pos rfl]
        refine hr Z F2 _ _ _ H2 _ hK Sf ?_
        cases hmr : mr (ρ.set i (.lst xs)) with
        | bad => simp only [hmr] at ok; exact ok.elim
        | err _ _ => simp only [hmr] at ok; exact ok.elim
        | ok fl ρ9 =>
          cases fl with
          | ret r => simp only [hmr] at ok; exact OkS.sub (F := F) (s1.trans s2) ok
          | _ => simp only [hmr] at ok; exact ok.elim
      | false =>
        rw [if_neg (by decide)]
        simp only at ok
        cases e3m : opd m3 (borE (ρ.set i (.lst xs))) with
        | bad => simp only [e3m] at ok; exact ok.elim
        | err _ _ => simp only [e3m] at ok; exact ok.elim
        | ok r3 ρ3 =>
        simp only [e3m] at ok
        show wE X e3 (σ.set i (some (.ref l))) H2 _
        refine h3.opd (Z.sub F2 H2) F2 _ (borE (ρ.set i (.lst xs))) _ H2 _ hK Sf.enter ?_
        rw [e3m]
        intro F3 ω3 H3 s3 Sg v3 _ hv3
        have kH3 : ∀ a o, H2 a = some o → H3 a = some o := fun a o e => Sg.keep a o e fun z => z
        have Sh := Sf.back Sg
        cases er : rv ρ3 r3 with
        | none => simp only [er] at ok; exact ok.elim
        | some d3 =>
        cases d3 with
        | int n =>
          simp only [er] at ok
          have ev3 := (Sg.view hv3 er).int
          subst ev3
          obtain ⟨ns0, rs', erw, _, ero'⟩ : ∃ ns rs', (n0 :: r0) :: rs = ns :: rs' ∧ (∃ d ds, xs = d :: ds ∧ d = .list (ns.map PyData.int) ∧ rowsOf ds = some rs') ∧ True := by
            cases xs with
            | nil => simp [rowsOf] at ero
            | cons d ds =>
              obtain ⟨ns, rs', a1, a2, a3⟩ := rowsOf_cons ero
              exact ⟨ns, rs', a1, ⟨d, ds, rfl, a2, a3⟩, trivial⟩
          clear ero'
          cases erw
          rename_i hxs
          obtain ⟨d, ds, rfl, rfl, ero'⟩ := hxs
          cases hra with
          | cons hrb hrv =>
          cases hrb with
          | lst hFb hrw =>
          have ews := RpAll.ints_of hrw
          subst ews
          have hb3 : H3 b = some (.lst (((n0 :: r0).map V.int))) := kH3 _ _ (kH2 _ _ (Sa.sub _ _ hFb))
          have hl3 : H3 l = some (.lst (.ref b :: vs)) := kH3 _ _ (kH2 _ _ hl)
          have hsl : (σ.set i (some (V.ref l)))[i]? = some (some (.ref l)) := List.getElem?_set_self (by rw [← S.len]; exact hil)
          refine ⟨_, hsl, ?_⟩
          refine ⟨l, _, 0, .ref b, rfl, rfl, SqL.of hl3, by simp [atI, ixN], ?_⟩
          refine ⟨b, _, 0, 0, rfl, rfl, hb3, by simp [ixN], ?_⟩
          -- the state behind the store
          have F1b : F b = none := S.noF hbH
          have hlb : l ≠ b := by rintro rfl; rw [hF1l] at hFb; cases hFb
          have hF3b : F3 b = some (.lst ((n0 :: r0).map V.int)) := s3 _ _ (s2 _ _ hFb)
          have nb : ∀ {a : Addr} {o : HO}, H a = some o → a ≠ b := fun {a o} e z => by subst z; rw [hbH] at e; cases e
          refine hn Z (upd F3 b (.lst ((n :: r0).map V.int))) (setW (ownW ω l (ρ.length, 0)) ρ.length i) _ (σ.set i (some (.ref l))) _ D hK ?_ (OkS.sub (F := F) ?_ ok)
          · refine ⟨fun a o e => ?_, fun a o e => ?_, fun a o e => ?_, fun a e => ?_, fun a o e nB => ?_, fun a e => ?_, fun a π e => ?_, by simp [S.len], fun j sl e nn => ?_⟩
            · by_cases z : a = b
              · subst z; rw [upd_same] at e ⊢; exact e
              · rw [upd_ne z] at e ⊢; exact Sh.sub _ _ e
            · by_cases z : a = b
              · subst z; rw [upd_same] at e; cases e; trivial
              · rw [upd_ne z] at e; exact Sh.kind _ _ e
            · rw [upd_ne (nb (S.sub _ _ (S.sub0 _ _ e)))]; exact Sh.sub0 _ _ e
            · by_cases z : a = b
              · subst z; exact .inr (S.no0 hbH)
              · rw [upd_ne z] at e; exact Sh.newF _ e
            · rw [upd_ne (nb (S.keep _ _ e nB))]; exact Sh.keep _ _ e nB
            · by_cases z : a = b
              · subst z; rw [upd_same]; simp
              · rw [upd_ne z]; exact Sh.dom _ e
            · obtain ⟨g1, g2, g3⟩ := Sh.own _ _ e
              have z : a ≠ b := by rintro rfl; rw [hF3b] at g1; cases g1
              exact ⟨by rw [upd_ne z]; exact g1, by rw [upd_ne z]; exact g2, g3⟩
            · by_cases z : j = i
              · subst z
                rw [List.getElem?_set_self hil] at e
                cases e
                refine ⟨_, hsl, l, .ref b :: vs, rfl, setW_new ownW_same, S.no0 hl0, by rw [upd_ne hlb]; exact hl3, ?_⟩
                rw [List.map_cons]
                refine .cons (.lst upd_same (RpAll.ints (n :: r0))) ?_
                have := rows_other (b := b) (o := .lst ((n :: r0).map V.int)) ((hrv.mono s2).mono s3) ero' hnb
                rw [rowsOf_eq ero'] at this
                exact this
              · rw [List.getElem?_set_ne (fun q => z q.symm)] at e
                obtain ⟨w, w1, w2⟩ := S.slots j sl e nn
                refine ⟨w, by rw [List.getElem?_set_ne (fun q => z q.symm)]; exact w1, ?_⟩
                have hjn := (List.getElem?_eq_some_iff.mp e).1
                refine Own.mono (fun a o q => ?_) (fun a o _ q => ?_) (fun a q => ?_) w2
                · rw [upd_ne (nb (S.sub _ _ q))]; exact s3 _ _ (s2 _ _ (s1 _ _ q))
                · rw [upd_ne (nb q)]; exact kH3 _ _ (kH2 _ _ (kH1 _ _ q))
                · refine setW_other ?_ (fun q2 => by injection q2 with q2 _; omega) (fun q2 => by injection q2 with q2 _; omega)
                  rw [ownW_ne (fun q2 => by subst q2; rw [S.noW hl0] at q; cases q)]; exact q
          · intro a o q
            rw [upd_ne (nb (S.sub _ _ q))]; exact s3 _ _ (s2 _ _ (s1 _ _ q))
        | _ => simp only [er] at ok; exact ok.elim
    · exact ok.elim
  | _ => simp only [e1m] at ok; exact ok.elim
end
end PL
end

section
set_option maxRecDepth 100000
set_option maxHeartbeats 1000000
/-! PL, fifteenth part: running mirrors. -/
namespace PL
open PySem L2
theorem Res.bind_ok {α β : Type} (a : α) (ρ : PEnv) (f : α → M β) : (Res.ok a ρ).bind f = f a ρ := rfl
theorem Res.bind_bad {α β : Type} (f : α → M β) : (Res.bad : Res α).bind f = .bad := rfl
theorem Res.bind_err {α β : Type} (x : Exn) (ρ : PEnv) (f : α → M β) : (Res.err x ρ : Res α).bind f = .err x ρ := rfl
/-- r is an answer, and Q holds of it -/
inductive Wp {α : Type} : Res α → (α → PEnv → Prop) → Prop
  | mk {a : α} {ρ : PEnv} {Q : α → PEnv → Prop} : Q a ρ → Wp (.ok a ρ) Q
theorem Wp.out {α : Type} {a : α} {ρ : PEnv} {Q : α → PEnv → Prop} (h : Wp (.ok a ρ) Q) : Q a ρ := by
  cases h with
  | mk h => exact h
section
variable {α : Type} {m n : M Fl} {t : M Bool} {mi : M (List PyData)} {g : PyData → PEnv → Option PEnv} {ρ ρ' : PEnv} {Q : Fl → PEnv → Prop} {b : Bool} {ds : List PyData}
theorem Wp.ok {r : Res α} {Q : α → PEnv → Prop} {a : α} (h : r = .ok a ρ) (k : Q a ρ) : Wp r Q := by rw [h]; exact .mk k
theorem Wp.imp {r : Res α} {Q Q' : α → PEnv → Prop} (h : Wp r Q) (k : ∀ a ρ, Q a ρ → Q' a ρ) : Wp r Q' := by
  cases h with
  | mk h => exact .mk (k _ _ h)
theorem Wp.get {r : Res α} {Q : α → PEnv → Prop} (h : Wp r Q) : ∃ a ρ, r = .ok a ρ ∧ Q a ρ := by
  cases h with
  | mk h => exact ⟨_, _, rfl, h⟩
theorem wp_skip (h : Q .nx ρ) : Wp (sNil ρ) Q := .mk h
theorem wp_seq (h : m ρ = .ok .nx ρ') (k : Wp (n ρ') Q) : Wp (sSeq m n ρ) Q := by unfold sSeq; rw [h]; exact k
theorem wp_seqW (h : Wp (m ρ) fun f ρ' => match f with | .nx => Wp (n ρ') Q | f => Q f ρ') : Wp (sSeq m n ρ) Q := by
  unfold sSeq
  cases e : m ρ with
  | ok f ρ' =>
    rw [e] at h
    have h := h.out
    cases f with
    | nx => exact h
    | _ => exact .mk h
  | err x ρ' => rw [e] at h; cases h
  | bad => rw [e] at h; cases h
theorem wp_if (h : t ρ = .ok b ρ') (k1 : b = true → Wp (m ρ') Q) (k2 : b = false → Wp (n ρ') Q) : Wp (sIf t m n ρ) Q := by
  unfold sIf; rw [h, Res.bind_ok]
  cases b with
  | true => exact k1 rfl
  | false => exact k2 rfl
theorem if_T (h : t ρ = .ok true ρ') {r : Res Fl} (k : m ρ' = r) : sIf t m n ρ = r := by unfold sIf; rw [h, Res.bind_ok]; exact k
theorem wp_ifF' (h : t ρ = .ok false ρ') {r : Res Fl} (k : n ρ' = r) : sIf t m n ρ = r := by unfold sIf; rw [h, Res.bind_ok]; exact k
theorem wp_ifT (h : t ρ = .ok true ρ') (k : Wp (m ρ') Q) : Wp (sIf t m n ρ) Q := by unfold sIf; rw [h, Res.bind_ok]; exact k
theorem wp_ifF (h : t ρ = .ok false ρ') (k : Wp (n ρ') Q) : Wp (sIf t m n ρ) Q := by unfold sIf; rw [h, Res.bind_ok]; exact k
theorem sSeq_assoc {m n k : M Fl} : sSeq (sSeq m n) k ρ = sSeq m (sSeq n k) ρ := by
  unfold sSeq
  cases m ρ with
  | ok f ρ' => cases f <;> rfl
  | _ => rfl
theorem wp_ifS {k : M Fl} (h : t ρ = .ok b ρ') (k1 : b = true → Wp (sSeq m k ρ') Q) (k2 : b = false → Wp (sSeq n k ρ') Q) : Wp (sSeq (sIf t m n) k ρ) Q := by
  unfold sSeq sIf at *; rw [h, Res.bind_ok]
  cases b with
  | true => exact k1 rfl
  | false => exact k2 rfl
theorem wp_ifST {k : M Fl} (h : t ρ = .ok true ρ') (k1 : Wp (sSeq m k ρ') Q) : Wp (sSeq (sIf t m n) k ρ) Q := wp_ifS h (fun _ => k1) (fun z => nomatch z)
theorem wp_ifSF {k : M Fl} (h : t ρ = .ok false ρ') (k1 : Wp (sSeq n k ρ') Q) : Wp (sSeq (sIf t m n) k ρ) Q := wp_ifS h (fun z => nomatch z) (fun _ => k1)
theorem wp_seqN {k : M Fl} (k1 : Wp (k ρ) Q) : Wp (sSeq sNil k ρ) Q := k1
theorem wp_seqA {m n k : M Fl} (k1 : Wp (sSeq m (sSeq n k) ρ) Q) : Wp (sSeq (sSeq m n) k ρ) Q := by rw [sSeq_assoc]; exact k1
theorem wp_retS {m : M R} {k : M Fl} (k1 : Wp (sRet m ρ) Q) : Wp (sSeq (sRet m) k ρ) Q := by
  unfold sSeq
  unfold sRet at k1 ⊢
  cases e : (m ρ).bind fun r ρ1 => outR ρ1 r with
  | ok f ρ' =>
    rw [e] at k1
    cases f with
    | nx =>
      exfalso
      cases e2 : m ρ with
      | ok r ρ1 =>
        rw [e2, Res.bind_ok] at e
        unfold outR at e
        split at e
        · cases e
        · cases e
        · split at e <;> cases e
      | err x ρ' => rw [e2] at e; cases e
      | bad => rw [e2] at e; cases e
    | _ => exact k1
  | err x ρ' => rw [e] at k1; cases k1
  | bad => rw [e] at k1; cases k1
/-- a loop: each round goes on (I) or ends all with Q -/
theorem wp_forN (I : Nat → PEnv → Prop) : ∀ (ds : List PyData) (k : Nat) (ρ : PEnv), I k ρ →
    (∀ i d ρ, ds[i]? = some d → I (k + i) ρ → ∃ ρ1, g d ρ = some ρ1 ∧ Wp (m ρ1) fun f ρ2 => match f with
      | .nx => I (k + i + 1) ρ2
      | .ct => I (k + i + 1) ρ2
      | .bk => Q .nx ρ2
      | .ret r => Q (.ret r) ρ2) → (∀ ρ, I (k + ds.length) ρ → Q .nx ρ) → Wp (forN g m ds ρ) Q
  | [], k, ρ, h0, _, h2 => .mk (h2 _ h0)
  | d :: ds, k, ρ, h0, st, h2 => by
    obtain ⟨ρ1, e1, h1⟩ := st 0 d ρ rfl h0
    have next : ∀ ρ2, I (k + 1) ρ2 → Wp (forN g m ds ρ2) Q := fun ρ2 hI => wp_forN I ds (k + 1) ρ2 hI (fun i d ρ e h => by
      have := st (i + 1) d ρ (by simpa using e) (by rw [show k + (i + 1) = k + 1 + i by omega]; exact h)
      rw [show k + (i + 1) + 1 = k + 1 + i + 1 by omega] at this
      exact this) (fun ρ h => h2 ρ (by rw [List.length_cons, show k + (ds.length + 1) = k + 1 + ds.length by omega]; exact h))
    unfold forN
    simp only [e1]
    cases e : m ρ1 with
    | ok f ρ2 =>
      rw [e] at h1
      have h1 := h1.out
      cases f with
      | nx => exact next ρ2 h1
      | ct => exact next ρ2 h1
      | bk => exact .mk h1
      | ret r => exact .mk h1
    | err x ρ' => rw [e] at h1; cases h1
    | bad => rw [e] at h1; cases h1
theorem wp_for (I : Nat → PEnv → Prop) (h : mi ρ = .ok ds ρ') (h0 : I 0 ρ')
    (st : ∀ i d ρ, ds[i]? = some d → I i ρ → ∃ ρ1, g d ρ = some ρ1 ∧ Wp (m ρ1) fun f ρ2 => match f with
      | .nx => I (i + 1) ρ2
      | .ct => I (i + 1) ρ2
      | .bk => Q .nx ρ2
      | .ret r => Q (.ret r) ρ2) (h2 : ∀ ρ, I ds.length ρ → Q .nx ρ) : Wp (sFor mi g m ρ) Q := by
  unfold sFor
  rw [h, Res.bind_ok]
  exact wp_forN I ds 0 ρ' h0 (fun i d ρ e hI => by rw [Nat.zero_add] at hI ⊢; exact st i d ρ e hI) (fun ρ hI => h2 ρ (by rw [Nat.zero_add] at hI; exact hI))
/-- a loop ahead of the rest -/
theorem wp_forS (I : Nat → PEnv → Prop) (h : mi ρ = .ok ds ρ') (h0 : I 0 ρ')
    (st : ∀ i d ρ, ds[i]? = some d → I i ρ → ∃ ρ1, g d ρ = some ρ1 ∧ Wp (m ρ1) fun f ρ2 => match f with
      | .nx => I (i + 1) ρ2
      | .ct => I (i + 1) ρ2
      | .bk => Wp (n ρ2) Q
      | .ret r => Q (.ret r) ρ2) (h2 : ∀ ρ, I ds.length ρ → Wp (n ρ) Q) : Wp (sSeq (sFor mi g m) n ρ) Q :=
  wp_seqW (wp_for I h h0 st h2)
def OutR : R → Prop
  | .slot _ => False
  | _ => True
theorem run_ok {n : Nat} {m : M Fl} {ss : List Slot} {P : R → Prop} (h : Wp (m (ss ++ List.replicate (n - ss.length) .non)) fun f _ => ∃ r, f = .ret r ∧ OutR r ∧ P r) : ∃ r, runP n m ss = .ok r [] ∧ P r := by
  unfold runP
  cases e : m (ss ++ List.replicate (n - ss.length) .non) with
  | ok f ρ =>
    rw [e] at h
    obtain ⟨r, rfl, ho, hp⟩ := h.out
    cases r with
    | slot _ => exact ho.elim
    | _ => exact ⟨_, rfl, hp⟩
  | err x ρ' => rw [e] at h; cases h
  | bad => rw [e] at h; cases h
end
theorem run_eq {n : Nat} {m : M Fl} {ss : List Slot} {r : R} (ho : OutR r) (h : Wp (m (ss ++ List.replicate (n - ss.length) .non)) fun f _ => f = .ret r) : runP n m ss = .ok r [] := by
  obtain ⟨r', e, rfl⟩ := run_ok (P := fun r' => r' = r) (h.imp fun a ρ e => ⟨r, e, ho, rfl⟩)
  exact e
/-- what a comprehension's item gives -/
def ItemIs (vs : List Nat) (g : PyData → PEnv → Option PEnv) (t : M Bool) (me : M R) (ρ : PEnv) (d : PyData) (o : Option PyData) : Prop :=
  ∃ ρ1 b ρ2, g d (wipeP ρ vs) = some ρ1 ∧ t (borE ρ1) = .ok b ρ2 ∧ (b = false → o = none) ∧ (b = true → ∃ r ρ3 y, opd me (borE ρ1) = .ok r ρ3 ∧ keepR ρ3 r = some y ∧ o = some y)
theorem compN_of {vs : List Nat} {g : PyData → PEnv → Option PEnv} {t : M Bool} {me : M R} {ρ : PEnv} (f : PyData → Option PyData) : ∀ {ds : List PyData}, (∀ d ∈ ds, ItemIs vs g t me ρ d (f d)) → compN vs g t me ds ρ = some (ds.filterMap f)
  | [], _ => rfl
  | d :: ds, h => by
    obtain ⟨ρ1, b, ρ2, e1, e2, h1, h2⟩ := h d (List.mem_cons_self ..)
    have ih := compN_of (vs := vs) (g := g) (t := t) (me := me) (ρ := ρ) f (ds := ds) fun d hd => h d (List.mem_cons_of_mem _ hd)
    unfold compN
    simp only [e1, e2]
    cases b with
    | false => rw [List.filterMap_cons_none (h1 rfl)]; exact ih
    | true =>
      obtain ⟨r, ρ3, y, e3, e4, e5⟩ := h2 rfl
      simp only [e3, e4, ih]
      rw [List.filterMap_cons_some e5]
theorem eComp_of {vs : List Nat} {mi : M (List PyData)} {g : PyData → PEnv → Option PEnv} {t : M Bool} {me : M R} {ρ ρ' : PEnv} {ds : List PyData} (f : PyData → Option PyData) (hm : mi (borE ρ) = .ok ds ρ') (hl : ds.length ≤ sizeLine) (h : ∀ d ∈ ds, ItemIs vs g t me (borE ρ) d (f d)) :
    eComp vs mi g t me ρ = .ok (.new (.lst (ds.filterMap f))) ρ := by
  unfold eComp
  rw [hm]
  simp only [compN_of f h]
  rw [if_pos hl]
theorem rng_get {n i : Nat} {d : PyData} (h : ((List.range n).map fun k : Nat => PyData.int (k : Int))[i]? = some d) : i < n ∧ d = .int i := by
  rw [List.getElem?_map] at h
  cases e : (List.range n)[i]? with
  | none => rw [e] at h; cases h
  | some z =>
    rw [e] at h; cases h
    obtain ⟨h1, h2⟩ := List.getElem?_eq_some_iff.mp e
    simp at h1 h2
    subst h2
    exact ⟨h1, rfl⟩
theorem ints_get {ns : List Int} {i : Nat} {d : PyData} (h : (ns.map PyData.int)[i]? = some d) : ∃ z, ns[i]? = some z ∧ d = .int z := by
  rw [List.getElem?_map] at h
  cases e : ns[i]? with
  | none => rw [e] at h; cases h
  | some z => rw [e] at h; cases h; exact ⟨z, rfl, rfl⟩
end PL
end

section
set_option maxRecDepth 100000
set_option maxHeartbeats 1000000
/-! PL, sixteenth part: small facts of data and texts. -/
namespace PL
open PySem L2 PySem.W PySem.Calls PySem.NumText PyProof.Rows
/-! ### what may be compared -/
def Sh (n : Nat) (d : PyData) : Prop := d.canLay0 = true ∧ d.depth ≤ n
theorem Sh.int {n : Nat} (i : Int) : Sh n (.int i) := ⟨by simp [PyData.canLay0], by simp [PyData.depth]⟩
theorem Sh.bool {n : Nat} (i : Bool) : Sh n (.bool i) := ⟨by simp [PyData.canLay0], by simp [PyData.depth]⟩
theorem Sh.none {n : Nat} : Sh n .none := ⟨by simp [PyData.canLay0], by simp [PyData.depth]⟩
theorem Sh.str {n : Nat} {x : Str} (h : PyData.strOk x = true) : Sh n (.str x) := ⟨by simp [PyData.canLay0, h], by simp [PyData.depth]⟩
theorem Sh.all {n : Nat} : ∀ {ds : List PyData}, (∀ d ∈ ds, Sh n d) → PyData.canLayAll0 ds = true ∧ PyData.depthAll ds ≤ n
  | [], _ => ⟨by simp [PyData.canLayAll0], by simp [PyData.depthAll]⟩
  | d :: ds, h => by
    obtain ⟨h1, h2⟩ := h d (List.mem_cons_self ..)
    obtain ⟨h3, h4⟩ := Sh.all fun d hd => h d (List.mem_cons_of_mem _ hd)
    exact ⟨by simp [PyData.canLayAll0, h1, h3], by simp only [PyData.depthAll]; omega⟩
theorem Sh.list {n : Nat} {ds : List PyData} (h : ∀ d ∈ ds, Sh n d) : Sh (n + 1) (.list ds) := by
  obtain ⟨h1, h2⟩ := Sh.all h
  exact ⟨by simp [PyData.canLay0, h1], by simp only [PyData.depth]; omega⟩
theorem Sh.tuple {n : Nat} {ds : List PyData} (h : ∀ d ∈ ds, Sh n d) : Sh (n + 1) (.tuple ds) := by
  obtain ⟨h1, h2⟩ := Sh.all h
  exact ⟨by simp [PyData.canLay0, h1], by simp only [PyData.depth]; omega⟩
theorem Sh.mono {n m : Nat} {d : PyData} (h : Sh n d) (k : n ≤ m) : Sh m d := ⟨h.1, Nat.le_trans h.2 k⟩
theorem Sh.shaped {n : Nat} {d : PyData} (h : Sh n d) (k : n ≤ 64) : SeqAt.shaped d = true := by
  unfold SeqAt.shaped
  rw [h.1, Bool.true_and]
  exact decide_eq_true (Nat.le_trans h.2 k)
theorem Sh.ints {n : Nat} (ns : List Int) : ∀ d ∈ ns.map PyData.int, Sh n d := fun d hd => by
  obtain ⟨i, _, rfl⟩ := List.mem_map.mp hd
  exact .int i
theorem eqv_self {n : Nat} {d : PyData} (h : Sh n d) : PyData.eqv d d = true := PySem.SeqAt.eqv_refl d h.1
/-! ### numbers and letters -/
abbrev numS (n : Int) : Str := PySem.Str.ofString (toString n)
def Num (n : Int) : Prop := 0 ≤ n ∧ n < 10 ^ 10
theorem size640 {n : Nat} (h : n ≤ 640) : n ≤ sizeLine := Nat.le_trans h (by decide)
theorem numS_len {n : Int} (h : Num n) : (numS n).length ≤ 10 := PySem.W.KT.len_num h.1 h.2
theorem numS_int {n : Int} (h : Num n) : PySem.intText? (numS n) = some n := PySem.W.KIN.num_reads h.1 h.2
theorem numS_digits {n : Int} (h : Num n) : ∀ c ∈ (numS n).cps.toList, 48 ≤ c ∧ c ≤ 57 := by
  obtain ⟨m, rfl⟩ := Int.eq_ofNat_of_zero_le h.1
  intro c hc
  rw [PySem.W.KIN.signs_num] at hc
  obtain ⟨ch, hch, e⟩ := List.mem_map.mp hc
  have r := digit_range (Nat.isDigit_of_mem_toDigits (by decide) (by decide) hch)
  rw [← e]
  exact r
theorem numS_ne {n : Int} (h : Num n) : (numS n).cps.toList ≠ [] := by
  obtain ⟨m, rfl⟩ := Int.eq_ofNat_of_zero_le h.1
  rw [PySem.W.KIN.signs_num]
  intro e
  have h := toDigits_len_ge 10 m
  rw [List.map_eq_nil_iff.mp e] at h
  exact absurd h (by decide)
theorem numS_ok {n : Int} (h : Num n) : PyData.strOk (numS n) = true := by
  unfold PyData.strOk
  rw [← Array.all_toList, List.all_eq_true]
  intro c hc
  have := numS_digits h c hc
  exact decide_eq_true (by omega)
/-- a letter and a number -/
theorem word_list (c : String) (n : Int) : (PySem.Str.ofString c ++ numS n).cps.toList = (PySem.Str.ofString c).cps.toList ++ (numS n).cps.toList := PySem.W.KT.app_list _ _
theorem word_cut (c : String) (n : Int) (h : (PySem.Str.ofString c).cps.toList.length = 1) : cutS (PySem.Str.ofString c ++ numS n) (some 1) none = numS n := by
  unfold cutS
  rw [word_list]
  have hl : (PySem.Str.ofString c ++ numS n).length = 1 + (numS n).cps.toList.length := by
    show (PySem.Str.ofString c ++ numS n).cps.size = _
    rw [← Array.length_toList, word_list, List.length_append, h]
  rw [HT.sIx_none, show HT.sIx (PySem.Str.ofString c ++ numS n).length 0 (some 1) = 1 by
    have := HT.sIx_nat (PySem.Str.ofString c ++ numS n).length 0 1
    rw [hl] at this ⊢
    rw [show ((1 : Nat) : Int) = 1 from rfl] at this
    rw [this]; omega]
  rw [hl, List.drop_append_of_le_length (by omega), List.drop_of_length_le (by omega), List.nil_append, List.take_of_length_le (by omega)]
theorem word_len (c : String) {n : Int} (h : (PySem.Str.ofString c).cps.toList.length = 1) (hn : Num n) : (PySem.Str.ofString c ++ numS n).length ≤ 11 := by
  show (PySem.Str.ofString c ++ numS n).cps.size ≤ 11
  rw [← Array.length_toList, word_list, List.length_append, h]
  have := numS_len hn
  have e : (numS n).length = (numS n).cps.toList.length := rfl
  omega
theorem word_at (c : String) (n : Int) {k : Nat} (h : (PySem.Str.ofString c).cps.toList = [k]) : atI (PySem.Str.ofString c ++ numS n).cps.toList 0 = some k := by
  rw [word_list, h]
  simp [atI, ixN]

theorem num_at {n : Int} (h : Num n) : ∃ c, atI (numS n).cps.toList 0 = some c ∧ 48 ≤ c ∧ c ≤ 57 := by
  have ne := numS_ne h
  have dg := numS_digits h
  generalize (numS n).cps.toList = l at ne dg
  cases l with
  | nil => exact absurd rfl ne
  | cons c l => exact ⟨c, by simp [atI, ixN], dg c (List.mem_cons_self ..)⟩
theorem word_ok (c : String) {n : Int} (h : PyData.strOk (PySem.Str.ofString c) = true) (hn : Num n) : PyData.strOk (PySem.Str.ofString c ++ numS n) = true := by
  have h2 := numS_ok hn
  unfold PyData.strOk at *
  rw [← Array.all_toList] at *
  rw [word_list, List.all_append, h, h2]; rfl
theorem one_ne {a : Nat} {x : String} (c : Nat) (h : (PySem.Str.ofString x) = ⟨#[a]⟩) (n : c ≠ a) : ((⟨#[c]⟩ : Str) == PySem.Str.ofString x) = false := by
  rw [h]
  refine beq_eq_false_iff_ne.mpr fun e => ?_
  injection e with e
  simp at e
  exact n e
theorem eqP_str {x y : Str} (hx : PyData.strOk x = true) (hy : PyData.strOk y = true) : eqP (.str x) (.str y) = dBool (x == y) := by
  unfold eqP
  rw [(Sh.str hx (n := 0)).shaped (by decide), (Sh.str hy (n := 0)).shaped (by decide)]
  simp [PyData.eqv]
theorem eqP_int {x y : Int} : eqP (.int x) (.int y) = dBool (x == y) := by
  unfold eqP
  rw [(Sh.int x (n := 0)).shaped (by decide), (Sh.int y (n := 0)).shaped (by decide)]
  simp [PyData.eqv]
theorem one_ok {c : Nat} (h : c < 0x110000) : PyData.strOk ⟨#[c]⟩ = true := by
  unfold PyData.strOk
  simp [h]
theorem strP_num {n : Int} (h : Num n) : strP [.dat (.int n)] = some (.dat (.str (numS n))) := by
  obtain ⟨m, rfl⟩ := Int.eq_ofNat_of_zero_le h.1
  have hm : m < 2 ^ 1920 := Nat.lt_trans (by have := h.2; omega : m < 10 ^ 10) (by decide)
  have : (m : Int).natAbs.log2 < 1920 := by
    show m.log2 < 1920
    by_cases z : m = 0
    · subst z; decide
    · exact (Nat.log2_lt z).mpr hm
  simp only [strP, this, if_true]
theorem word_add (c : String) {n : Int} (h : (PySem.Str.ofString c).length = 1) (hn : Num n) : (PySem.Str.ofString c).length + (numS n).length ≤ sizeLine := by
  have := numS_len hn
  exact size640 (by omega)
theorem num_nat {n : Nat} (h : n < 1000000) : Num (n : Int) := ⟨by omega, by omega⟩
theorem emod_nat (a b : Nat) : (a : Int) % (b : Int) = ((a % b : Nat) : Int) := by simp
/-- a list of plain numbers -/
abbrev nL (ns : List Nat) : List PyData := ns.map fun n : Nat => PyData.int (n : Int)
theorem natI {ns : List Nat} {i : Nat} {d : Nat} (h : ns[i]? = some d) : atI (nL ns) (i : Int) = some (.int (d : Int)) := by
  obtain ⟨h1, h2⟩ := List.getElem?_eq_some_iff.mp h
  simp [atI, ixN, h1, h2]
theorem nL_get {ns : List Nat} {i : Nat} {d : PyData} (h : (nL ns)[i]? = some d) : ∃ z, ns[i]? = some z ∧ d = .int z := by
  rw [List.getElem?_map] at h
  cases e : ns[i]? with
  | none => rw [e] at h; cases h
  | some z => rw [e] at h; cases h; exact ⟨z, rfl, rfl⟩
theorem RngOk.nat {n : Nat} (h : n ≤ 1000000) : RngOk (n : Int) := RngOk.of (by omega)
theorem RngOk.succ {n : Nat} (h : n ≤ 1000000) : RngOk (1 + (n : Int)) := RngOk.of (by omega)
theorem RngOk.succ' {n : Nat} (h : n ≤ 1000000) : RngOk ((n : Int) + 1) := RngOk.of (by omega)
theorem MulOk.sm {i j : Int} (h : i.natAbs < 1000000) : MulOk i j := MulOk.l (by omega)
theorem RepOk.nat {n : Nat} (h : n ≤ 1000) : RepOk 1 (n : Int) := RepOk.of (by omega) (by rw [Nat.one_mul, Int.toNat_natCast]; exact Nat.le_of_lt (Nat.lt_of_le_of_lt h (by decide)))
theorem sNest_ok {i : Nat} {m1 m3 : M R} {t : M Bool} {mr mn : M Fl} {ρ ρ1 ρ2 ρ3 : PEnv} {xs : List PyData} {n0 n : Int} {r0 : List Int} {rs : List (List Int)} {r : R} (e1 : m1 (borE ρ) = .ok (.new (.nst xs)) ρ1) (hi : i < ρ.length) (hro : rowsOf xs = some ((n0 :: r0) :: rs))
    (e2 : t (borE (ρ.set i (.lst xs))) = .ok false ρ2) (e3 : opd m3 (borE (ρ.set i (.lst xs))) = .ok r ρ3) (e4 : rv ρ3 r = some (.int n)) : sNest i m1 t mr m3 mn ρ = mn (ρ.set i (.lst (((n :: r0) :: rs).map fun r => .list (r.map PyData.int)))) := by
  unfold sNest
  simp only [e1, hro, e2, e3, e4]
  rw [if_pos hi]
end PL
end

section
set_option maxRecDepth 100000
set_option maxHeartbeats 2000000
namespace Law
open PySem L2 PL
/-! source_value -/
abbrev N_source_value : List Str := ["source", "inputs", "registers"]
noncomputable def m_source_value : M Fl :=
    sSeq (sIf (tBin eqP (eIx (eVar 0) (eC (.int 0))) (eC (.str "x")))
      (sRet (eIx (eVar 1) (eCall intP (mCons (eSl (eVar 0) (mPart (eC (.int 1))) (mNoPart)) (mNil)))))
      (sNil))
    (sSeq (sIf (tBin eqP (eIx (eVar 0) (eC (.int 0))) (eC (.str "r")))
      (sRet (eIx (eVar 2) (eCall intP (mCons (eSl (eVar 0) (mPart (eC (.int 1))) (mNoPart)) (mNil)))))
      (sNil))
    (sRet (eCall intP (mCons (eVar 0) (mNil)))))
noncomputable def p_source_value : List Slot → Res R := runP 3 m_source_value
/-! result_of -/
abbrev N_result_of : List Str := ["operation", "left", "right"]
noncomputable def m_result_of : M Fl :=
    sSeq (sIf (tBin eqP (eVar 0) (eC (.str "+")))
      (sRet (eBin addP (eVar 1) (eVar 2)))
      (sNil))
    (sSeq (sIf (tBin eqP (eVar 0) (eC (.str "-")))
      (sRet (eBin subP (eVar 1) (eVar 2)))
      (sNil))
    (sRet (eBin mulP (eVar 1) (eVar 2))))
noncomputable def p_result_of : List Slot → Res R := runP 3 m_result_of
/-! performed -/
abbrev N_performed : List Str := ["program", "instruction", "inputs", "registers", "cell", "sign", "operation", "left", "right", "result", "contents"]
noncomputable def m_performed : M Fl :=
    sSeq (sAsgT (gT 5 (gsCons (gN 4) (gsCons (gN 5) (gsCons (gN 6) (gsCons (gN 7) (gsCons (gN 8) (gsNil))))))) (eVar 1))
    (sSeq (sAsg 9 (eDef false 3 p_result_of (mCons (eVar 6) (mCons (eDef false 3 p_source_value (mCons (eVar 7) (mCons (eVar 2) (mCons (eVar 3) (mNil))))) (mCons (eDef false 3 p_source_value (mCons (eVar 8) (mCons (eVar 2) (mCons (eVar 3) (mNil))))) (mNil))))))
    (sSeq (sAsg 10 (eCall listP (mCons (eVar 3) (mNil))))
    (sSeq (sIf (tBin eqP (eVar 5) (eC (.str "+")))
      (sPut 10 (eBin modP (eBin addP (eIx (eVar 10) (eVar 4)) (eVar 9)) (eIx (eVar 0) (eC (.int 0)))) (eVar 4))
      (sPut 10 (eBin modP (eBin subP (eIx (eVar 10) (eVar 4)) (eVar 9)) (eIx (eVar 0) (eC (.int 0)))) (eVar 4)))
    (sRet (eVar 10)))))
noncomputable def p_performed : List Slot → Res R := runP 11 m_performed
/-! traced -/
abbrev N_traced : List Str := ["program", "code", "inputs", "states", "instruction"]
noncomputable def m_traced : M Fl :=
    sSeq (sAsg 3 (eLstN (eBin mulP (eLst (mCons (eC (.int 0)) (mNil))) (eC (.int 8)))))
    (sSeq (sFor (iSeq (eVar 1)) (gN 4)
      (sAppN 3 (eDef false 4 p_performed (mCons (eVar 0) (mCons (eVar 4) (mCons (eVar 2) (mCons (eIx (eVar 3) (eNeg (eC (.int 1)))) (mNil))))))))
    (sRet (eVar 3)))
noncomputable def p_traced : List Slot → Res R := runP 5 m_traced
/-! _law_cell -/
abbrev N__law_cell : List Str := ["_law_script", "_law_k"]
noncomputable def m__law_cell : M Fl :=
    sSeq (sIf (tBin ltP (eVar 1) (eCall lenP (mCons (eVar 0) (mNil))))
      (sRet (eIx (eVar 0) (eVar 1)))
      (sNil))
    (sRet (eC (.int 0)))
noncomputable def p__law_cell : List Slot → Res R := runP 2 m__law_cell
/-! _law_draw -/
abbrev N__law_draw : List Str := ["_law_script", "_law_k", "_law_sizes", "_law_cell_here", "_law_drawn", "_law_size", "_law_mixed", "_law_j"]
noncomputable def m__law_draw : M Fl :=
    sSeq (sAsg 3 (eDef false 2 p__law_cell (mCons (eVar 0) (mCons (eVar 1) (mNil)))))
    (sSeq (sIf (tBin ltP (eVar 3) (eC (.int 0)))
      (sAsg 3 (eNeg (eVar 3)))
      (sNil))
    (sSeq (sAsg 4 (eLst (mNil)))
    (sSeq (sIf (tBin geP (eVar 3) (eBin powP (eC (.int 10)) (eC (.int 18))))
      (sSeq (sAsg 3 (eBin subP (eVar 3) (eBin powP (eC (.int 10)) (eC (.int 18)))))
        (sSeq (sFor (iSeq (eVar 2)) (gN 5)
          (sSeq (sApp 4 (eBin modP (eVar 3) (eVar 5)))
            (sAsg 3 (eBin fdivP (eVar 3) (eVar 5)))))
        (sRet (eVar 4))))
      (sNil))
    (sSeq (sAsg 6 (eBin modP (eBin addP (eBin addP (eVar 3) (eC (.int 1))) (eBin mulP (eC (.int 31)) (eVar 1))) (eC (.int 2147483647))))
    (sSeq (sFor (iRange1 (mCons (eCall lenP (mCons (eVar 2) (mNil))) (mNil))) (gN 7)
      (sSeq (sAsg 6 (eBin modP (eBin addP (eBin addP (eBin mulP (eVar 6) (eC (.int 48271))) (eC (.int 11))) (eVar 7)) (eC (.int 2147483647))))
        (sSeq (sAsg 6 (eBin modP (eBin addP (eBin mulP (eVar 6) (eC (.int 69621))) (eC (.int 3))) (eC (.int 2147483647))))
        (sApp 4 (eBin modP (eBin fdivP (eVar 6) (eC (.int 7))) (eIx (eVar 2) (eVar 7)))))))
    (sRet (eVar 4)))))))
noncomputable def p__law_draw : List Slot → Res R := runP 8 m__law_draw
/-! _law_operand -/
abbrev N__law_operand : List Str := ["_law_kind", "_law_number", "_law_modulus", "_law_inputs_here", "_law_many"]
noncomputable def m__law_operand : M Fl :=
    sSeq (sIf (tBin eqP (eVar 0) (eC (.int 0)))
      (sRet (eBin addP (eC (.str "x")) (eCall strP (mCons (eBin modP (eVar 1) (eVar 3)) (mNil)))))
      (sNil))
    (sSeq (sIf (tOr' (tBin eqP (eVar 0) (eC (.int 1))) (tBin eqP (eVar 4) (eC (.int 0))))
      (sRet (eCall strP (mCons (eBin modP (eVar 1) (eVar 2)) (mNil))))
      (sNil))
    (sRet (eBin addP (eC (.str "s")) (eCall strP (mCons (eBin subP (eBin subP (eVar 4) (eC (.int 1))) (eBin modP (eVar 1) (eVar 4))) (mNil))))))
noncomputable def p__law_operand : List Slot → Res R := runP 5 m__law_operand
/-! _law_program -/
abbrev N__law_program : List Str := ["_law_script", "_law_k", "_law_most", "_law_digits", "_law_modulus", "_law_inputs_here", "_law_steps", "_law_j", "_law_row", "_law_left", "_law_right", "_law_outputs"]
noncomputable def m__law_program : M Fl :=
    sSeq (sAsg 3 (eDef false 3 p__law_draw (mCons (eVar 0) (mCons (eVar 1) (mCons (eBin addP (eBin addP (eLst (mCons (eC (.int 12)) (mCons (eC (.int 2)) (mCons (eVar 2) (mNil))))) (eBin mulP (eLst (mCons (eC (.int 3)) (mCons (eC (.int 4)) (mCons (eC (.int 13)) (mCons (eC (.int 4)) (mCons (eC (.int 13)) (mNil))))))) (eC (.int 7)))) (eBin mulP (eLst (mCons (eC (.int 3)) (mNil))) (eC (.int 8)))) (mNil))))))
    (sSeq (sAsg 4 (eBin addP (eC (.int 2)) (eIx (eVar 3) (eC (.int 0)))))
    (sSeq (sAsg 5 (eBin addP (eC (.int 1)) (eIx (eVar 3) (eC (.int 1)))))
    (sSeq (sAsg 6 (eLst (mNil)))
    (sSeq (sFor (iRange1 (mCons (eBin addP (eC (.int 1)) (eIx (eVar 3) (eC (.int 2)))) (mNil))) (gN 7)
      (sSeq (sAsg 8 (eSl (eVar 3) (mPart (eBin addP (eC (.int 3)) (eBin mulP (eC (.int 5)) (eVar 7)))) (mPart (eBin addP (eC (.int 8)) (eBin mulP (eC (.int 5)) (eVar 7))))))
        (sSeq (sAsg 9 (eDef false 5 p__law_operand (mCons (eIx (eVar 8) (eC (.int 1))) (mCons (eIx (eVar 8) (eC (.int 2))) (mCons (eVar 4) (mCons (eVar 5) (mCons (eCall lenP (mCons (eVar 6) (mNil))) (mNil))))))))
        (sSeq (sAsg 10 (eDef false 5 p__law_operand (mCons (eIx (eVar 8) (eC (.int 3))) (mCons (eIx (eVar 8) (eC (.int 4))) (mCons (eVar 4) (mCons (eVar 5) (mCons (eCall lenP (mCons (eVar 6) (mNil))) (mNil))))))))
        (sIf (tIn true (eTup (mCons (eIx (eC (.str "+-*")) (eIx (eVar 8) (eC (.int 0)))) (mCons (eVar 9) (mCons (eVar 10) (mNil))))) (eVar 6))
          (sApp 6 (eTup (mCons (eIx (eC (.str "+-*")) (eIx (eVar 8) (eC (.int 0)))) (mCons (eVar 9) (mCons (eVar 10) (mNil))))))
          (sNil))))))
    (sSeq (sAsg 11 (eComp [7] (iRange1 (mCons (eCall lenP (mCons (eVar 6) (mNil))) (mNil))) (gN 7) (tBin eqP (eIx (eVar 3) (eBin addP (eC (.int 38)) (eVar 7))) (eC (.int 0))) (eVar 7)))
    (sSeq (sIf (tIn true (eBin subP (eCall lenP (mCons (eVar 6) (mNil))) (eC (.int 1))) (eVar 11))
      (sApp 11 (eBin subP (eCall lenP (mCons (eVar 6) (mNil))) (eC (.int 1))))
      (sNil))
    (sFrz 5 (sFrz 4 (sRet (eTup (mCons (eVar 4) (mCons (eVar 5) (mCons (eCall tupleP (mCons (eVar 6) (mNil))) (mCons (eCall tupleP (mCons (eVar 11) (mNil))) (mNil)))))))))))))))
noncomputable def p__law_program : List Slot → Res R := runP 12 m__law_program
/-! _law_result -/
abbrev N__law_result : List Str := ["_law_operation", "_law_left", "_law_right", "_law_modulus"]
noncomputable def m__law_result : M Fl :=
    sSeq (sIf (tBin eqP (eVar 0) (eC (.str "+")))
      (sRet (eBin modP (eBin addP (eVar 1) (eVar 2)) (eVar 3)))
      (sNil))
    (sSeq (sIf (tBin eqP (eVar 0) (eC (.str "-")))
      (sRet (eBin modP (eBin subP (eVar 1) (eVar 2)) (eVar 3)))
      (sNil))
    (sRet (eBin modP (eBin mulP (eVar 1) (eVar 2)) (eVar 3))))
noncomputable def p__law_result : List Slot → Res R := runP 4 m__law_result
/-! _law_value -/
abbrev N__law_value : List Str := ["_law_word", "_law_inputs_here", "_law_others"]
noncomputable def m__law_value : M Fl :=
    sSeq (sIf (tBin eqP (eIx (eVar 0) (eC (.int 0))) (eC (.str "x")))
      (sRet (eIx (eVar 1) (eCall intP (mCons (eSl (eVar 0) (mPart (eC (.int 1))) (mNoPart)) (mNil)))))
      (sNil))
    (sSeq (sIf (tOr' (tBin eqP (eIx (eVar 0) (eC (.int 0))) (eC (.str "s"))) (tBin eqP (eIx (eVar 0) (eC (.int 0))) (eC (.str "r"))))
      (sRet (eIx (eVar 2) (eCall intP (mCons (eSl (eVar 0) (mPart (eC (.int 1))) (mNoPart)) (mNil)))))
      (sNil))
    (sRet (eCall intP (mCons (eVar 0) (mNil)))))
noncomputable def p__law_value : List Slot → Res R := runP 3 m__law_value
/-! _law_inputs -/
abbrev N__law_inputs : List Str := ["_law_script", "_law_k", "_law_program_here", "_law_digits"]
noncomputable def m__law_inputs : M Fl :=
    sSeq (sAsg 3 (eDef false 3 p__law_draw (mCons (eVar 0) (mCons (eVar 1) (mCons (eBin mulP (eLst (mCons (eIx (eVar 2) (eC (.int 0))) (mNil))) (eIx (eVar 2) (eC (.int 1)))) (mNil))))))
    (sRet (eCall listP (mCons (eVar 3) (mNil))))
noncomputable def p__law_inputs : List Slot → Res R := runP 4 m__law_inputs
/-! _law_after -/
abbrev N__law_after : List Str := ["_law_program_here", "_law_code", "_law_inputs_here", "_law_registers", "_law_contents", "_law_reg", "_law_sign", "_law_operation", "_law_left", "_law_right", "_law_value_here"]
noncomputable def m__law_after : M Fl :=
    sSeq (sAsg 4 (eCall listP (mCons (eVar 3) (mNil))))
    (sSeq (sFor (iSeq (eVar 1)) (gT 5 (gsCons (gN 5) (gsCons (gN 6) (gsCons (gN 7) (gsCons (gN 8) (gsCons (gN 9) (gsNil)))))))
      (sSeq (sAsg 10 (eDef false 4 p__law_result (mCons (eVar 7) (mCons (eDef false 3 p__law_value (mCons (eVar 8) (mCons (eVar 2) (mCons (eVar 4) (mNil))))) (mCons (eDef false 3 p__law_value (mCons (eVar 9) (mCons (eVar 2) (mCons (eVar 4) (mNil))))) (mCons (eIx (eVar 0) (eC (.int 0))) (mNil)))))))
        (sSeq (sIf (tBin eqP (eVar 6) (eC (.str "-")))
          (sAsg 10 (eNeg (eVar 10)))
          (sNil))
        (sPut 4 (eBin modP (eBin addP (eIx (eVar 4) (eVar 5)) (eVar 10)) (eIx (eVar 0) (eC (.int 0)))) (eVar 5)))))
    (sRet (eVar 4)))
noncomputable def p__law_after : List Slot → Res R := runP 11 m__law_after
/-! _law_random -/
abbrev N__law_random : List Str := ["_law_script", "_law_k", "_law_program_here", "_law_most", "_law_code", "_law_digits", "_law_j", "_law_row", "_law_words", "_law_kind", "_law_number", "_law_word"]
noncomputable def m__law_random : M Fl :=
    sSeq (sAsg 4 (eLst (mNil)))
    (sSeq (sAsg 5 (eDef false 3 p__law_draw (mCons (eVar 0) (mCons (eVar 1) (mCons (eBin addP (eLst (mCons (eVar 3) (mNil))) (eBin mulP (eLst (mCons (eC (.int 8)) (mCons (eC (.int 2)) (mCons (eC (.int 3)) (mCons (eC (.int 3)) (mCons (eC (.int 13)) (mCons (eC (.int 3)) (mCons (eC (.int 13)) (mNil))))))))) (eVar 3))) (mNil))))))
    (sSeq (sFor (iRange1 (mCons (eIx (eVar 5) (eC (.int 0))) (mNil))) (gN 6)
      (sSeq (sAsg 7 (eSl (eVar 5) (mPart (eBin addP (eC (.int 1)) (eBin mulP (eC (.int 7)) (eVar 6)))) (mPart (eBin addP (eC (.int 8)) (eBin mulP (eC (.int 7)) (eVar 6))))))
        (sSeq (sAsg 8 (eLst (mNil)))
        (sSeq (sFor (iSeq (eLst (mCons (eTup (mCons (eIx (eVar 7) (eC (.int 3))) (mCons (eIx (eVar 7) (eC (.int 4))) (mNil)))) (mCons (eTup (mCons (eIx (eVar 7) (eC (.int 5))) (mCons (eIx (eVar 7) (eC (.int 6))) (mNil)))) (mNil))))) (gT 2 (gsCons (gN 9) (gsCons (gN 10) (gsNil))))
          (sSeq (sAsg 11 (eBin addP (eC (.str "r")) (eCall strP (mCons (eBin modP (eBin addP (eBin addP (eIx (eVar 7) (eC (.int 0))) (eC (.int 1))) (eBin modP (eVar 10) (eC (.int 7)))) (eC (.int 8))) (mNil)))))
            (sSeq (sIf (tBin eqP (eVar 9) (eC (.int 0)))
              (sAsg 11 (eBin addP (eC (.str "x")) (eCall strP (mCons (eBin modP (eVar 10) (eIx (eVar 2) (eC (.int 1)))) (mNil)))))
              (sNil))
            (sSeq (sIf (tBin eqP (eVar 9) (eC (.int 1)))
              (sAsg 11 (eCall strP (mCons (eBin modP (eVar 10) (eIx (eVar 2) (eC (.int 0)))) (mNil))))
              (sNil))
            (sFrz 11 (sApp 8 (eVar 11)))))))
        (sApp 4 (eTup (mCons (eIx (eVar 7) (eC (.int 0))) (mCons (eIx (eC (.str "+-")) (eIx (eVar 7) (eC (.int 1)))) (mCons (eIx (eC (.str "+-*")) (eIx (eVar 7) (eC (.int 2)))) (mCons (eIx (eVar 8) (eC (.int 0))) (mCons (eIx (eVar 8) (eC (.int 1))) (mNil))))))))))))
    (sRet (eVar 4))))
noncomputable def p__law_random : List Slot → Res R := runP 12 m__law_random
/-! law -/
abbrev N_law : List Str := ["_law_script", "_law_k", "_law_program_here", "_law_code", "_law_inputs_here", "_law_due", "_law_told", "_law_n"]
noncomputable def m_law : M Fl :=
    sSeq (sFor (iRange1 (mCons (eCall minP (mCons (eC (.int 12)) (mCons (eCall maxP (mCons (eC (.int 1)) (mCons (eBin fdivP (eCall lenP (mCons (eVar 0) (mNil))) (eC (.int 4))) (mNil)))) (mNil)))) (mNil))) (gN 1)
      (sSeq (sAsg 2 (eDef false 3 p__law_program (mCons (eVar 0) (mCons (eBin mulP (eC (.int 4)) (eVar 1)) (mCons (eC (.int 4)) (mNil))))))
        (sSeq (sAsg 3 (eDef false 4 p__law_random (mCons (eVar 0) (mCons (eBin addP (eBin mulP (eC (.int 4)) (eVar 1)) (eC (.int 1))) (mCons (eVar 2) (mCons (eC (.int 8)) (mNil)))))))
        (sSeq (sAsg 4 (eDef false 3 p__law_inputs (mCons (eVar 0) (mCons (eBin addP (eBin mulP (eC (.int 4)) (eVar 1)) (eC (.int 2))) (mCons (eVar 2) (mNil))))))
        (sSeq (sAsg 5 (eComp [7] (iRange1 (mCons (eBin addP (eCall lenP (mCons (eVar 3) (mNil))) (eC (.int 1))) (mNil))) (gN 7) (tYes') (eDef false 4 p__law_after (mCons (eVar 2) (mCons (eSl (eVar 3) (mNoPart) (mPart (eVar 7))) (mCons (eVar 4) (mCons (eBin mulP (eLst (mCons (eC (.int 0)) (mNil))) (eC (.int 8))) (mNil))))))))
        (sNest 6 (eDef false 3 p_traced (mCons (eVar 2) (mCons (eVar 3) (mCons (eVar 4) (mNil))))) (tBin neP (eVar 6) (eVar 5)) (sRet (eC (.bool false))) (eBin addP (eIx (eIx (eVar 6) (eC (.int 0))) (eC (.int 0))) (eC (.int 1)))
        (sIf (tOr' (tBin neP (eSl (eVar 6) (mPart (eC (.int 1))) (mNoPart)) (eSl (eVar 5) (mPart (eC (.int 1))) (mNoPart))) (tBin neP (eDef false 3 p_traced (mCons (eVar 2) (mCons (eVar 3) (mCons (eVar 4) (mNil))))) (eVar 5)))
            (sRet (eC (.bool false)))
            (sNil))))))))
    (sRet (eC (.bool true)))
noncomputable def p_law : List Slot → Res R := runP 8 m_law
end Law
end

section
set_option maxRecDepth 100000
set_option maxHeartbeats 1000000
namespace Law
open PySem L2 PL
def cellV (ns : List Int) (k : Nat) : Int := ns.getD k 0
theorem v_cell (ns : List Int) (k : Nat) : p__law_cell [.scr ns, .dat (.int k)] = .ok (.dat (.int (cellV ns k))) [] := by
  by_cases h : k < ns.length
  · simp -implicitDefEqProofs [Res.bind_ok, Res.bind_bad, Res.bind_err, runP, sSeq, sNil, sIf, sRet, sRetN, sBreak, sCont, sAsg, inS', outR, opd, frzS, eVar, eC, eBin, tBin, eNeg, eCall, mCons, mNil, keepR, keepRs, rsls, rsl, noNon, toBor, argS, eDef, goodR, lenP, dInt, dBool, rv, rdS, PL.ltP, intCmp, addP, subP, mulP, MulOk.l, MulOk.r, RepOk.of, PowOk.of, DivOk.of, RngOk.of, modP, fdivP, powP, listP, tupleP, intP, maxP, minP, seqS, eIx, isDictR, eIxS, ixP, outR, sApp, sPut, sPutL, eTup, eLst, eSl, mPart, mNoPart, slP, iRange1, iRange2, ints1, intsOf, iSeq, itemsOf, sAsgT, gN, gT, gsCons, gsNil, tOr', tAnd', tNot', tOfB, sFor, sFrz, frzE, p__law_cell, m__law_cell, atI, ixN, h, cellV]
  · simp -implicitDefEqProofs [Res.bind_ok, Res.bind_bad, Res.bind_err, runP, sSeq, sNil, sIf, sRet, sRetN, sBreak, sCont, sAsg, inS', outR, opd, frzS, eVar, eC, eBin, tBin, eNeg, eCall, mCons, mNil, keepR, keepRs, rsls, rsl, noNon, toBor, argS, eDef, goodR, lenP, dInt, dBool, rv, rdS, PL.ltP, intCmp, addP, subP, mulP, MulOk.l, MulOk.r, RepOk.of, PowOk.of, DivOk.of, RngOk.of, modP, fdivP, powP, listP, tupleP, intP, maxP, minP, seqS, eIx, isDictR, eIxS, ixP, outR, sApp, sPut, sPutL, eTup, eLst, eSl, mPart, mNoPart, slP, iRange1, iRange2, ints1, intsOf, iSeq, itemsOf, sAsgT, gN, gT, gsCons, gsNil, tOr', tAnd', tNot', tOfB, sFor, sFrz, frzE, p__law_cell, m__law_cell, h, cellV]
abbrev iL (ns : List Int) : List PyData := ns.map PyData.int
def Sz (zs : List Int) : Prop := zs.length ≤ 1000 ∧ ∀ z ∈ zs, 0 < z ∧ z < 1073741824
def Dr (ds zs : List Int) : Prop := ds.length = zs.length ∧ ∀ (i : Nat) (d z : Int), ds[i]? = some d → zs[i]? = some z → 0 ≤ d ∧ d < z
theorem size1000 {n : Nat} (h : n ≤ 1000) : n < sizeLine := Nat.lt_of_le_of_lt h (by decide)
/-- the draws so far -/
def DrN (i : Nat) (ds zs : List Int) : Prop := ds.length = i ∧ ∀ (j : Nat) (d z : Int), ds[j]? = some d → zs[j]? = some z → 0 ≤ d ∧ d < z
theorem DrN.snoc {i : Nat} {ds zs : List Int} {d z : Int} (h : DrN i ds zs) (hz : zs[i]? = some z) (h0 : 0 ≤ d) (h1 : d < z) : DrN (i + 1) (ds ++ [d]) zs := by
  refine ⟨by simp [h.1], fun j d' z' e e' => ?_⟩
  by_cases hj : j < ds.length
  · rw [List.getElem?_append_left hj] at e; exact h.2 j d' z' e e'
  · rw [List.getElem?_append_right (by omega)] at e
    have : j = i := by
      have := (List.getElem?_eq_some_iff.mp e).1
      simp at this
      have := h.1
      omega
    subst this
    rw [h.1, Nat.sub_self] at e
    rw [hz] at e'
    cases e; cases e'
    exact ⟨h0, h1⟩
theorem v_draw (ns : List Int) (k : Nat) (zs : List Int) (hk : k ≤ 1000) (hz : Sz zs) : ∃ ds, p__law_draw [.scr ns, .dat (.int k), .dat (.list (iL zs))] = .ok (.new (.lst (iL ds))) [] ∧ Dr ds zs := by
  have hc := v_cell ns k
  generalize cellV ns k = c at hc
  have main : ∃ r, p__law_draw [.scr ns, .dat (.int k), .dat (.list (iL zs))] = .ok r [] ∧ ∃ ds, r = .new (.lst (iL ds)) ∧ DrN zs.length ds zs := by
    refine run_ok ?_
    unfold m__law_draw
    refine wp_seq (by simp -implicitDefEqProofs [Res.bind_ok, Res.bind_bad, Res.bind_err, runP, sSeq, sNil, sIf, sRet, sRetN, sBreak, sCont, sAsg, inS', outR, opd, frzS, eVar, eC, eBin, tBin, eNeg, eCall, mCons, mNil, keepR, keepRs, rsls, rsl, noNon, toBor, argS, eDef, goodR, lenP, dInt, dBool, rv, rdS, PL.ltP, intCmp, addP, subP, mulP, MulOk.l, MulOk.r, RepOk.of, PowOk.of, DivOk.of, RngOk.of, modP, fdivP, powP, listP, tupleP, intP, maxP, minP, seqS, eIx, isDictR, eIxS, ixP, outR, sApp, sPut, sPutL, eTup, eLst, eSl, mPart, mNoPart, slP, iRange1, iRange2, ints1, intsOf, iSeq, itemsOf, sAsgT, gN, gT, gsCons, gsNil, tOr', tAnd', tNot', tOfB, sFor, sFrz, frzE, hc]; rfl) ?_
    refine wp_seq (ρ' := [.scr ns, .dat (.int k), .dat (.list (iL zs)), .dat (.int (c.natAbs)), .non, .non, .non, .non]) (by
      by_cases h : c < 0
      · simp -implicitDefEqProofs [Res.bind_ok, Res.bind_bad, Res.bind_err, runP, sSeq, sNil, sIf, sRet, sRetN, sBreak, sCont, sAsg, inS', outR, opd, frzS, eVar, eC, eBin, tBin, eNeg, eCall, mCons, mNil, keepR, keepRs, rsls, rsl, noNon, toBor, argS, eDef, goodR, lenP, dInt, dBool, rv, rdS, PL.ltP, intCmp, addP, subP, mulP, MulOk.l, MulOk.r, RepOk.of, PowOk.of, DivOk.of, RngOk.of, modP, fdivP, powP, listP, tupleP, intP, maxP, minP, seqS, eIx, isDictR, eIxS, ixP, outR, sApp, sPut, sPutL, eTup, eLst, eSl, mPart, mNoPart, slP, iRange1, iRange2, ints1, intsOf, iSeq, itemsOf, sAsgT, gN, gT, gsCons, gsNil, tOr', tAnd', tNot', tOfB, sFor, sFrz, frzE, h]; omega
      · simp -implicitDefEqProofs [Res.bind_ok, Res.bind_bad, Res.bind_err, runP, sSeq, sNil, sIf, sRet, sRetN, sBreak, sCont, sAsg, inS', outR, opd, frzS, eVar, eC, eBin, tBin, eNeg, eCall, mCons, mNil, keepR, keepRs, rsls, rsl, noNon, toBor, argS, eDef, goodR, lenP, dInt, dBool, rv, rdS, PL.ltP, intCmp, addP, subP, mulP, MulOk.l, MulOk.r, RepOk.of, PowOk.of, DivOk.of, RngOk.of, modP, fdivP, powP, listP, tupleP, intP, maxP, minP, seqS, eIx, isDictR, eIxS, ixP, outR, sApp, sPut, sPutL, eTup, eLst, eSl, mPart, mNoPart, slP, iRange1, iRange2, ints1, intsOf, iSeq, itemsOf, sAsgT, gN, gT, gsCons, gsNil, tOr', tAnd', tNot', tOfB, sFor, sFrz, frzE, h]; omega) ?_
    generalize (c.natAbs : Int) = c
    refine wp_seq (by (simp -implicitDefEqProofs [Res.bind_ok, Res.bind_bad, Res.bind_err, runP, sSeq, sNil, sIf, sRet, sRetN, sBreak, sCont, sAsg, inS', outR, opd, frzS, eVar, eC, eBin, tBin, eNeg, eCall, mCons, mNil, keepR, keepRs, rsls, rsl, noNon, toBor, argS, eDef, goodR, lenP, dInt, dBool, rv, rdS, PL.ltP, intCmp, addP, subP, mulP, MulOk.l, MulOk.r, RepOk.of, PowOk.of, DivOk.of, RngOk.of, modP, fdivP, powP, listP, tupleP, intP, maxP, minP, seqS, eIx, isDictR, eIxS, ixP, outR, sApp, sPut, sPutL, eTup, eLst, eSl, mPart, mNoPart, slP, iRange1, iRange2, ints1, intsOf, iSeq, itemsOf, sAsgT, gN, gT, gsCons, gsNil, tOr', tAnd', tNot', tOfB, sFor, sFrz, frzE] <;> (repeat' (first | with_reducible rfl | apply And.intro)))) ?_
    by_cases h : (1000000000000000000 : Int) ≤ c
    · refine wp_ifST (by (simp -implicitDefEqProofs [Res.bind_ok, Res.bind_bad, Res.bind_err, runP, sSeq, sNil, sIf, sRet, sRetN, sBreak, sCont, sAsg, inS', outR, opd, frzS, eVar, eC, eBin, tBin, eNeg, eCall, mCons, mNil, keepR, keepRs, rsls, rsl, noNon, toBor, argS, eDef, goodR, lenP, dInt, dBool, rv, rdS, PL.ltP, intCmp, addP, subP, mulP, MulOk.l, MulOk.r, RepOk.of, PowOk.of, DivOk.of, RngOk.of, modP, fdivP, powP, listP, tupleP, intP, maxP, minP, seqS, eIx, isDictR, eIxS, ixP, outR, sApp, sPut, sPutL, eTup, eLst, eSl, mPart, mNoPart, slP, iRange1, iRange2, ints1, intsOf, iSeq, itemsOf, sAsgT, gN, gT, gsCons, gsNil, tOr', tAnd', tNot', tOfB, sFor, sFrz, frzE, h] <;> (repeat' (first | with_reducible rfl | apply And.intro)))) (wp_seqA ?_)
      refine wp_seq (by (simp -implicitDefEqProofs [Res.bind_ok, Res.bind_bad, Res.bind_err, runP, sSeq, sNil, sIf, sRet, sRetN, sBreak, sCont, sAsg, inS', outR, opd, frzS, eVar, eC, eBin, tBin, eNeg, eCall, mCons, mNil, keepR, keepRs, rsls, rsl, noNon, toBor, argS, eDef, goodR, lenP, dInt, dBool, rv, rdS, PL.ltP, intCmp, addP, subP, mulP, MulOk.l, MulOk.r, RepOk.of, PowOk.of, DivOk.of, RngOk.of, modP, fdivP, powP, listP, tupleP, intP, maxP, minP, seqS, eIx, isDictR, eIxS, ixP, outR, sApp, sPut, sPutL, eTup, eLst, eSl, mPart, mNoPart, slP, iRange1, iRange2, ints1, intsOf, iSeq, itemsOf, sAsgT, gN, gT, gsCons, gsNil, tOr', tAnd', tNot', tOfB, sFor, sFrz, frzE] <;> (repeat' (first | with_reducible rfl | apply And.intro)))) (wp_seqA ?_)
      refine wp_forS (fun i ρ => ∃ c ds s, ρ = [.scr ns, .dat (.int k), .dat (.list (iL zs)), .dat (.int c), .lst (iL ds), s, .non, .non] ∧ DrN i ds zs) (by (simp -implicitDefEqProofs [Res.bind_ok, Res.bind_bad, Res.bind_err, runP, sSeq, sNil, sIf, sRet, sRetN, sBreak, sCont, sAsg, inS', outR, opd, frzS, eVar, eC, eBin, tBin, eNeg, eCall, mCons, mNil, keepR, keepRs, rsls, rsl, noNon, toBor, argS, eDef, goodR, lenP, dInt, dBool, rv, rdS, PL.ltP, intCmp, addP, subP, mulP, MulOk.l, MulOk.r, RepOk.of, PowOk.of, DivOk.of, RngOk.of, modP, fdivP, powP, listP, tupleP, intP, maxP, minP, seqS, eIx, isDictR, eIxS, ixP, outR, sApp, sPut, sPutL, eTup, eLst, eSl, mPart, mNoPart, slP, iRange1, iRange2, ints1, intsOf, iSeq, itemsOf, sAsgT, gN, gT, gsCons, gsNil, tOr', tAnd', tNot', tOfB, sFor, sFrz, frzE] <;> (repeat' (first | with_reducible rfl | apply And.intro)))) ⟨_, [], _, rfl, rfl, by simp⟩ ?_ ?_
      · rintro i d ρ hd ⟨c, ds, s, rfl, hD⟩
        obtain ⟨z, hz', rfl⟩ := ints_get hd
        obtain ⟨h0, h1⟩ := hz.2 z (List.mem_of_getElem? hz')
        have hl : ds.length < sizeLine := size1000 (by have := hD.1; have := (List.getElem?_eq_some_iff.mp hz').1; have := hz.1; omega)
        refine ⟨_, by (simp -implicitDefEqProofs [Res.bind_ok, Res.bind_bad, Res.bind_err, runP, sSeq, sNil, sIf, sRet, sRetN, sBreak, sCont, sAsg, inS', outR, opd, frzS, eVar, eC, eBin, tBin, eNeg, eCall, mCons, mNil, keepR, keepRs, rsls, rsl, noNon, toBor, argS, eDef, goodR, lenP, dInt, dBool, rv, rdS, PL.ltP, intCmp, addP, subP, mulP, MulOk.l, MulOk.r, RepOk.of, PowOk.of, DivOk.of, RngOk.of, modP, fdivP, powP, listP, tupleP, intP, maxP, minP, seqS, eIx, isDictR, eIxS, ixP, outR, sApp, sPut, sPutL, eTup, eLst, eSl, mPart, mNoPart, slP, iRange1, iRange2, ints1, intsOf, iSeq, itemsOf, sAsgT, gN, gT, gsCons, gsNil, tOr', tAnd', tNot', tOfB, sFor, sFrz, frzE] <;> (repeat' (first | with_reducible rfl | apply And.intro))), ?_⟩
        refine wp_seq (by (simp -implicitDefEqProofs [Res.bind_ok, Res.bind_bad, Res.bind_err, runP, sSeq, sNil, sIf, sRet, sRetN, sBreak, sCont, sAsg, inS', outR, opd, frzS, eVar, eC, eBin, tBin, eNeg, eCall, mCons, mNil, keepR, keepRs, rsls, rsl, noNon, toBor, argS, eDef, goodR, lenP, dInt, dBool, rv, rdS, PL.ltP, intCmp, addP, subP, mulP, MulOk.l, MulOk.r, RepOk.of, PowOk.of, DivOk.of, RngOk.of, modP, fdivP, powP, listP, tupleP, intP, maxP, minP, seqS, eIx, isDictR, eIxS, ixP, outR, sApp, sPut, sPutL, eTup, eLst, eSl, mPart, mNoPart, slP, iRange1, iRange2, ints1, intsOf, iSeq, itemsOf, sAsgT, gN, gT, gsCons, gsNil, tOr', tAnd', tNot', tOfB, sFor, sFrz, frzE, h0, hl] <;> (repeat' (first | with_reducible rfl | apply And.intro)))) ?_
        refine Wp.ok (by (simp -implicitDefEqProofs [Res.bind_ok, Res.bind_bad, Res.bind_err, runP, sSeq, sNil, sIf, sRet, sRetN, sBreak, sCont, sAsg, inS', outR, opd, frzS, eVar, eC, eBin, tBin, eNeg, eCall, mCons, mNil, keepR, keepRs, rsls, rsl, noNon, toBor, argS, eDef, goodR, lenP, dInt, dBool, rv, rdS, PL.ltP, intCmp, addP, subP, mulP, MulOk.l, MulOk.r, RepOk.of, PowOk.of, DivOk.of, RngOk.of, modP, fdivP, powP, listP, tupleP, intP, maxP, minP, seqS, eIx, isDictR, eIxS, ixP, outR, sApp, sPut, sPutL, eTup, eLst, eSl, mPart, mNoPart, slP, iRange1, iRange2, ints1, intsOf, iSeq, itemsOf, sAsgT, gN, gT, gsCons, gsNil, tOr', tAnd', tNot', tOfB, sFor, sFrz, frzE, h0, h1] <;> (repeat' (first | with_reducible rfl | apply And.intro)))) ?_
        exact ⟨c / z, ds ++ [c % z], .dat (.int z), by simp [iL], hD.snoc hz' (Int.emod_nonneg _ (by omega)) (Int.emod_lt_of_pos _ h0)⟩
      · rintro ρ ⟨c, ds, s, rfl, hD⟩
        refine wp_retS (Wp.ok (by (simp -implicitDefEqProofs [Res.bind_ok, Res.bind_bad, Res.bind_err, runP, sSeq, sNil, sIf, sRet, sRetN, sBreak, sCont, sAsg, inS', outR, opd, frzS, eVar, eC, eBin, tBin, eNeg, eCall, mCons, mNil, keepR, keepRs, rsls, rsl, noNon, toBor, argS, eDef, goodR, lenP, dInt, dBool, rv, rdS, PL.ltP, intCmp, addP, subP, mulP, MulOk.l, MulOk.r, RepOk.of, PowOk.of, DivOk.of, RngOk.of, modP, fdivP, powP, listP, tupleP, intP, maxP, minP, seqS, eIx, isDictR, eIxS, ixP, outR, sApp, sPut, sPutL, eTup, eLst, eSl, mPart, mNoPart, slP, iRange1, iRange2, ints1, intsOf, iSeq, itemsOf, sAsgT, gN, gT, gsCons, gsNil, tOr', tAnd', tNot', tOfB, sFor, sFrz, frzE] <;> (repeat' (first | with_reducible rfl | apply And.intro)))) ?_)
        exact ⟨_, rfl, trivial, ds, rfl, by simpa using hD⟩
    · refine wp_ifSF (by (simp -implicitDefEqProofs [Res.bind_ok, Res.bind_bad, Res.bind_err, runP, sSeq, sNil, sIf, sRet, sRetN, sBreak, sCont, sAsg, inS', outR, opd, frzS, eVar, eC, eBin, tBin, eNeg, eCall, mCons, mNil, keepR, keepRs, rsls, rsl, noNon, toBor, argS, eDef, goodR, lenP, dInt, dBool, rv, rdS, PL.ltP, intCmp, addP, subP, mulP, MulOk.l, MulOk.r, RepOk.of, PowOk.of, DivOk.of, RngOk.of, modP, fdivP, powP, listP, tupleP, intP, maxP, minP, seqS, eIx, isDictR, eIxS, ixP, outR, sApp, sPut, sPutL, eTup, eLst, eSl, mPart, mNoPart, slP, iRange1, iRange2, ints1, intsOf, iSeq, itemsOf, sAsgT, gN, gT, gsCons, gsNil, tOr', tAnd', tNot', tOfB, sFor, sFrz, frzE, h] <;> (repeat' (first | with_reducible rfl | apply And.intro)))) (wp_seqN ?_)
      refine wp_seq (by (simp -implicitDefEqProofs [Res.bind_ok, Res.bind_bad, Res.bind_err, runP, sSeq, sNil, sIf, sRet, sRetN, sBreak, sCont, sAsg, inS', outR, opd, frzS, eVar, eC, eBin, tBin, eNeg, eCall, mCons, mNil, keepR, keepRs, rsls, rsl, noNon, toBor, argS, eDef, goodR, lenP, dInt, dBool, rv, rdS, PL.ltP, intCmp, addP, subP, mulP, MulOk.l, MulOk.r, RepOk.of, PowOk.of, DivOk.of, RngOk.of, modP, fdivP, powP, listP, tupleP, intP, maxP, minP, seqS, eIx, isDictR, eIxS, ixP, outR, sApp, sPut, sPutL, eTup, eLst, eSl, mPart, mNoPart, slP, iRange1, iRange2, ints1, intsOf, iSeq, itemsOf, sAsgT, gN, gT, gsCons, gsNil, tOr', tAnd', tNot', tOfB, sFor, sFrz, frzE, hk] <;> (repeat' (first | with_reducible rfl | apply And.intro)))) ?_
      have m0 := Int.emod_nonneg (c + 1 + 31 * k) (b := 2147483647) (by decide)
      have m1 := Int.emod_lt_of_pos (c + 1 + 31 * k) (b := 2147483647) (by decide)
      generalize (c + 1 + 31 * k) % 2147483647 = mx at m0 m1 ⊢
      have hzl : RngOk (zs.length : Int) := RngOk.nat (by have := hz.1; omega)
      refine wp_forS (fun i ρ => ∃ mx ds s, ρ = [.scr ns, .dat (.int k), .dat (.list (iL zs)), .dat (.int c), .lst (iL ds), .non, .dat (.int mx), s] ∧ DrN i ds zs ∧ 0 ≤ mx ∧ mx < 2147483647) (by (simp -implicitDefEqProofs [Res.bind_ok, Res.bind_bad, Res.bind_err, runP, sSeq, sNil, sIf, sRet, sRetN, sBreak, sCont, sAsg, inS', outR, opd, frzS, eVar, eC, eBin, tBin, eNeg, eCall, mCons, mNil, keepR, keepRs, rsls, rsl, noNon, toBor, argS, eDef, goodR, lenP, dInt, dBool, rv, rdS, PL.ltP, intCmp, addP, subP, mulP, MulOk.l, MulOk.r, RepOk.of, PowOk.of, DivOk.of, RngOk.of, modP, fdivP, powP, listP, tupleP, intP, maxP, minP, seqS, eIx, isDictR, eIxS, ixP, outR, sApp, sPut, sPutL, eTup, eLst, eSl, mPart, mNoPart, slP, iRange1, iRange2, ints1, intsOf, iSeq, itemsOf, sAsgT, gN, gT, gsCons, gsNil, tOr', tAnd', tNot', tOfB, sFor, sFrz, frzE, hzl] <;> (repeat' (first | with_reducible rfl | apply And.intro)))) ⟨_, [], _, rfl, ⟨rfl, by simp⟩, m0, m1⟩ ?_ ?_
      · rintro i d ρ hd ⟨mx, ds, s, rfl, hD, h0, h1⟩
        obtain ⟨hi, rfl⟩ := rng_get hd
        obtain ⟨z, hz'⟩ : ∃ z, zs[i]? = some z := ⟨zs[i], List.getElem?_eq_getElem hi⟩
        obtain ⟨z0, z1⟩ := hz.2 z (List.mem_of_getElem? hz')
        have hl : ds.length < sizeLine := size1000 (by have := hD.1; have := hz.1; omega)
        refine ⟨_, by (simp -implicitDefEqProofs [Res.bind_ok, Res.bind_bad, Res.bind_err, runP, sSeq, sNil, sIf, sRet, sRetN, sBreak, sCont, sAsg, inS', outR, opd, frzS, eVar, eC, eBin, tBin, eNeg, eCall, mCons, mNil, keepR, keepRs, rsls, rsl, noNon, toBor, argS, eDef, goodR, lenP, dInt, dBool, rv, rdS, PL.ltP, intCmp, addP, subP, mulP, MulOk.l, MulOk.r, RepOk.of, PowOk.of, DivOk.of, RngOk.of, modP, fdivP, powP, listP, tupleP, intP, maxP, minP, seqS, eIx, isDictR, eIxS, ixP, outR, sApp, sPut, sPutL, eTup, eLst, eSl, mPart, mNoPart, slP, iRange1, iRange2, ints1, intsOf, iSeq, itemsOf, sAsgT, gN, gT, gsCons, gsNil, tOr', tAnd', tNot', tOfB, sFor, sFrz, frzE] <;> (repeat' (first | with_reducible rfl | apply And.intro))), ?_⟩
        refine wp_seq (by (simp -implicitDefEqProofs [Res.bind_ok, Res.bind_bad, Res.bind_err, runP, sSeq, sNil, sIf, sRet, sRetN, sBreak, sCont, sAsg, inS', outR, opd, frzS, eVar, eC, eBin, tBin, eNeg, eCall, mCons, mNil, keepR, keepRs, rsls, rsl, noNon, toBor, argS, eDef, goodR, lenP, dInt, dBool, rv, rdS, PL.ltP, intCmp, addP, subP, mulP, MulOk.l, MulOk.r, RepOk.of, PowOk.of, DivOk.of, RngOk.of, modP, fdivP, powP, listP, tupleP, intP, maxP, minP, seqS, eIx, isDictR, eIxS, ixP, outR, sApp, sPut, sPutL, eTup, eLst, eSl, mPart, mNoPart, slP, iRange1, iRange2, ints1, intsOf, iSeq, itemsOf, sAsgT, gN, gT, gsCons, gsNil, tOr', tAnd', tNot', tOfB, sFor, sFrz, frzE] <;> (repeat' (first | with_reducible rfl | apply And.intro)))) ?_
        have a0 := Int.emod_nonneg (mx * 48271 + 11 + i) (b := 2147483647) (by decide)
        have a1 := Int.emod_lt_of_pos (mx * 48271 + 11 + i) (b := 2147483647) (by decide)
        generalize (mx * 48271 + 11 + i) % 2147483647 = my at a0 a1 ⊢
        refine wp_seq (by (simp -implicitDefEqProofs [Res.bind_ok, Res.bind_bad, Res.bind_err, runP, sSeq, sNil, sIf, sRet, sRetN, sBreak, sCont, sAsg, inS', outR, opd, frzS, eVar, eC, eBin, tBin, eNeg, eCall, mCons, mNil, keepR, keepRs, rsls, rsl, noNon, toBor, argS, eDef, goodR, lenP, dInt, dBool, rv, rdS, PL.ltP, intCmp, addP, subP, mulP, MulOk.l, MulOk.r, RepOk.of, PowOk.of, DivOk.of, RngOk.of, modP, fdivP, powP, listP, tupleP, intP, maxP, minP, seqS, eIx, isDictR, eIxS, ixP, outR, sApp, sPut, sPutL, eTup, eLst, eSl, mPart, mNoPart, slP, iRange1, iRange2, ints1, intsOf, iSeq, itemsOf, sAsgT, gN, gT, gsCons, gsNil, tOr', tAnd', tNot', tOfB, sFor, sFrz, frzE] <;> (repeat' (first | with_reducible rfl | apply And.intro)))) ?_
        have b0 := Int.emod_nonneg (my * 69621 + 3) (b := 2147483647) (by decide)
        have b1 := Int.emod_lt_of_pos (my * 69621 + 3) (b := 2147483647) (by decide)
        generalize (my * 69621 + 3) % 2147483647 = mz at b0 b1 ⊢
        refine Wp.ok (by (simp -implicitDefEqProofs [Res.bind_ok, Res.bind_bad, Res.bind_err, runP, sSeq, sNil, sIf, sRet, sRetN, sBreak, sCont, sAsg, inS', outR, opd, frzS, eVar, eC, eBin, tBin, eNeg, eCall, mCons, mNil, keepR, keepRs, rsls, rsl, noNon, toBor, argS, eDef, goodR, lenP, dInt, dBool, rv, rdS, PL.ltP, intCmp, addP, subP, mulP, MulOk.l, MulOk.r, RepOk.of, PowOk.of, DivOk.of, RngOk.of, modP, fdivP, powP, listP, tupleP, intP, maxP, minP, seqS, eIx, isDictR, eIxS, ixP, outR, sApp, sPut, sPutL, eTup, eLst, eSl, mPart, mNoPart, slP, iRange1, iRange2, ints1, intsOf, iSeq, itemsOf, sAsgT, gN, gT, gsCons, gsNil, tOr', tAnd', tNot', tOfB, sFor, sFrz, frzE, atI, ixN, hi, (List.getElem?_eq_some_iff.mp hz').2, z0, hl] <;> (repeat' (first | with_reducible rfl | apply And.intro)))) ?_
        refine ⟨mz, ds ++ [mz / 7 % z], .dat (.int i), by simp [iL], hD.snoc hz' (Int.emod_nonneg _ (by omega)) (Int.emod_lt_of_pos _ z0), b0, b1⟩
      · rintro ρ ⟨mx, ds, s, rfl, hD, _⟩
        refine Wp.ok (by (simp -implicitDefEqProofs [Res.bind_ok, Res.bind_bad, Res.bind_err, runP, sSeq, sNil, sIf, sRet, sRetN, sBreak, sCont, sAsg, inS', outR, opd, frzS, eVar, eC, eBin, tBin, eNeg, eCall, mCons, mNil, keepR, keepRs, rsls, rsl, noNon, toBor, argS, eDef, goodR, lenP, dInt, dBool, rv, rdS, PL.ltP, intCmp, addP, subP, mulP, MulOk.l, MulOk.r, RepOk.of, PowOk.of, DivOk.of, RngOk.of, modP, fdivP, powP, listP, tupleP, intP, maxP, minP, seqS, eIx, isDictR, eIxS, ixP, outR, sApp, sPut, sPutL, eTup, eLst, eSl, mPart, mNoPart, slP, iRange1, iRange2, ints1, intsOf, iSeq, itemsOf, sAsgT, gN, gT, gsCons, gsNil, tOr', tAnd', tNot', tOfB, sFor, sFrz, frzE] <;> (repeat' (first | with_reducible rfl | apply And.intro)))) ?_
        exact ⟨_, rfl, trivial, ds, rfl, by simpa using hD⟩
  obtain ⟨r, e, ds, rfl, h⟩ := main
  exact ⟨ds, e, h⟩
/-- the draws as plain numbers -/
def DrT (ds : List Nat) (zs : List Int) : Prop := ds.length = zs.length ∧ ∀ (i d : Nat) (z : Int), ds[i]? = some d → zs[i]? = some z → (d : Int) < z
theorem v_drawN (ns : List Int) (k : Nat) (zs : List Int) (hk : k ≤ 1000) (hz : Sz zs) : ∃ ds : List Nat, p__law_draw [.scr ns, .dat (.int k), .dat (.list (iL zs))] = .ok (.new (.lst (ds.map fun n : Nat => PyData.int (n : Int)))) [] ∧ DrT ds zs := by
  obtain ⟨ds, e, h1, h2⟩ := v_draw ns k zs hk hz
  have key : iL ds = (ds.map Int.toNat).map fun n : Nat => PyData.int (n : Int) := by
    rw [List.map_map]
    refine List.map_congr_left fun d hd => ?_
    obtain ⟨i, hi, e⟩ := List.mem_iff_getElem.mp hd
    obtain ⟨z, hz'⟩ : ∃ z, zs[i]? = some z := ⟨zs[i], List.getElem?_eq_getElem _⟩
    have := (h2 i d z (by rw [← e]; exact List.getElem?_eq_getElem hi) hz').1
    show PyData.int d = PyData.int ((d.toNat : Nat) : Int)
    rw [Int.toNat_of_nonneg this]
  refine ⟨ds.map Int.toNat, by rw [e, key], by simp [h1], fun i d z hd hz' => ?_⟩
  rw [List.getElem?_map] at hd
  cases e : ds[i]? with
  | none => rw [e] at hd; cases hd
  | some d' =>
    rw [e] at hd; cases hd
    obtain ⟨q1, q2⟩ := h2 i d' z e hz'
    omega
theorem DrT.get {ds : List Nat} {zs : List Int} (h : DrT ds zs) {i : Nat} {z : Int} (hz : zs[i]? = some z) : ∃ d, ds[i]? = some d ∧ (d : Int) < z := by
  have hi : i < ds.length := by rw [h.1]; exact (List.getElem?_eq_some_iff.mp hz).1
  exact ⟨ds[i], List.getElem?_eq_getElem hi, h.2 i _ z (List.getElem?_eq_getElem hi) hz⟩
end Law
end

section
set_option maxRecDepth 100000
set_option maxHeartbeats 1000000
namespace Law
open PySem L2 PL
inductive Opd where
  | inp (i : Nat)
  | reg (i : Nat)
  | num (c : Int)
def Opd.str : Opd → Str
  | .inp i => "x" ++ numS i
  | .reg i => "r" ++ numS i
  | .num c => numS c
def Opd.ok (nx : Nat) : Opd → Prop
  | .inp i => i < nx ∧ i < 1000
  | .reg i => i < 8
  | .num c => 0 ≤ c ∧ c < 1000000
def Opd.val (xs rs : List Int) : Opd → Int
  | .inp i => xs.getD i 0
  | .reg i => rs.getD i 0
  | .num c => c
def Seq (s : PL.Slot) (xs : List Int) : Prop := s = .dat (.list (iL xs)) ∨ s = .bor (iL xs)
theorem getI {xs : List Int} {i : Nat} (h : i < xs.length) : atI (iL xs) i = some (.int (xs.getD i 0)) := by
  simp [atI, ixN, h]
theorem x120 : (PySem.Str.ofString "x") = ⟨#[120]⟩ := by decide
theorem r114 : (PySem.Str.ofString "r") = ⟨#[114]⟩ := by decide
theorem s115 : (PySem.Str.ofString "s") = ⟨#[115]⟩ := by decide
theorem q_xx : eqP (.str ⟨#[120]⟩) (.str (PySem.Str.ofString "x")) = dBool true := by rw [eqP_str (by decide +kernel) (by decide +kernel)]; rfl
theorem q_rx : eqP (.str ⟨#[114]⟩) (.str (PySem.Str.ofString "x")) = dBool false := by rw [eqP_str (by decide +kernel) (by decide +kernel)]; rfl
theorem q_rs : eqP (.str ⟨#[114]⟩) (.str (PySem.Str.ofString "s")) = dBool false := by rw [eqP_str (by decide +kernel) (by decide +kernel)]; rfl
theorem q_rr : eqP (.str ⟨#[114]⟩) (.str (PySem.Str.ofString "r")) = dBool true := by rw [eqP_str (by decide +kernel) (by decide +kernel)]; rfl
theorem v_source {o : Opd} {xs rs : List Int} {nx : Nat} {s1 s2 : PL.Slot} (ho : o.ok nx) (h1 : Seq s1 xs) (h2 : Seq s2 rs) (hx : xs.length = nx) (hr : rs.length = 8) :
    p_source_value [.dat (.str o.str), s1, s2] = .ok (.dat (.int (o.val xs rs))) [] := by
  cases o with
  | inp i =>
    have hn : Num (i : Int) := ⟨by omega, by have := ho.2; omega⟩
    have hl := word_len "x" (by decide) hn
    have ha := word_at "x" (i : Int) (k := 120) (by decide)
    have hc := word_cut "x" (i : Int) (by decide)
    have hg := getI (xs := xs) (i := i) (by rw [hx]; exact ho.1)
    have hi := numS_int hn
    have hi2 : (numS (i : Int)).length ≤ 640 := Nat.le_trans (numS_len hn) (by decide)
    rcases h1 with rfl | rfl
    · simp -implicitDefEqProofs [Res.bind_ok, Res.bind_bad, Res.bind_err, runP, sSeq, sNil, sIf, sRet, sRetN, sBreak, sCont, sAsg, inS', outR, opd, frzS, eVar, eC, eBin, tBin, eNeg, eCall, mCons, mNil, keepR, keepRs, rsls, rsl, noNon, toBor, argS, eDef, goodR, lenP, dInt, dBool, rv, rdS, PL.ltP, intCmp, addP, subP, mulP, MulOk.l, MulOk.r, RepOk.of, PowOk.of, DivOk.of, RngOk.of, modP, fdivP, powP, listP, tupleP, intP, maxP, minP, seqS, eIx, isDictR, eIxS, ixP, outR, sApp, sPut, sPutL, eTup, eLst, eSl, mPart, mNoPart, slP, iRange1, iRange2, ints1, intsOf, iSeq, itemsOf, sAsgT, gN, gT, gsCons, gsNil, tOr', tAnd', tNot', tOfB, sFor, sFrz, frzE, p_source_value, m_source_value, Opd.str, size640 (Nat.le_trans hl (by decide)), ha, q_xx, hc, hi, hi2, hg, Opd.val]
    · simp -implicitDefEqProofs [Res.bind_ok, Res.bind_bad, Res.bind_err, runP, sSeq, sNil, sIf, sRet, sRetN, sBreak, sCont, sAsg, inS', outR, opd, frzS, eVar, eC, eBin, tBin, eNeg, eCall, mCons, mNil, keepR, keepRs, rsls, rsl, noNon, toBor, argS, eDef, goodR, lenP, dInt, dBool, rv, rdS, PL.ltP, intCmp, addP, subP, mulP, MulOk.l, MulOk.r, RepOk.of, PowOk.of, DivOk.of, RngOk.of, modP, fdivP, powP, listP, tupleP, intP, maxP, minP, seqS, eIx, isDictR, eIxS, ixP, outR, sApp, sPut, sPutL, eTup, eLst, eSl, mPart, mNoPart, slP, iRange1, iRange2, ints1, intsOf, iSeq, itemsOf, sAsgT, gN, gT, gsCons, gsNil, tOr', tAnd', tNot', tOfB, sFor, sFrz, frzE, p_source_value, m_source_value, Opd.str, size640 (Nat.le_trans hl (by decide)), ha, q_xx, hc, hi, hi2, hg, Opd.val]
  | reg i =>
    have hn : Num (i : Int) := ⟨by omega, by have : i < 8 := ho; omega⟩
    have hl := word_len "r" (by decide) hn
    have ha := word_at "r" (i : Int) (k := 114) (by decide)
    have hc := word_cut "r" (i : Int) (by decide)
    have hg := getI (xs := rs) (i := i) (by rw [hr]; exact ho)
    have hi := numS_int hn
    have hi2 : (numS (i : Int)).length ≤ 640 := Nat.le_trans (numS_len hn) (by decide)
    rcases h2 with rfl | rfl
    · simp -implicitDefEqProofs [Res.bind_ok, Res.bind_bad, Res.bind_err, runP, sSeq, sNil, sIf, sRet, sRetN, sBreak, sCont, sAsg, inS', outR, opd, frzS, eVar, eC, eBin, tBin, eNeg, eCall, mCons, mNil, keepR, keepRs, rsls, rsl, noNon, toBor, argS, eDef, goodR, lenP, dInt, dBool, rv, rdS, PL.ltP, intCmp, addP, subP, mulP, MulOk.l, MulOk.r, RepOk.of, PowOk.of, DivOk.of, RngOk.of, modP, fdivP, powP, listP, tupleP, intP, maxP, minP, seqS, eIx, isDictR, eIxS, ixP, outR, sApp, sPut, sPutL, eTup, eLst, eSl, mPart, mNoPart, slP, iRange1, iRange2, ints1, intsOf, iSeq, itemsOf, sAsgT, gN, gT, gsCons, gsNil, tOr', tAnd', tNot', tOfB, sFor, sFrz, frzE, p_source_value, m_source_value, Opd.str, size640 (Nat.le_trans hl (by decide)), ha, q_rx, q_rr, hc, hi, hi2, hg, Opd.val]
    · simp -implicitDefEqProofs [Res.bind_ok, Res.bind_bad, Res.bind_err, runP, sSeq, sNil, sIf, sRet, sRetN, sBreak, sCont, sAsg, inS', outR, opd, frzS, eVar, eC, eBin, tBin, eNeg, eCall, mCons, mNil, keepR, keepRs, rsls, rsl, noNon, toBor, argS, eDef, goodR, lenP, dInt, dBool, rv, rdS, PL.ltP, intCmp, addP, subP, mulP, MulOk.l, MulOk.r, RepOk.of, PowOk.of, DivOk.of, RngOk.of, modP, fdivP, powP, listP, tupleP, intP, maxP, minP, seqS, eIx, isDictR, eIxS, ixP, outR, sApp, sPut, sPutL, eTup, eLst, eSl, mPart, mNoPart, slP, iRange1, iRange2, ints1, intsOf, iSeq, itemsOf, sAsgT, gN, gT, gsCons, gsNil, tOr', tAnd', tNot', tOfB, sFor, sFrz, frzE, p_source_value, m_source_value, Opd.str, size640 (Nat.le_trans hl (by decide)), ha, q_rx, q_rr, hc, hi, hi2, hg, Opd.val]
  | num c =>
    have hn : Num c := ⟨ho.1, by have := ho.2; omega⟩
    obtain ⟨k, ha, k0, k1⟩ := num_at hn
    have hi := numS_int hn
    have hi2 : (numS c).length ≤ 640 := Nat.le_trans (numS_len hn) (by decide)
    have q1 : eqP (.str ⟨#[k]⟩) (.str (PySem.Str.ofString "x")) = dBool false := by rw [eqP_str (one_ok (by omega)) (by decide +kernel), one_ne k x120 (by omega)]
    have q2 : eqP (.str ⟨#[k]⟩) (.str (PySem.Str.ofString "r")) = dBool false := by rw [eqP_str (one_ok (by omega)) (by decide +kernel), one_ne k r114 (by omega)]
    simp -implicitDefEqProofs [Res.bind_ok, Res.bind_bad, Res.bind_err, runP, sSeq, sNil, sIf, sRet, sRetN, sBreak, sCont, sAsg, inS', outR, opd, frzS, eVar, eC, eBin, tBin, eNeg, eCall, mCons, mNil, keepR, keepRs, rsls, rsl, noNon, toBor, argS, eDef, goodR, lenP, dInt, dBool, rv, rdS, PL.ltP, intCmp, addP, subP, mulP, MulOk.l, MulOk.r, RepOk.of, PowOk.of, DivOk.of, RngOk.of, modP, fdivP, powP, listP, tupleP, intP, maxP, minP, seqS, eIx, isDictR, eIxS, ixP, outR, sApp, sPut, sPutL, eTup, eLst, eSl, mPart, mNoPart, slP, iRange1, iRange2, ints1, intsOf, iSeq, itemsOf, sAsgT, gN, gT, gsCons, gsNil, tOr', tAnd', tNot', tOfB, sFor, sFrz, frzE, p_source_value, m_source_value, Opd.str, size640 hi2, ha, q1, q2, hi, hi2, Opd.val]
theorem v_lvalue {o : Opd} {xs rs : List Int} {nx : Nat} {s1 s2 : PL.Slot} (ho : o.ok nx) (h1 : Seq s1 xs) (h2 : Seq s2 rs) (hx : xs.length = nx) (hr : rs.length = 8) :
    p__law_value [.dat (.str o.str), s1, s2] = .ok (.dat (.int (o.val xs rs))) [] := by
  cases o with
  | inp i =>
    have hn : Num (i : Int) := ⟨by omega, by have := ho.2; omega⟩
    have hl := word_len "x" (by decide) hn
    have ha := word_at "x" (i : Int) (k := 120) (by decide)
    have hc := word_cut "x" (i : Int) (by decide)
    have hg := getI (xs := xs) (i := i) (by rw [hx]; exact ho.1)
    have hi := numS_int hn
    have hi2 : (numS (i : Int)).length ≤ 640 := Nat.le_trans (numS_len hn) (by decide)
    rcases h1 with rfl | rfl
    · simp -implicitDefEqProofs [Res.bind_ok, Res.bind_bad, Res.bind_err, runP, sSeq, sNil, sIf, sRet, sRetN, sBreak, sCont, sAsg, inS', outR, opd, frzS, eVar, eC, eBin, tBin, eNeg, eCall, mCons, mNil, keepR, keepRs, rsls, rsl, noNon, toBor, argS, eDef, goodR, lenP, dInt, dBool, rv, rdS, PL.ltP, intCmp, addP, subP, mulP, MulOk.l, MulOk.r, RepOk.of, PowOk.of, DivOk.of, RngOk.of, modP, fdivP, powP, listP, tupleP, intP, maxP, minP, seqS, eIx, isDictR, eIxS, ixP, outR, sApp, sPut, sPutL, eTup, eLst, eSl, mPart, mNoPart, slP, iRange1, iRange2, ints1, intsOf, iSeq, itemsOf, sAsgT, gN, gT, gsCons, gsNil, tOr', tAnd', tNot', tOfB, sFor, sFrz, frzE, p__law_value, m__law_value, Opd.str, size640 (Nat.le_trans hl (by decide)), ha, q_xx, hc, hi, hi2, hg, Opd.val]
    · simp -implicitDefEqProofs [Res.bind_ok, Res.bind_bad, Res.bind_err, runP, sSeq, sNil, sIf, sRet, sRetN, sBreak, sCont, sAsg, inS', outR, opd, frzS, eVar, eC, eBin, tBin, eNeg, eCall, mCons, mNil, keepR, keepRs, rsls, rsl, noNon, toBor, argS, eDef, goodR, lenP, dInt, dBool, rv, rdS, PL.ltP, intCmp, addP, subP, mulP, MulOk.l, MulOk.r, RepOk.of, PowOk.of, DivOk.of, RngOk.of, modP, fdivP, powP, listP, tupleP, intP, maxP, minP, seqS, eIx, isDictR, eIxS, ixP, outR, sApp, sPut, sPutL, eTup, eLst, eSl, mPart, mNoPart, slP, iRange1, iRange2, ints1, intsOf, iSeq, itemsOf, sAsgT, gN, gT, gsCons, gsNil, tOr', tAnd', tNot', tOfB, sFor, sFrz, frzE, p__law_value, m__law_value, Opd.str, size640 (Nat.le_trans hl (by decide)), ha, q_xx, hc, hi, hi2, hg, Opd.val]
  | reg i =>
    have hn : Num (i : Int) := ⟨by omega, by have : i < 8 := ho; omega⟩
    have hl := word_len "r" (by decide) hn
    have ha := word_at "r" (i : Int) (k := 114) (by decide)
    have hc := word_cut "r" (i : Int) (by decide)
    have hg := getI (xs := rs) (i := i) (by rw [hr]; exact ho)
    have hi := numS_int hn
    have hi2 : (numS (i : Int)).length ≤ 640 := Nat.le_trans (numS_len hn) (by decide)
    rcases h2 with rfl | rfl
    · simp -implicitDefEqProofs [Res.bind_ok, Res.bind_bad, Res.bind_err, runP, sSeq, sNil, sIf, sRet, sRetN, sBreak, sCont, sAsg, inS', outR, opd, frzS, eVar, eC, eBin, tBin, eNeg, eCall, mCons, mNil, keepR, keepRs, rsls, rsl, noNon, toBor, argS, eDef, goodR, lenP, dInt, dBool, rv, rdS, PL.ltP, intCmp, addP, subP, mulP, MulOk.l, MulOk.r, RepOk.of, PowOk.of, DivOk.of, RngOk.of, modP, fdivP, powP, listP, tupleP, intP, maxP, minP, seqS, eIx, isDictR, eIxS, ixP, outR, sApp, sPut, sPutL, eTup, eLst, eSl, mPart, mNoPart, slP, iRange1, iRange2, ints1, intsOf, iSeq, itemsOf, sAsgT, gN, gT, gsCons, gsNil, tOr', tAnd', tNot', tOfB, sFor, sFrz, frzE, p__law_value, m__law_value, Opd.str, size640 (Nat.le_trans hl (by decide)), ha, q_rx, q_rs, q_rr, hc, hi, hi2, hg, Opd.val]
    · simp -implicitDefEqProofs [Res.bind_ok, Res.bind_bad, Res.bind_err, runP, sSeq, sNil, sIf, sRet, sRetN, sBreak, sCont, sAsg, inS', outR, opd, frzS, eVar, eC, eBin, tBin, eNeg, eCall, mCons, mNil, keepR, keepRs, rsls, rsl, noNon, toBor, argS, eDef, goodR, lenP, dInt, dBool, rv, rdS, PL.ltP, intCmp, addP, subP, mulP, MulOk.l, MulOk.r, RepOk.of, PowOk.of, DivOk.of, RngOk.of, modP, fdivP, powP, listP, tupleP, intP, maxP, minP, seqS, eIx, isDictR, eIxS, ixP, outR, sApp, sPut, sPutL, eTup, eLst, eSl, mPart, mNoPart, slP, iRange1, iRange2, ints1, intsOf, iSeq, itemsOf, sAsgT, gN, gT, gsCons, gsNil, tOr', tAnd', tNot', tOfB, sFor, sFrz, frzE, p__law_value, m__law_value, Opd.str, size640 (Nat.le_trans hl (by decide)), ha, q_rx, q_rs, q_rr, hc, hi, hi2, hg, Opd.val]
  | num c =>
    have hn : Num c := ⟨ho.1, by have := ho.2; omega⟩
    obtain ⟨k, ha, k0, k1⟩ := num_at hn
    have hi := numS_int hn
    have hi2 : (numS c).length ≤ 640 := Nat.le_trans (numS_len hn) (by decide)
    have q1 : eqP (.str ⟨#[k]⟩) (.str (PySem.Str.ofString "x")) = dBool false := by rw [eqP_str (one_ok (by omega)) (by decide +kernel), one_ne k x120 (by omega)]
    have q2 : eqP (.str ⟨#[k]⟩) (.str (PySem.Str.ofString "r")) = dBool false := by rw [eqP_str (one_ok (by omega)) (by decide +kernel), one_ne k r114 (by omega)]
    have q3 : eqP (.str ⟨#[k]⟩) (.str (PySem.Str.ofString "s")) = dBool false := by rw [eqP_str (one_ok (by omega)) (by decide +kernel), one_ne k s115 (by omega)]
    simp -implicitDefEqProofs [Res.bind_ok, Res.bind_bad, Res.bind_err, runP, sSeq, sNil, sIf, sRet, sRetN, sBreak, sCont, sAsg, inS', outR, opd, frzS, eVar, eC, eBin, tBin, eNeg, eCall, mCons, mNil, keepR, keepRs, rsls, rsl, noNon, toBor, argS, eDef, goodR, lenP, dInt, dBool, rv, rdS, PL.ltP, intCmp, addP, subP, mulP, MulOk.l, MulOk.r, RepOk.of, PowOk.of, DivOk.of, RngOk.of, modP, fdivP, powP, listP, tupleP, intP, maxP, minP, seqS, eIx, isDictR, eIxS, ixP, outR, sApp, sPut, sPutL, eTup, eLst, eSl, mPart, mNoPart, slP, iRange1, iRange2, ints1, intsOf, iSeq, itemsOf, sAsgT, gN, gT, gsCons, gsNil, tOr', tAnd', tNot', tOfB, sFor, sFrz, frzE, p__law_value, m__law_value, Opd.str, size640 hi2, ha, q1, q2, q3, hi, hi2, Opd.val]
end Law
end

section
set_option maxRecDepth 100000
set_option maxHeartbeats 1000000
namespace Law
open PySem L2 PL
inductive Op3 where
  | add
  | sub
  | mul
def Op3.code : Op3 → Nat
  | .add => 43
  | .sub => 45
  | .mul => 42
def Op3.str (o : Op3) : Str := ⟨#[o.code]⟩
def Op3.fn : Op3 → Int → Int → Int
  | .add, i, j => i + j
  | .sub, i, j => i - j
  | .mul, i, j => i * j
theorem q_op_add (o : Op3) : eqP (.str o.str) (.str (PySem.Str.ofString "+")) = dBool (match o with | .add => true | _ => false) := by
  cases o <;> (rw [eqP_str (by decide +kernel) (by decide +kernel)]; rfl)
theorem q_op_sub (o : Op3) : eqP (.str o.str) (.str (PySem.Str.ofString "-")) = dBool (match o with | .sub => true | _ => false) := by
  cases o <;> (rw [eqP_str (by decide +kernel) (by decide +kernel)]; rfl)
def sgS (m : Bool) : Str := if m then Op3.sub.str else Op3.add.str
theorem q_sg_add (m : Bool) : eqP (.str (sgS m)) (.str (PySem.Str.ofString "+")) = dBool (!m) := by
  cases m <;> (rw [eqP_str (by decide +kernel) (by decide +kernel)]; rfl)
theorem q_sg_sub (m : Bool) : eqP (.str (sgS m)) (.str (PySem.Str.ofString "-")) = dBool m := by
  cases m <;> (rw [eqP_str (by decide +kernel) (by decide +kernel)]; rfl)
theorem v_result_of (o : Op3) (i j : Int) (h1 : MulOk i j) : p_result_of [.dat (.str o.str), .dat (.int i), .dat (.int j)] = .ok (.dat (.int (o.fn i j))) [] := by
  have e1 := q_op_add o
  have e2 := q_op_sub o
  cases o <;> simp -implicitDefEqProofs [Res.bind_ok, Res.bind_bad, Res.bind_err, runP, sSeq, sNil, sIf, sRet, sRetN, sBreak, sCont, sAsg, inS', outR, opd, frzS, eVar, eC, eBin, tBin, eNeg, eCall, mCons, mNil, keepR, keepRs, rsls, rsl, noNon, toBor, argS, eDef, goodR, lenP, dInt, dBool, rv, rdS, PL.ltP, intCmp, addP, subP, mulP, MulOk.l, MulOk.r, RepOk.of, PowOk.of, DivOk.of, RngOk.of, modP, fdivP, powP, listP, tupleP, intP, maxP, minP, seqS, eIx, isDictR, eIxS, ixP, outR, sApp, sPut, sPutL, eTup, eLst, eSl, mPart, mNoPart, slP, iRange1, iRange2, ints1, intsOf, iSeq, itemsOf, sAsgT, gN, gT, gsCons, gsNil, tOr', tAnd', tNot', tOfB, sFor, sFrz, frzE, p_result_of, m_result_of, e1, e2, Op3.fn, h1]
theorem v_law_result (o : Op3) (i j m : Int) (h1 : MulOk i j) (hm : 0 < m) : p__law_result [.dat (.str o.str), .dat (.int i), .dat (.int j), .dat (.int m)] = .ok (.dat (.int (o.fn i j % m))) [] := by
  have e1 := q_op_add o
  have e2 := q_op_sub o
  cases o <;> simp -implicitDefEqProofs [Res.bind_ok, Res.bind_bad, Res.bind_err, runP, sSeq, sNil, sIf, sRet, sRetN, sBreak, sCont, sAsg, inS', outR, opd, frzS, eVar, eC, eBin, tBin, eNeg, eCall, mCons, mNil, keepR, keepRs, rsls, rsl, noNon, toBor, argS, eDef, goodR, lenP, dInt, dBool, rv, rdS, PL.ltP, intCmp, addP, subP, mulP, MulOk.l, MulOk.r, RepOk.of, PowOk.of, DivOk.of, RngOk.of, modP, fdivP, powP, listP, tupleP, intP, maxP, minP, seqS, eIx, isDictR, eIxS, ixP, outR, sApp, sPut, sPutL, eTup, eLst, eSl, mPart, mNoPart, slP, iRange1, iRange2, ints1, intsOf, iSeq, itemsOf, sAsgT, gN, gT, gsCons, gsNil, tOr', tAnd', tNot', tOfB, sFor, sFrz, frzE, p__law_result, m__law_result, e1, e2, Op3.fn, h1, hm]
structure Ins where
  cell : Nat
  minus : Bool
  op : Op3
  l : Opd
  r : Opd
def Ins.data (i : Ins) : PyData := .tuple [.int i.cell, .str (sgS i.minus), .str i.op.str, .str i.l.str, .str i.r.str]
def Ins.ok (nx : Nat) (i : Ins) : Prop := i.cell < 8 ∧ i.l.ok nx ∧ i.r.ok nx
def Ins.res (xs rs : List Int) (i : Ins) : Int := i.op.fn (i.l.val xs rs) (i.r.val xs rs)
def step (md : Int) (xs rs : List Int) (i : Ins) : List Int := rs.set i.cell ((rs.getD i.cell 0 + (if i.minus then -i.res xs rs else i.res xs rs)) % md)
/-- numbers that are no large ones -/
def Sm (xs : List Int) : Prop := ∀ v ∈ xs, 0 ≤ v ∧ v < 1000
theorem Sm.get {xs : List Int} (h : Sm xs) (i : Nat) : 0 ≤ xs.getD i 0 ∧ xs.getD i 0 < 1000 := by
  by_cases hi : i < xs.length
  · have : xs.getD i 0 = xs[i] := by simp [hi]
    rw [this]
    exact h _ (List.getElem_mem hi)
  · simp [List.getD, List.getElem?_eq_none (Nat.le_of_not_lt hi)]
theorem Opd.val_sm {o : Opd} {nx : Nat} {xs rs : List Int} (ho : o.ok nx) (h1 : Sm xs) (h2 : Sm rs) : 0 ≤ o.val xs rs ∧ o.val xs rs < 1000000 := by
  cases o with
  | inp i => have := h1.get i; exact ⟨this.1, by simp only [Opd.val]; omega⟩
  | reg i => have := h2.get i; exact ⟨this.1, by simp only [Opd.val]; omega⟩
  | num c => exact ho
theorem step_len (md : Int) (xs rs : List Int) (i : Ins) : (step md xs rs i).length = rs.length := by simp [step]
theorem step_sm {md : Int} {xs rs : List Int} {i : Ins} (h : Sm rs) (h1 : 0 < md) (h2 : md ≤ 1000) : Sm (step md xs rs i) := by
  intro v hv
  rcases List.mem_or_eq_of_mem_set hv with hv | rfl
  · exact h v hv
  · exact ⟨Int.emod_nonneg _ (by omega), Int.lt_of_lt_of_le (Int.emod_lt_of_pos _ h1) h2⟩
def PD (md : Int) (nx : Nat) (d : PyData) : Prop := ∃ a b, d = .tuple [.int md, .int nx, a, b]
theorem v_performed {md : Int} {nx : Nat} {pd : PyData} {i : Ins} {xs rs : List Int} {s1 s2 : PL.Slot} (hp : PD md nx pd) (hi : i.ok nx) (h1 : Seq s1 xs) (h2 : Seq s2 rs) (hx : xs.length = nx) (hr : rs.length = 8) (m0 : 0 < md) (m1 : md ≤ 1000) (sx : Sm xs) (sr : Sm rs) :
    p_performed [.dat pd, .dat i.data, s1, s2] = .ok (.new (.lst (iL (step md xs rs i)))) [] := by
  obtain ⟨a, b, rfl⟩ := hp
  have b1 := Opd.val_sm hi.2.1 sx sr
  have v1 := v_source hi.2.1 h1 h2 hx hr
  have v2 := v_source hi.2.2 h1 h2 hx hr
  have v3 := v_result_of i.op (i.l.val xs rs) (i.r.val xs rs) (MulOk.sm (by omega))
  have e1 := q_sg_add i.minus
  have hc : i.cell < rs.length := by rw [hr]; exact hi.1
  refine run_eq trivial ?_
  unfold m_performed
  have hat : atI (iL rs) i.cell = some (.int (rs.getD i.cell 0)) := getI hc
  have fin : ∀ s : PL.Slot, Seq s rs → ∀ s1, Seq s1 xs → Wp ((sSeq (sIf (tBin eqP (eVar 5) (eC (.str "+")))
      (sPut 10 (eBin modP (eBin addP (eIx (eVar 10) (eVar 4)) (eVar 9)) (eIx (eVar 0) (eC (.int 0)))) (eVar 4))
      (sPut 10 (eBin modP (eBin subP (eIx (eVar 10) (eVar 4)) (eVar 9)) (eIx (eVar 0) (eC (.int 0)))) (eVar 4)))
    (sRet (eVar 10))) [.dat (.tuple [.int md, .int nx, a, b]), .dat i.data, s1, s, .dat (.int i.cell), .dat (.str (sgS i.minus)), .dat (.str i.op.str), .dat (.str i.l.str), .dat (.str i.r.str), .dat (.int (i.res xs rs)), .lst (iL rs)]) fun f _ => f = .ret (.new (.lst (iL (step md xs rs i)))) := by
    intro s hs s1 hs1
    have mem : i.cell < (iL rs).length := by simpa using hc
    cases hm : i.minus with
    | true =>
      rw [hm] at e1
      refine wp_seq (wp_ifF' (by (simp -implicitDefEqProofs [Res.bind_ok, Res.bind_bad, Res.bind_err, runP, sSeq, sNil, sIf, sRet, sRetN, sBreak, sCont, sAsg, inS', outR, opd, frzS, eVar, eC, eBin, tBin, eNeg, eCall, mCons, mNil, keepR, keepRs, rsls, rsl, noNon, toBor, argS, eDef, goodR, lenP, dInt, dBool, rv, rdS, PL.ltP, intCmp, addP, subP, mulP, MulOk.l, MulOk.r, RepOk.of, PowOk.of, DivOk.of, RngOk.of, modP, fdivP, powP, listP, tupleP, intP, maxP, minP, seqS, eIx, isDictR, eIxS, ixP, outR, sApp, sPut, sPutL, eTup, eLst, eSl, mPart, mNoPart, slP, iRange1, iRange2, ints1, intsOf, iSeq, itemsOf, sAsgT, gN, gT, gsCons, gsNil, tOr', tAnd', tNot', tOfB, sFor, sFrz, frzE, e1] <;> (repeat' (first | with_reducible rfl | apply And.intro)))) (by (simp -implicitDefEqProofs [Res.bind_ok, Res.bind_bad, Res.bind_err, runP, sSeq, sNil, sIf, sRet, sRetN, sBreak, sCont, sAsg, inS', outR, opd, frzS, eVar, eC, eBin, tBin, eNeg, eCall, mCons, mNil, keepR, keepRs, rsls, rsl, noNon, toBor, argS, eDef, goodR, lenP, dInt, dBool, rv, rdS, PL.ltP, intCmp, addP, subP, mulP, MulOk.l, MulOk.r, RepOk.of, PowOk.of, DivOk.of, RngOk.of, modP, fdivP, powP, listP, tupleP, intP, maxP, minP, seqS, eIx, isDictR, eIxS, ixP, outR, sApp, sPut, sPutL, eTup, eLst, eSl, mPart, mNoPart, slP, iRange1, iRange2, ints1, intsOf, iSeq, itemsOf, sAsgT, gN, gT, gsCons, gsNil, tOr', tAnd', tNot', tOfB, sFor, sFrz, frzE, hat, m0, atI, ixN, hc] <;> (repeat' (first | with_reducible rfl | apply And.intro))))) ?_
      refine Wp.ok (by (simp -implicitDefEqProofs [Res.bind_ok, Res.bind_bad, Res.bind_err, runP, sSeq, sNil, sIf, sRet, sRetN, sBreak, sCont, sAsg, inS', outR, opd, frzS, eVar, eC, eBin, tBin, eNeg, eCall, mCons, mNil, keepR, keepRs, rsls, rsl, noNon, toBor, argS, eDef, goodR, lenP, dInt, dBool, rv, rdS, PL.ltP, intCmp, addP, subP, mulP, MulOk.l, MulOk.r, RepOk.of, PowOk.of, DivOk.of, RngOk.of, modP, fdivP, powP, listP, tupleP, intP, maxP, minP, seqS, eIx, isDictR, eIxS, ixP, outR, sApp, sPut, sPutL, eTup, eLst, eSl, mPart, mNoPart, slP, iRange1, iRange2, ints1, intsOf, iSeq, itemsOf, sAsgT, gN, gT, gsCons, gsNil, tOr', tAnd', tNot', tOfB, sFor, sFrz, frzE] <;> (repeat' (first | with_reducible rfl | apply And.intro)))) ?_
      simp [step, hm, Int.sub_eq_add_neg, iL, List.map_set, hc]
    | false =>
      rw [hm] at e1
      refine wp_seq (if_T (by (simp -implicitDefEqProofs [Res.bind_ok, Res.bind_bad, Res.bind_err, runP, sSeq, sNil, sIf, sRet, sRetN, sBreak, sCont, sAsg, inS', outR, opd, frzS, eVar, eC, eBin, tBin, eNeg, eCall, mCons, mNil, keepR, keepRs, rsls, rsl, noNon, toBor, argS, eDef, goodR, lenP, dInt, dBool, rv, rdS, PL.ltP, intCmp, addP, subP, mulP, MulOk.l, MulOk.r, RepOk.of, PowOk.of, DivOk.of, RngOk.of, modP, fdivP, powP, listP, tupleP, intP, maxP, minP, seqS, eIx, isDictR, eIxS, ixP, outR, sApp, sPut, sPutL, eTup, eLst, eSl, mPart, mNoPart, slP, iRange1, iRange2, ints1, intsOf, iSeq, itemsOf, sAsgT, gN, gT, gsCons, gsNil, tOr', tAnd', tNot', tOfB, sFor, sFrz, frzE, e1] <;> (repeat' (first | with_reducible rfl | apply And.intro)))) (by (simp -implicitDefEqProofs [Res.bind_ok, Res.bind_bad, Res.bind_err, runP, sSeq, sNil, sIf, sRet, sRetN, sBreak, sCont, sAsg, inS', outR, opd, frzS, eVar, eC, eBin, tBin, eNeg, eCall, mCons, mNil, keepR, keepRs, rsls, rsl, noNon, toBor, argS, eDef, goodR, lenP, dInt, dBool, rv, rdS, PL.ltP, intCmp, addP, subP, mulP, MulOk.l, MulOk.r, RepOk.of, PowOk.of, DivOk.of, RngOk.of, modP, fdivP, powP, listP, tupleP, intP, maxP, minP, seqS, eIx, isDictR, eIxS, ixP, outR, sApp, sPut, sPutL, eTup, eLst, eSl, mPart, mNoPart, slP, iRange1, iRange2, ints1, intsOf, iSeq, itemsOf, sAsgT, gN, gT, gsCons, gsNil, tOr', tAnd', tNot', tOfB, sFor, sFrz, frzE, hat, m0, atI, ixN, hc] <;> (repeat' (first | with_reducible rfl | apply And.intro))))) ?_
      refine Wp.ok (by (simp -implicitDefEqProofs [Res.bind_ok, Res.bind_bad, Res.bind_err, runP, sSeq, sNil, sIf, sRet, sRetN, sBreak, sCont, sAsg, inS', outR, opd, frzS, eVar, eC, eBin, tBin, eNeg, eCall, mCons, mNil, keepR, keepRs, rsls, rsl, noNon, toBor, argS, eDef, goodR, lenP, dInt, dBool, rv, rdS, PL.ltP, intCmp, addP, subP, mulP, MulOk.l, MulOk.r, RepOk.of, PowOk.of, DivOk.of, RngOk.of, modP, fdivP, powP, listP, tupleP, intP, maxP, minP, seqS, eIx, isDictR, eIxS, ixP, outR, sApp, sPut, sPutL, eTup, eLst, eSl, mPart, mNoPart, slP, iRange1, iRange2, ints1, intsOf, iSeq, itemsOf, sAsgT, gN, gT, gsCons, gsNil, tOr', tAnd', tNot', tOfB, sFor, sFrz, frzE] <;> (repeat' (first | with_reducible rfl | apply And.intro)))) ?_
      simp [step, hm, iL, List.map_set, hc]
  have hn : ([.int (i.cell : Int), .str (sgS i.minus), .str i.op.str, .str i.l.str, .str i.r.str] : List PyData).length = 5 := rfl
  rcases h1 with rfl | rfl <;> rcases h2 with rfl | rfl <;>
    (refine wp_seq (by (simp -implicitDefEqProofs [Res.bind_ok, Res.bind_bad, Res.bind_err, runP, sSeq, sNil, sIf, sRet, sRetN, sBreak, sCont, sAsg, inS', outR, opd, frzS, eVar, eC, eBin, tBin, eNeg, eCall, mCons, mNil, keepR, keepRs, rsls, rsl, noNon, toBor, argS, eDef, goodR, lenP, dInt, dBool, rv, rdS, PL.ltP, intCmp, addP, subP, mulP, MulOk.l, MulOk.r, RepOk.of, PowOk.of, DivOk.of, RngOk.of, modP, fdivP, powP, listP, tupleP, intP, maxP, minP, seqS, eIx, isDictR, eIxS, ixP, outR, sApp, sPut, sPutL, eTup, eLst, eSl, mPart, mNoPart, slP, iRange1, iRange2, ints1, intsOf, iSeq, itemsOf, sAsgT, gN, gT, gsCons, gsNil, tOr', tAnd', tNot', tOfB, sFor, sFrz, frzE, Ins.data] <;> (repeat' (first | with_reducible rfl | apply And.intro)))) ?_
     refine wp_seq (by (simp -implicitDefEqProofs [Res.bind_ok, Res.bind_bad, Res.bind_err, runP, sSeq, sNil, sIf, sRet, sRetN, sBreak, sCont, sAsg, inS', outR, opd, frzS, eVar, eC, eBin, tBin, eNeg, eCall, mCons, mNil, keepR, keepRs, rsls, rsl, noNon, toBor, argS, eDef, goodR, lenP, dInt, dBool, rv, rdS, PL.ltP, intCmp, addP, subP, mulP, MulOk.l, MulOk.r, RepOk.of, PowOk.of, DivOk.of, RngOk.of, modP, fdivP, powP, listP, tupleP, intP, maxP, minP, seqS, eIx, isDictR, eIxS, ixP, outR, sApp, sPut, sPutL, eTup, eLst, eSl, mPart, mNoPart, slP, iRange1, iRange2, ints1, intsOf, iSeq, itemsOf, sAsgT, gN, gT, gsCons, gsNil, tOr', tAnd', tNot', tOfB, sFor, sFrz, frzE, v1, v2, v3] <;> (repeat' (first | with_reducible rfl | apply And.intro)))) ?_
     refine wp_seq (by (simp -implicitDefEqProofs [Res.bind_ok, Res.bind_bad, Res.bind_err, runP, sSeq, sNil, sIf, sRet, sRetN, sBreak, sCont, sAsg, inS', outR, opd, frzS, eVar, eC, eBin, tBin, eNeg, eCall, mCons, mNil, keepR, keepRs, rsls, rsl, noNon, toBor, argS, eDef, goodR, lenP, dInt, dBool, rv, rdS, PL.ltP, intCmp, addP, subP, mulP, MulOk.l, MulOk.r, RepOk.of, PowOk.of, DivOk.of, RngOk.of, modP, fdivP, powP, listP, tupleP, intP, maxP, minP, seqS, eIx, isDictR, eIxS, ixP, outR, sApp, sPut, sPutL, eTup, eLst, eSl, mPart, mNoPart, slP, iRange1, iRange2, ints1, intsOf, iSeq, itemsOf, sAsgT, gN, gT, gsCons, gsNil, tOr', tAnd', tNot', tOfB, sFor, sFrz, frzE] <;> (repeat' (first | with_reducible rfl | apply And.intro)))) ?_
     exact fin _ (by first | exact .inl rfl | exact .inr rfl) _ (by first | exact .inl rfl | exact .inr rfl))
end Law
end

section
set_option maxRecDepth 100000
set_option maxHeartbeats 1000000
namespace Law
open PySem L2 PL
theorem mod_plus (c r m : Int) : (c + r % m) % m = (c + r) % m := by
  rw [Int.emod_def r m, show c + (r - m * (r / m)) = c + r + m * (-(r / m)) by rw [Int.mul_neg]; omega, Int.add_mul_emod_self_left]
theorem mod_minus (c r m : Int) : (c + -(r % m)) % m = (c + -r) % m := by
  rw [Int.emod_def r m, show c + -(r - m * (r / m)) = c + -r + m * (r / m) by omega, Int.add_mul_emod_self_left]
def runs (md : Int) (xs : List Int) (rs : List Int) (code : List Ins) : List Int := code.foldl (step md xs) rs
theorem runs_snoc (md : Int) (xs rs : List Int) (code : List Ins) (i : Ins) : runs md xs rs (code ++ [i]) = step md xs (runs md xs rs code) i := by
  simp [runs, List.foldl_append]
theorem runs_len (md : Int) (xs rs : List Int) (code : List Ins) : (runs md xs rs code).length = rs.length := by
  induction code generalizing rs with
  | nil => rfl
  | cons i code ih => show (runs md xs (step md xs rs i) code).length = _; rw [ih, step_len]
theorem runs_sm {md : Int} {xs rs : List Int} {code : List Ins} (h : Sm rs) (h1 : 0 < md) (h2 : md ≤ 1000) : Sm (runs md xs rs code) := by
  induction code generalizing rs with
  | nil => exact h
  | cons i code ih => exact ih (step_sm h h1 h2)
theorem runs_take {md : Int} {xs rs : List Int} {code : List Ins} {k : Nat} {i : Ins} (h : code[k]? = some i) : runs md xs rs (code.take (k + 1)) = step md xs (runs md xs rs (code.take k)) i := by
  rw [List.take_add_one, h, Option.toList_some, runs_snoc]
abbrev cD (code : List Ins) : List PyData := code.map Ins.data
theorem ins_get {code : List Ins} {k : Nat} {d : PyData} (h : (cD code)[k]? = some d) : ∃ i, code[k]? = some i ∧ d = i.data := by
  rw [List.getElem?_map] at h
  cases e : code[k]? with
  | none => rw [e] at h; cases h
  | some z => rw [e] at h; cases h; exact ⟨z, rfl, rfl⟩
theorem v_after {md : Int} {nx : Nat} {pd : PyData} {code : List Ins} {xs rs : List Int} {s1 : PL.Slot} (hp : PD md nx pd) (hc : ∀ i ∈ code, i.ok nx) (h1 : Seq s1 xs) (hx : xs.length = nx) (hr : rs.length = 8) (m0 : 0 < md) (m1 : md ≤ 1000) (sx : Sm xs) (sr : Sm rs) :
    p__law_after [.dat pd, .dat (.list (cD code)), s1, .dat (.list (iL rs))] = .ok (.new (.lst (iL (runs md xs rs code)))) [] := by
  obtain ⟨a, b, rfl⟩ := hp
  refine run_eq trivial ?_
  unfold m__law_after
  have main : ∀ s1, Seq s1 xs → Wp ((sSeq (sAsg 4 (eCall listP (mCons (eVar 3) (mNil))))
    (sSeq (sFor (iSeq (eVar 1)) (gT 5 (gsCons (gN 5) (gsCons (gN 6) (gsCons (gN 7) (gsCons (gN 8) (gsCons (gN 9) (gsNil)))))))
      (sSeq (sAsg 10 (eDef false 4 p__law_result (mCons (eVar 7) (mCons (eDef false 3 p__law_value (mCons (eVar 8) (mCons (eVar 2) (mCons (eVar 4) (mNil))))) (mCons (eDef false 3 p__law_value (mCons (eVar 9) (mCons (eVar 2) (mCons (eVar 4) (mNil))))) (mCons (eIx (eVar 0) (eC (.int 0))) (mNil)))))))
        (sSeq (sIf (tBin eqP (eVar 6) (eC (.str "-")))
          (sAsg 10 (eNeg (eVar 10)))
          (sNil))
        (sPut 4 (eBin modP (eBin addP (eIx (eVar 4) (eVar 5)) (eVar 10)) (eIx (eVar 0) (eC (.int 0)))) (eVar 5)))))
    (sRet (eVar 4)))) [.dat (.tuple [.int md, .int nx, a, b]), .dat (.list (cD code)), s1, .dat (.list (iL rs)), .non, .non, .non, .non, .non, .non, .non]) fun f _ => f = .ret (.new (.lst (iL (runs md xs rs code)))) := by
    intro s1 h1
    have t1 : toBor s1 = s1 := by rcases h1 with rfl | rfl <;> rfl
    refine wp_seq (by (simp -implicitDefEqProofs [Res.bind_ok, Res.bind_bad, Res.bind_err, runP, sSeq, sNil, sIf, sRet, sRetN, sBreak, sCont, sAsg, inS', outR, opd, frzS, eVar, eC, eBin, tBin, eNeg, eCall, mCons, mNil, keepR, keepRs, rsls, rsl, noNon, toBor, argS, eDef, goodR, lenP, dInt, dBool, rv, rdS, PL.ltP, intCmp, addP, subP, mulP, MulOk.l, MulOk.r, RepOk.of, PowOk.of, DivOk.of, RngOk.of, modP, fdivP, powP, listP, tupleP, intP, maxP, minP, seqS, eIx, isDictR, eIxS, ixP, outR, sApp, sPut, sPutL, eTup, eLst, eSl, mPart, mNoPart, slP, iRange1, iRange2, ints1, intsOf, iSeq, itemsOf, sAsgT, gN, gT, gsCons, gsNil, tOr', tAnd', tNot', tOfB, sFor, sFrz, frzE] <;> (repeat' (first | with_reducible rfl | apply And.intro)))) ?_
    refine wp_forS (fun k ρ => ∃ s5 s6 s7 s8 s9 s10, ρ = [.dat (.tuple [.int md, .int nx, a, b]), .dat (.list (cD code)), s1, .dat (.list (iL rs)), .lst (iL (runs md xs rs (code.take k))), s5, s6, s7, s8, s9, s10]) (by (simp -implicitDefEqProofs [Res.bind_ok, Res.bind_bad, Res.bind_err, runP, sSeq, sNil, sIf, sRet, sRetN, sBreak, sCont, sAsg, inS', outR, opd, frzS, eVar, eC, eBin, tBin, eNeg, eCall, mCons, mNil, keepR, keepRs, rsls, rsl, noNon, toBor, argS, eDef, goodR, lenP, dInt, dBool, rv, rdS, PL.ltP, intCmp, addP, subP, mulP, MulOk.l, MulOk.r, RepOk.of, PowOk.of, DivOk.of, RngOk.of, modP, fdivP, powP, listP, tupleP, intP, maxP, minP, seqS, eIx, isDictR, eIxS, ixP, outR, sApp, sPut, sPutL, eTup, eLst, eSl, mPart, mNoPart, slP, iRange1, iRange2, ints1, intsOf, iSeq, itemsOf, sAsgT, gN, gT, gsCons, gsNil, tOr', tAnd', tNot', tOfB, sFor, sFrz, frzE, runs] <;> (repeat' (first | with_reducible rfl | apply And.intro)))) ⟨_, _, _, _, _, _, rfl⟩ ?_ ?_
    · rintro k d ρ hd ⟨s5, s6, s7, s8, s9, s10, rfl⟩
      obtain ⟨i, hk, rfl⟩ := ins_get hd
      have hi := hc i (List.mem_of_getElem? hk)
      have sr2 : Sm (runs md xs rs (code.take k)) := runs_sm sr m0 m1
      have hl2 : (runs md xs rs (code.take k)).length = 8 := by rw [runs_len]; exact hr
      rw [runs_take hk]
      generalize runs md xs rs (code.take k) = rs at sr2 hl2
      have b1 := Opd.val_sm hi.2.1 sx sr2
      have v1 := v_lvalue hi.2.1 h1 (.inr rfl) hx hl2
      have v2 := v_lvalue hi.2.2 h1 (.inr rfl) hx hl2
      have v3 := v_law_result i.op (i.l.val xs rs) (i.r.val xs rs) md (MulOk.sm (by omega)) m0
      have e1 := q_sg_sub i.minus
      have hc : i.cell < rs.length := by rw [hl2]; exact hi.1
      have hat : atI (iL rs) i.cell = some (.int (rs.getD i.cell 0)) := getI hc
      refine ⟨_, by (simp -implicitDefEqProofs [Res.bind_ok, Res.bind_bad, Res.bind_err, runP, sSeq, sNil, sIf, sRet, sRetN, sBreak, sCont, sAsg, inS', outR, opd, frzS, eVar, eC, eBin, tBin, eNeg, eCall, mCons, mNil, keepR, keepRs, rsls, rsl, noNon, toBor, argS, eDef, goodR, lenP, dInt, dBool, rv, rdS, PL.ltP, intCmp, addP, subP, mulP, MulOk.l, MulOk.r, RepOk.of, PowOk.of, DivOk.of, RngOk.of, modP, fdivP, powP, listP, tupleP, intP, maxP, minP, seqS, eIx, isDictR, eIxS, ixP, outR, sApp, sPut, sPutL, eTup, eLst, eSl, mPart, mNoPart, slP, iRange1, iRange2, ints1, intsOf, iSeq, itemsOf, sAsgT, gN, gT, gsCons, gsNil, tOr', tAnd', tNot', tOfB, sFor, sFrz, frzE, Ins.data] <;> (repeat' (first | with_reducible rfl | apply And.intro))), ?_⟩
      have ns : s1 ≠ .non := by rcases h1 with rfl | rfl <;> simp
      have hv2 : ∀ (A B C D E G H I J : PL.Slot), eVar 2 [A, B, s1, C, D, E, G, H, I, J, s10] = .ok (.slot 2) [A, B, s1, C, D, E, G, H, I, J, s10] := by
        intro A B C D E G H I J
        rcases h1 with rfl | rfl <;> rfl
      refine wp_seq (ρ' := [.dat (.tuple [.int md, .int nx, a, b]), .dat (.list (cD code)), s1, .dat (.list (iL _)), .lst (iL rs), .dat (.int i.cell), .dat (.str (sgS i.minus)), .dat (.str i.op.str), .dat (.str i.l.str), .dat (.str i.r.str), .dat (.int (i.res xs rs % md))]) (by
        rcases h1 with rfl | rfl
        · (simp -implicitDefEqProofs [Res.bind_ok, Res.bind_bad, Res.bind_err, runP, sSeq, sNil, sIf, sRet, sRetN, sBreak, sCont, sAsg, inS', outR, opd, frzS, eVar, eC, eBin, tBin, eNeg, eCall, mCons, mNil, keepR, keepRs, rsls, rsl, noNon, toBor, argS, eDef, goodR, lenP, dInt, dBool, rv, rdS, PL.ltP, intCmp, addP, subP, mulP, MulOk.l, MulOk.r, RepOk.of, PowOk.of, DivOk.of, RngOk.of, modP, fdivP, powP, listP, tupleP, intP, maxP, minP, seqS, eIx, isDictR, eIxS, ixP, outR, sApp, sPut, sPutL, eTup, eLst, eSl, mPart, mNoPart, slP, iRange1, iRange2, ints1, intsOf, iSeq, itemsOf, sAsgT, gN, gT, gsCons, gsNil, tOr', tAnd', tNot', tOfB, sFor, sFrz, frzE, v1, v2, v3, atI, ixN, Ins.res] <;> (repeat' (first | with_reducible rfl | apply And.intro)))
        · (simp -implicitDefEqProofs [Res.bind_ok, Res.bind_bad, Res.bind_err, runP, sSeq, sNil, sIf, sRet, sRetN, sBreak, sCont, sAsg, inS', outR, opd, frzS, eVar, eC, eBin, tBin, eNeg, eCall, mCons, mNil, keepR, keepRs, rsls, rsl, noNon, toBor, argS, eDef, goodR, lenP, dInt, dBool, rv, rdS, PL.ltP, intCmp, addP, subP, mulP, MulOk.l, MulOk.r, RepOk.of, PowOk.of, DivOk.of, RngOk.of, modP, fdivP, powP, listP, tupleP, intP, maxP, minP, seqS, eIx, isDictR, eIxS, ixP, outR, sApp, sPut, sPutL, eTup, eLst, eSl, mPart, mNoPart, slP, iRange1, iRange2, ints1, intsOf, iSeq, itemsOf, sAsgT, gN, gT, gsCons, gsNil, tOr', tAnd', tNot', tOfB, sFor, sFrz, frzE, v1, v2, v3, atI, ixN, Ins.res] <;> (repeat' (first | with_reducible rfl | apply And.intro)))) ?_
      cases hm : i.minus with
      | true =>
        rw [hm] at e1
        refine wp_seq (if_T (by (simp -implicitDefEqProofs [Res.bind_ok, Res.bind_bad, Res.bind_err, runP, sSeq, sNil, sIf, sRet, sRetN, sBreak, sCont, sAsg, inS', outR, opd, frzS, eVar, eC, eBin, tBin, eNeg, eCall, mCons, mNil, keepR, keepRs, rsls, rsl, noNon, toBor, argS, eDef, goodR, lenP, dInt, dBool, rv, rdS, PL.ltP, intCmp, addP, subP, mulP, MulOk.l, MulOk.r, RepOk.of, PowOk.of, DivOk.of, RngOk.of, modP, fdivP, powP, listP, tupleP, intP, maxP, minP, seqS, eIx, isDictR, eIxS, ixP, outR, sApp, sPut, sPutL, eTup, eLst, eSl, mPart, mNoPart, slP, iRange1, iRange2, ints1, intsOf, iSeq, itemsOf, sAsgT, gN, gT, gsCons, gsNil, tOr', tAnd', tNot', tOfB, sFor, sFrz, frzE, e1] <;> (repeat' (first | with_reducible rfl | apply And.intro)))) (by (simp -implicitDefEqProofs [Res.bind_ok, Res.bind_bad, Res.bind_err, runP, sSeq, sNil, sIf, sRet, sRetN, sBreak, sCont, sAsg, inS', outR, opd, frzS, eVar, eC, eBin, tBin, eNeg, eCall, mCons, mNil, keepR, keepRs, rsls, rsl, noNon, toBor, argS, eDef, goodR, lenP, dInt, dBool, rv, rdS, PL.ltP, intCmp, addP, subP, mulP, MulOk.l, MulOk.r, RepOk.of, PowOk.of, DivOk.of, RngOk.of, modP, fdivP, powP, listP, tupleP, intP, maxP, minP, seqS, eIx, isDictR, eIxS, ixP, outR, sApp, sPut, sPutL, eTup, eLst, eSl, mPart, mNoPart, slP, iRange1, iRange2, ints1, intsOf, iSeq, itemsOf, sAsgT, gN, gT, gsCons, gsNil, tOr', tAnd', tNot', tOfB, sFor, sFrz, frzE] <;> (repeat' (first | with_reducible rfl | apply And.intro))))) ?_
        refine Wp.ok (by (simp -implicitDefEqProofs [Res.bind_ok, Res.bind_bad, Res.bind_err, runP, sSeq, sNil, sIf, sRet, sRetN, sBreak, sCont, sAsg, inS', outR, opd, frzS, eVar, eC, eBin, tBin, eNeg, eCall, mCons, mNil, keepR, keepRs, rsls, rsl, noNon, toBor, argS, eDef, goodR, lenP, dInt, dBool, rv, rdS, PL.ltP, intCmp, addP, subP, mulP, MulOk.l, MulOk.r, RepOk.of, PowOk.of, DivOk.of, RngOk.of, modP, fdivP, powP, listP, tupleP, intP, maxP, minP, seqS, eIx, isDictR, eIxS, ixP, outR, sApp, sPut, sPutL, eTup, eLst, eSl, mPart, mNoPart, slP, iRange1, iRange2, ints1, intsOf, iSeq, itemsOf, sAsgT, gN, gT, gsCons, gsNil, tOr', tAnd', tNot', tOfB, sFor, sFrz, frzE, hat, m0, atI, ixN, hc] <;> (repeat' (first | with_reducible rfl | apply And.intro)))) ?_
        have key : (iL rs).set i.cell (.int ((rs[i.cell] + -(Ins.res xs rs i % md)) % md)) = iL (step md xs rs i) := by simp [step, hm, iL, List.map_set, mod_minus, hc]
        rw [key]
        exact ⟨_, _, _, _, _, _, rfl⟩
      | false =>
        rw [hm] at e1
        refine wp_seq (wp_ifF' (by (simp -implicitDefEqProofs [Res.bind_ok, Res.bind_bad, Res.bind_err, runP, sSeq, sNil, sIf, sRet, sRetN, sBreak, sCont, sAsg, inS', outR, opd, frzS, eVar, eC, eBin, tBin, eNeg, eCall, mCons, mNil, keepR, keepRs, rsls, rsl, noNon, toBor, argS, eDef, goodR, lenP, dInt, dBool, rv, rdS, PL.ltP, intCmp, addP, subP, mulP, MulOk.l, MulOk.r, RepOk.of, PowOk.of, DivOk.of, RngOk.of, modP, fdivP, powP, listP, tupleP, intP, maxP, minP, seqS, eIx, isDictR, eIxS, ixP, outR, sApp, sPut, sPutL, eTup, eLst, eSl, mPart, mNoPart, slP, iRange1, iRange2, ints1, intsOf, iSeq, itemsOf, sAsgT, gN, gT, gsCons, gsNil, tOr', tAnd', tNot', tOfB, sFor, sFrz, frzE, e1] <;> (repeat' (first | with_reducible rfl | apply And.intro)))) (by (simp -implicitDefEqProofs [Res.bind_ok, Res.bind_bad, Res.bind_err, runP, sSeq, sNil, sIf, sRet, sRetN, sBreak, sCont, sAsg, inS', outR, opd, frzS, eVar, eC, eBin, tBin, eNeg, eCall, mCons, mNil, keepR, keepRs, rsls, rsl, noNon, toBor, argS, eDef, goodR, lenP, dInt, dBool, rv, rdS, PL.ltP, intCmp, addP, subP, mulP, MulOk.l, MulOk.r, RepOk.of, PowOk.of, DivOk.of, RngOk.of, modP, fdivP, powP, listP, tupleP, intP, maxP, minP, seqS, eIx, isDictR, eIxS, ixP, outR, sApp, sPut, sPutL, eTup, eLst, eSl, mPart, mNoPart, slP, iRange1, iRange2, ints1, intsOf, iSeq, itemsOf, sAsgT, gN, gT, gsCons, gsNil, tOr', tAnd', tNot', tOfB, sFor, sFrz, frzE] <;> (repeat' (first | with_reducible rfl | apply And.intro))))) ?_
        refine Wp.ok (by (simp -implicitDefEqProofs [Res.bind_ok, Res.bind_bad, Res.bind_err, runP, sSeq, sNil, sIf, sRet, sRetN, sBreak, sCont, sAsg, inS', outR, opd, frzS, eVar, eC, eBin, tBin, eNeg, eCall, mCons, mNil, keepR, keepRs, rsls, rsl, noNon, toBor, argS, eDef, goodR, lenP, dInt, dBool, rv, rdS, PL.ltP, intCmp, addP, subP, mulP, MulOk.l, MulOk.r, RepOk.of, PowOk.of, DivOk.of, RngOk.of, modP, fdivP, powP, listP, tupleP, intP, maxP, minP, seqS, eIx, isDictR, eIxS, ixP, outR, sApp, sPut, sPutL, eTup, eLst, eSl, mPart, mNoPart, slP, iRange1, iRange2, ints1, intsOf, iSeq, itemsOf, sAsgT, gN, gT, gsCons, gsNil, tOr', tAnd', tNot', tOfB, sFor, sFrz, frzE, hat, m0, atI, ixN, hc] <;> (repeat' (first | with_reducible rfl | apply And.intro)))) ?_
        have key : (iL rs).set i.cell (.int ((rs[i.cell] + Ins.res xs rs i) % md)) = iL (step md xs rs i) := by simp [step, hm, iL, List.map_set, mod_plus, hc]
        rw [key]
        exact ⟨_, _, _, _, _, _, rfl⟩
    · rintro ρ ⟨s5, s6, s7, s8, s9, s10, rfl⟩
      refine Wp.ok (by (simp -implicitDefEqProofs [Res.bind_ok, Res.bind_bad, Res.bind_err, runP, sSeq, sNil, sIf, sRet, sRetN, sBreak, sCont, sAsg, inS', outR, opd, frzS, eVar, eC, eBin, tBin, eNeg, eCall, mCons, mNil, keepR, keepRs, rsls, rsl, noNon, toBor, argS, eDef, goodR, lenP, dInt, dBool, rv, rdS, PL.ltP, intCmp, addP, subP, mulP, MulOk.l, MulOk.r, RepOk.of, PowOk.of, DivOk.of, RngOk.of, modP, fdivP, powP, listP, tupleP, intP, maxP, minP, seqS, eIx, isDictR, eIxS, ixP, outR, sApp, sPut, sPutL, eTup, eLst, eSl, mPart, mNoPart, slP, iRange1, iRange2, ints1, intsOf, iSeq, itemsOf, sAsgT, gN, gT, gsCons, gsNil, tOr', tAnd', tNot', tOfB, sFor, sFrz, frzE] <;> (repeat' (first | with_reducible rfl | apply And.intro)))) ?_
      simp [cD]
  rcases h1 with rfl | rfl
  · exact main _ (.inl rfl)
  · exact main _ (.inr rfl)
theorem z8_sm : Sm [0, 0, 0, 0, 0, 0, 0, 0] := by intro v hv; simp at hv; subst hv; omega
abbrev zero8 : List Int := [0, 0, 0, 0, 0, 0, 0, 0]
/-- the contents ahead of the k-th instruction -/
abbrev rowAt (md : Int) (xs : List Int) (code : List Ins) (k : Nat) : List Int := runs md xs zero8 (code.take k)
theorem v_traced {md : Int} {nx : Nat} {pd : PyData} {code : List Ins} {xs : List Int} {s0 s1 : PL.Slot} (hp : PD md nx pd) (hc : ∀ i ∈ code, i.ok nx) (h0 : s0 = .bor (cD code)) (h1 : Seq s1 xs) (hx : xs.length = nx) (m0 : 0 < md) (m1 : md ≤ 1000) (sx : Sm xs) (hn : code.length ≤ 1000) :
    p_traced [.dat pd, s0, s1] = .ok (.new (.nst ((List.range (code.length + 1)).map fun k => .list (iL (rowAt md xs code k))))) [] := by
  subst h0
  refine run_eq trivial ?_
  unfold m_traced
  have main : ∀ s1, Seq s1 xs → Wp ((sSeq (sAsg 3 (eLstN (eBin mulP (eLst (mCons (eC (.int 0)) (mNil))) (eC (.int 8)))))
    (sSeq (sFor (iSeq (eVar 1)) (gN 4)
      (sAppN 3 (eDef false 4 p_performed (mCons (eVar 0) (mCons (eVar 4) (mCons (eVar 2) (mCons (eIx (eVar 3) (eNeg (eC (.int 1)))) (mNil))))))))
    (sRet (eVar 3)))) [.dat pd, .bor (cD code), s1, .non, .non]) fun f _ => f = .ret (.new (.nst ((List.range (code.length + 1)).map fun k => .list (iL (rowAt md xs code k))))) := by
    intro s1 h1
    refine wp_seq (ρ' := [.dat pd, .bor (cD code), s1, .nst [.list (iL zero8)], .non]) (by rcases h1 with rfl | rfl <;> (simp -implicitDefEqProofs [Res.bind_ok, Res.bind_bad, Res.bind_err, runP, sSeq, sNil, sIf, sRet, sRetN, sBreak, sCont, sAsg, inS', outR, opd, frzS, eVar, eC, eBin, tBin, eNeg, eCall, mCons, mNil, keepR, keepRs, rsls, rsl, noNon, toBor, argS, eDef, goodR, lenP, dInt, dBool, rv, rdS, PL.ltP, intCmp, addP, subP, mulP, MulOk.l, MulOk.r, RepOk.of, PowOk.of, DivOk.of, RngOk.of, modP, fdivP, powP, listP, tupleP, intP, maxP, minP, seqS, eIx, isDictR, eIxS, ixP, outR, sApp, sPut, sPutL, eTup, eLst, eSl, mPart, mNoPart, slP, iRange1, iRange2, ints1, intsOf, iSeq, itemsOf, sAsgT, gN, gT, gsCons, gsNil, tOr', tAnd', tNot', tOfB, sFor, sFrz, frzE, eLstN, size640] <;> (repeat' (first | with_reducible rfl | apply And.intro)))) ?_
    refine wp_forS (fun k ρ => ∃ s, ρ = [.dat pd, .bor (cD code), s1, .nst ((List.range (k + 1)).map fun k => .list (iL (rowAt md xs code k))), s]) (by (simp -implicitDefEqProofs [Res.bind_ok, Res.bind_bad, Res.bind_err, runP, sSeq, sNil, sIf, sRet, sRetN, sBreak, sCont, sAsg, inS', outR, opd, frzS, eVar, eC, eBin, tBin, eNeg, eCall, mCons, mNil, keepR, keepRs, rsls, rsl, noNon, toBor, argS, eDef, goodR, lenP, dInt, dBool, rv, rdS, PL.ltP, intCmp, addP, subP, mulP, MulOk.l, MulOk.r, RepOk.of, PowOk.of, DivOk.of, RngOk.of, modP, fdivP, powP, listP, tupleP, intP, maxP, minP, seqS, eIx, isDictR, eIxS, ixP, outR, sApp, sPut, sPutL, eTup, eLst, eSl, mPart, mNoPart, slP, iRange1, iRange2, ints1, intsOf, iSeq, itemsOf, sAsgT, gN, gT, gsCons, gsNil, tOr', tAnd', tNot', tOfB, sFor, sFrz, frzE, rowAt, runs] <;> (repeat' (first | with_reducible rfl | apply And.intro)))) ⟨_, rfl⟩ ?_ ?_
    · rintro k d ρ hd ⟨s, rfl⟩
      obtain ⟨i, hk, rfl⟩ := ins_get hd
      have hi := hc i (List.mem_of_getElem? hk)
      have hkl := (List.getElem?_eq_some_iff.mp hk).1
      have vp := v_performed (s2 := .dat (.list (iL (rowAt md xs code k)))) hp hi h1 (.inl rfl) hx (by rw [runs_len]; rfl) m0 m1 sx (runs_sm z8_sm m0 m1)
      rw [← runs_take hk] at vp
      have hsz : k + 1 < sizeLine := size1000 (by omega)
      have hix : atI ((List.range (k + 1)).map fun k => PyData.list (iL (rowAt md xs code k))) (-1) = some (.list (iL (rowAt md xs code k))) := by
        have e : ixN (k + 1) (-1) = some k := by unfold ixN; rw [if_neg (by decide), if_pos (by omega)]; congr 1; omega
        unfold atI
        rw [List.length_map, List.length_range, e]
        show ((List.range (k + 1)).map _)[k]? = _
        simp
      refine ⟨_, by (simp -implicitDefEqProofs [Res.bind_ok, Res.bind_bad, Res.bind_err, runP, sSeq, sNil, sIf, sRet, sRetN, sBreak, sCont, sAsg, inS', outR, opd, frzS, eVar, eC, eBin, tBin, eNeg, eCall, mCons, mNil, keepR, keepRs, rsls, rsl, noNon, toBor, argS, eDef, goodR, lenP, dInt, dBool, rv, rdS, PL.ltP, intCmp, addP, subP, mulP, MulOk.l, MulOk.r, RepOk.of, PowOk.of, DivOk.of, RngOk.of, modP, fdivP, powP, listP, tupleP, intP, maxP, minP, seqS, eIx, isDictR, eIxS, ixP, outR, sApp, sPut, sPutL, eTup, eLst, eSl, mPart, mNoPart, slP, iRange1, iRange2, ints1, intsOf, iSeq, itemsOf, sAsgT, gN, gT, gsCons, gsNil, tOr', tAnd', tNot', tOfB, sFor, sFrz, frzE] <;> (repeat' (first | with_reducible rfl | apply And.intro))), ?_⟩
      refine Wp.ok (ρ := [.dat pd, .bor (cD code), s1, .nst (((List.range (k + 1)).map fun k => .list (iL (rowAt md xs code k))) ++ [.list (iL (rowAt md xs code (k + 1)))]), .dat i.data]) (a := .nx) (by
        rcases h1 with rfl | rfl <;> (simp -implicitDefEqProofs [Res.bind_ok, Res.bind_bad, Res.bind_err, runP, sSeq, sNil, sIf, sRet, sRetN, sBreak, sCont, sAsg, inS', outR, opd, frzS, eVar, eC, eBin, tBin, eNeg, eCall, mCons, mNil, keepR, keepRs, rsls, rsl, noNon, toBor, argS, eDef, goodR, lenP, dInt, dBool, rv, rdS, PL.ltP, intCmp, addP, subP, mulP, MulOk.l, MulOk.r, RepOk.of, PowOk.of, DivOk.of, RngOk.of, modP, fdivP, powP, listP, tupleP, intP, maxP, minP, seqS, eIx, isDictR, eIxS, ixP, outR, sApp, sPut, sPutL, eTup, eLst, eSl, mPart, mNoPart, slP, iRange1, iRange2, ints1, intsOf, iSeq, itemsOf, sAsgT, gN, gT, gsCons, gsNil, tOr', tAnd', tNot', tOfB, sFor, sFrz, frzE, sAppN, hix, vp, hsz] <;> (repeat' (first | with_reducible rfl | apply And.intro)))) ⟨.dat i.data, by rw [List.range_succ (n := k + 1), List.map_append]; rfl⟩
    · rintro ρ ⟨s, rfl⟩
      refine Wp.ok (by (simp -implicitDefEqProofs [Res.bind_ok, Res.bind_bad, Res.bind_err, runP, sSeq, sNil, sIf, sRet, sRetN, sBreak, sCont, sAsg, inS', outR, opd, frzS, eVar, eC, eBin, tBin, eNeg, eCall, mCons, mNil, keepR, keepRs, rsls, rsl, noNon, toBor, argS, eDef, goodR, lenP, dInt, dBool, rv, rdS, PL.ltP, intCmp, addP, subP, mulP, MulOk.l, MulOk.r, RepOk.of, PowOk.of, DivOk.of, RngOk.of, modP, fdivP, powP, listP, tupleP, intP, maxP, minP, seqS, eIx, isDictR, eIxS, ixP, outR, sApp, sPut, sPutL, eTup, eLst, eSl, mPart, mNoPart, slP, iRange1, iRange2, ints1, intsOf, iSeq, itemsOf, sAsgT, gN, gT, gsCons, gsNil, tOr', tAnd', tNot', tOfB, sFor, sFrz, frzE] <;> (repeat' (first | with_reducible rfl | apply And.intro)))) ?_
      simp [cD]
  rcases h1 with rfl | rfl
  · exact main _ (.inl rfl)
  · exact main _ (.inr rfl)
end Law
end

section
set_option maxRecDepth 100000
set_option maxHeartbeats 1000000
namespace Law
open PySem L2 PL
inductive Src where
  | inp (i : Nat)
  | num (c : Nat)
  | stp (i : Nat)
def Src.str : Src → Str
  | .inp i => "x" ++ numS i
  | .num i => numS i
  | .stp i => "s" ++ numS i
def srcOf (kind number md nin many : Nat) : Src := if kind = 0 then .inp (number % nin) else if kind = 1 ∨ many = 0 then .num (number % md) else .stp (many - 1 - number % many)
theorem v_operand {kind number md nin many : Nat} (h1 : 0 < md) (h2 : md ≤ 1000) (h3 : 0 < nin) (h4 : nin ≤ 1000) (h5 : many ≤ 1000) :
    p__law_operand [.dat (.int kind), .dat (.int number), .dat (.int md), .dat (.int nin), .dat (.int many)] = .ok (.dat (.str (srcOf kind number md nin many).str)) [] := by
  refine run_eq trivial ?_
  unfold m__law_operand srcOf
  have hm1 : number % nin < 1000000 := by have := Nat.mod_lt number h3; omega
  have hm2 : number % md < 1000000 := by have := Nat.mod_lt number h1; omega
  by_cases hk : kind = 0
  · subst hk
    have hn : Num ((number : Int) % (nin : Int)) := by have := num_nat hm1; rwa [Int.natCast_emod] at this
    have hw := word_add "x" (by decide) hn
    have hs := strP_num hn
    refine wp_ifST (by (simp -implicitDefEqProofs [Res.bind_ok, Res.bind_bad, Res.bind_err, runP, sSeq, sNil, sIf, sRet, sRetN, sBreak, sCont, sAsg, inS', outR, opd, frzS, eVar, eC, eBin, tBin, eNeg, eCall, mCons, mNil, keepR, keepRs, rsls, rsl, noNon, toBor, argS, eDef, goodR, lenP, dInt, dBool, rv, rdS, PL.ltP, intCmp, addP, subP, mulP, MulOk.l, MulOk.r, RepOk.of, PowOk.of, DivOk.of, RngOk.of, modP, fdivP, powP, listP, tupleP, intP, maxP, minP, seqS, eIx, isDictR, eIxS, ixP, outR, sApp, sPut, sPutL, eTup, eLst, eSl, mPart, mNoPart, slP, iRange1, iRange2, ints1, intsOf, iSeq, itemsOf, sAsgT, gN, gT, gsCons, gsNil, tOr', tAnd', tNot', tOfB, sFor, sFrz, frzE, eqP_int] <;> (repeat' (first | with_reducible rfl | apply And.intro)))) (wp_retS (Wp.ok (by (simp -implicitDefEqProofs [Res.bind_ok, Res.bind_bad, Res.bind_err, runP, sSeq, sNil, sIf, sRet, sRetN, sBreak, sCont, sAsg, inS', outR, opd, frzS, eVar, eC, eBin, tBin, eNeg, eCall, mCons, mNil, keepR, keepRs, rsls, rsl, noNon, toBor, argS, eDef, goodR, lenP, dInt, dBool, rv, rdS, PL.ltP, intCmp, addP, subP, mulP, MulOk.l, MulOk.r, RepOk.of, PowOk.of, DivOk.of, RngOk.of, modP, fdivP, powP, listP, tupleP, intP, maxP, minP, seqS, eIx, isDictR, eIxS, ixP, outR, sApp, sPut, sPutL, eTup, eLst, eSl, mPart, mNoPart, slP, iRange1, iRange2, ints1, intsOf, iSeq, itemsOf, sAsgT, gN, gT, gsCons, gsNil, tOr', tAnd', tNot', tOfB, sFor, sFrz, frzE, h3, hs, hw] <;> (repeat' (first | with_reducible rfl | apply And.intro)))) ?_))
    simp [Src.str]
  · rw [if_neg hk]
    refine wp_ifSF (by (simp -implicitDefEqProofs [Res.bind_ok, Res.bind_bad, Res.bind_err, runP, sSeq, sNil, sIf, sRet, sRetN, sBreak, sCont, sAsg, inS', outR, opd, frzS, eVar, eC, eBin, tBin, eNeg, eCall, mCons, mNil, keepR, keepRs, rsls, rsl, noNon, toBor, argS, eDef, goodR, lenP, dInt, dBool, rv, rdS, PL.ltP, intCmp, addP, subP, mulP, MulOk.l, MulOk.r, RepOk.of, PowOk.of, DivOk.of, RngOk.of, modP, fdivP, powP, listP, tupleP, intP, maxP, minP, seqS, eIx, isDictR, eIxS, ixP, outR, sApp, sPut, sPutL, eTup, eLst, eSl, mPart, mNoPart, slP, iRange1, iRange2, ints1, intsOf, iSeq, itemsOf, sAsgT, gN, gT, gsCons, gsNil, tOr', tAnd', tNot', tOfB, sFor, sFrz, frzE, eqP_int, hk] <;> (repeat' (first | with_reducible rfl | apply And.intro)))) (wp_seqN ?_)
    have tst : tOr' (tBin eqP (eVar 0) (eC (.int 1))) (tBin eqP (eVar 4) (eC (.int 0))) [.dat (.int kind), .dat (.int number), .dat (.int md), .dat (.int nin), .dat (.int many)] = .ok (decide (kind = 1 ∨ many = 0)) [.dat (.int kind), .dat (.int number), .dat (.int md), .dat (.int nin), .dat (.int many)] := by
      by_cases a : kind = 1
      · subst a; simp -implicitDefEqProofs [Res.bind_ok, Res.bind_bad, Res.bind_err, runP, sSeq, sNil, sIf, sRet, sRetN, sBreak, sCont, sAsg, inS', outR, opd, frzS, eVar, eC, eBin, tBin, eNeg, eCall, mCons, mNil, keepR, keepRs, rsls, rsl, noNon, toBor, argS, eDef, goodR, lenP, dInt, dBool, rv, rdS, PL.ltP, intCmp, addP, subP, mulP, MulOk.l, MulOk.r, RepOk.of, PowOk.of, DivOk.of, RngOk.of, modP, fdivP, powP, listP, tupleP, intP, maxP, minP, seqS, eIx, isDictR, eIxS, ixP, outR, sApp, sPut, sPutL, eTup, eLst, eSl, mPart, mNoPart, slP, iRange1, iRange2, ints1, intsOf, iSeq, itemsOf, sAsgT, gN, gT, gsCons, gsNil, tOr', tAnd', tNot', tOfB, sFor, sFrz, frzE, eqP_int]
      · by_cases b : many = 0
        · subst b; simp -implicitDefEqProofs [Res.bind_ok, Res.bind_bad, Res.bind_err, runP, sSeq, sNil, sIf, sRet, sRetN, sBreak, sCont, sAsg, inS', outR, opd, frzS, eVar, eC, eBin, tBin, eNeg, eCall, mCons, mNil, keepR, keepRs, rsls, rsl, noNon, toBor, argS, eDef, goodR, lenP, dInt, dBool, rv, rdS, PL.ltP, intCmp, addP, subP, mulP, MulOk.l, MulOk.r, RepOk.of, PowOk.of, DivOk.of, RngOk.of, modP, fdivP, powP, listP, tupleP, intP, maxP, minP, seqS, eIx, isDictR, eIxS, ixP, outR, sApp, sPut, sPutL, eTup, eLst, eSl, mPart, mNoPart, slP, iRange1, iRange2, ints1, intsOf, iSeq, itemsOf, sAsgT, gN, gT, gsCons, gsNil, tOr', tAnd', tNot', tOfB, sFor, sFrz, frzE, eqP_int, a]
        · have a' : ¬ (kind : Int) = 1 := by omega
          simp -implicitDefEqProofs [Res.bind_ok, Res.bind_bad, Res.bind_err, runP, sSeq, sNil, sIf, sRet, sRetN, sBreak, sCont, sAsg, inS', outR, opd, frzS, eVar, eC, eBin, tBin, eNeg, eCall, mCons, mNil, keepR, keepRs, rsls, rsl, noNon, toBor, argS, eDef, goodR, lenP, dInt, dBool, rv, rdS, PL.ltP, intCmp, addP, subP, mulP, MulOk.l, MulOk.r, RepOk.of, PowOk.of, DivOk.of, RngOk.of, modP, fdivP, powP, listP, tupleP, intP, maxP, minP, seqS, eIx, isDictR, eIxS, ixP, outR, sApp, sPut, sPutL, eTup, eLst, eSl, mPart, mNoPart, slP, iRange1, iRange2, ints1, intsOf, iSeq, itemsOf, sAsgT, gN, gT, gsCons, gsNil, tOr', tAnd', tNot', tOfB, sFor, sFrz, frzE, eqP_int, a, b, a']
    by_cases hc : kind = 1 ∨ many = 0
    · rw [if_pos hc]
      rw [decide_eq_true hc] at tst
      have hn : Num ((number : Int) % (md : Int)) := by have := num_nat hm2; rwa [Int.natCast_emod] at this
      have hs := strP_num hn
      refine wp_ifST tst (wp_retS (Wp.ok (by (simp -implicitDefEqProofs [Res.bind_ok, Res.bind_bad, Res.bind_err, runP, sSeq, sNil, sIf, sRet, sRetN, sBreak, sCont, sAsg, inS', outR, opd, frzS, eVar, eC, eBin, tBin, eNeg, eCall, mCons, mNil, keepR, keepRs, rsls, rsl, noNon, toBor, argS, eDef, goodR, lenP, dInt, dBool, rv, rdS, PL.ltP, intCmp, addP, subP, mulP, MulOk.l, MulOk.r, RepOk.of, PowOk.of, DivOk.of, RngOk.of, modP, fdivP, powP, listP, tupleP, intP, maxP, minP, seqS, eIx, isDictR, eIxS, ixP, outR, sApp, sPut, sPutL, eTup, eLst, eSl, mPart, mNoPart, slP, iRange1, iRange2, ints1, intsOf, iSeq, itemsOf, sAsgT, gN, gT, gsCons, gsNil, tOr', tAnd', tNot', tOfB, sFor, sFrz, frzE, h1, hs] <;> (repeat' (first | with_reducible rfl | apply And.intro)))) ?_))
      simp [Src.str]
    · rw [if_neg hc]
      rw [decide_eq_false hc] at tst
      have hmz : many ≠ 0 := fun z => hc (.inr z)
      have hmp : 0 < many := by omega
      have hlt := Nat.mod_lt number hmp
      have e : (many : Int) - 1 - ((number : Int) % (many : Int)) = ((many - 1 - number % many : Nat) : Int) := by rw [← Int.natCast_emod]; omega
      have hm3 : many - 1 - number % many < 1000000 := by omega
      have hn : Num ((many - 1 - number % many : Nat) : Int) := num_nat hm3
      have hw := word_add "s" (by decide) hn
      have hs := strP_num hn
      generalize many - 1 - number % many = q at *
      refine wp_ifSF tst (wp_seqN (Wp.ok (by (simp -implicitDefEqProofs [Res.bind_ok, Res.bind_bad, Res.bind_err, runP, sSeq, sNil, sIf, sRet, sRetN, sBreak, sCont, sAsg, inS', outR, opd, frzS, eVar, eC, eBin, tBin, eNeg, eCall, mCons, mNil, keepR, keepRs, rsls, rsl, noNon, toBor, argS, eDef, goodR, lenP, dInt, dBool, rv, rdS, PL.ltP, intCmp, addP, subP, mulP, MulOk.l, MulOk.r, RepOk.of, PowOk.of, DivOk.of, RngOk.of, modP, fdivP, powP, listP, tupleP, intP, maxP, minP, seqS, eIx, isDictR, eIxS, ixP, outR, sApp, sPut, sPutL, eTup, eLst, eSl, mPart, mNoPart, slP, iRange1, iRange2, ints1, intsOf, iSeq, itemsOf, sAsgT, gN, gT, gsCons, gsNil, tOr', tAnd', tNot', tOfB, sFor, sFrz, frzE, hmp, e, hs, hw] <;> (repeat' (first | with_reducible rfl | apply And.intro)))) ?_))
      simp [Src.str]
end Law
end

section
set_option maxRecDepth 100000
set_option maxHeartbeats 1000000
namespace Law
open PySem L2 PL
structure Stp where
  op : Op3
  a : Src
  b : Src
def Stp.data (s : Stp) : PyData := .tuple [.str s.op.str, .str s.a.str, .str s.b.str]
def Src.ok (md nin many : Nat) : Src → Prop
  | .inp i => i < nin
  | .num c => c < md
  | .stp i => i < many
theorem srcOf_ok {kind number md nin many : Nat} (h1 : 0 < md) (h3 : 0 < nin) : (srcOf kind number md nin many).ok md nin many := by
  unfold srcOf
  by_cases a : kind = 0
  · rw [if_pos a]; exact Nat.mod_lt _ h3
  · rw [if_neg a]
    by_cases b : kind = 1 ∨ many = 0
    · rw [if_pos b]; exact Nat.mod_lt _ h1
    · rw [if_neg b]
      have : 0 < many := by omega
      show many - 1 - number % many < many
      omega
def StpsOk (md nin : Nat) (ss : List Stp) : Prop := ∀ (i : Nat) (s : Stp), ss[i]? = some s → s.a.ok md nin i ∧ s.b.ok md nin i
theorem StpsOk.snoc {md nin : Nat} {ss : List Stp} {s : Stp} (h : StpsOk md nin ss) (ha : s.a.ok md nin ss.length) (hb : s.b.ok md nin ss.length) : StpsOk md nin (ss ++ [s]) := by
  intro i s' e
  by_cases hi : i < ss.length
  · rw [List.getElem?_append_left hi] at e; exact h i s' e
  · rw [List.getElem?_append_right (by omega)] at e
    have := (List.getElem?_eq_some_iff.mp e).1
    simp at this
    have : i = ss.length := by omega
    subst this
    rw [Nat.sub_self] at e
    cases e
    exact ⟨ha, hb⟩
abbrev sD (ss : List Stp) : List PyData := ss.map Stp.data
theorem Src.strOk {md nin many : Nat} {s : Src} (h : s.ok md nin many) (h1 : md ≤ 1000) (h2 : nin ≤ 1000) (h3 : many ≤ 1000) : PyData.strOk s.str = true := by
  cases s with
  | inp i => exact word_ok "x" (by decide +kernel) (num_nat (by have : i < nin := h; omega))
  | num i => exact numS_ok (num_nat (by have : i < md := h; omega))
  | stp i => exact word_ok "s" (by decide +kernel) (num_nat (by have : i < many := h; omega))
theorem Stp.sh {s : Stp} (ha : PyData.strOk s.a.str = true) (hb : PyData.strOk s.b.str = true) : Sh 1 s.data := by
  refine Sh.tuple fun d hd => ?_
  have ho : PyData.strOk s.op.str = true := by cases s.op <;> decide +kernel
  rcases List.mem_cons.mp hd with rfl | hd
  · exact .str ho
  rcases List.mem_cons.mp hd with rfl | hd
  · exact .str ha
  rcases List.mem_cons.mp hd with rfl | hd
  · exact .str hb
  · cases hd
theorem StpsOk.sh {md nin : Nat} {ss : List Stp} (h : StpsOk md nin ss) (h1 : md ≤ 1000) (h2 : nin ≤ 1000) (h3 : ss.length ≤ 1000) : ∀ d ∈ sD ss, Sh 1 d := by
  intro d hd
  obtain ⟨s, hs, rfl⟩ := List.mem_map.mp hd
  obtain ⟨i, hi, e⟩ := List.mem_iff_getElem.mp hs
  obtain ⟨q1, q2⟩ := h i s (by rw [← e]; exact List.getElem?_eq_getElem hi)
  exact Stp.sh (Src.strOk q1 h1 h2 (by omega)) (Src.strOk q2 h1 h2 (by omega))
def opAt (n : Nat) : Op3 := if n = 0 then .add else if n = 1 then .sub else .mul
theorem op_at {n : Nat} (h : n < 3) : atI (PySem.Str.ofString "+-*").cps.toList (n : Int) = some (opAt n).code := by
  match n, h with
  | 0, _ => decide +kernel
  | 1, _ => decide +kernel
  | 2, _ => decide +kernel
theorem op_len : (PySem.Str.ofString "+-*").length ≤ sizeLine := by decide +kernel
abbrev szP (most : Nat) : List Int := [12, 2, (most : Int)] ++ (List.replicate 7 ([3, 4, 13, 4, 13] : List Int)).flatten ++ (List.replicate 8 ([3] : List Int)).flatten
theorem szP_ok {most : Nat} (h : 0 < most) (h2 : most ≤ 1000) : Sz (szP most) := by
  refine ⟨by simp [szP], fun z hz => ?_⟩
  simp [szP, List.replicate] at hz
  omega
/-- a row of five draws -/
theorem row5 {ds : List Nat} {j : Nat} (h : 8 + 5 * j ≤ ds.length) : ∃ a b c d e, ds[3 + 5 * j]? = some a ∧ ds[4 + 5 * j]? = some b ∧ ds[5 + 5 * j]? = some c ∧ ds[6 + 5 * j]? = some d ∧ ds[7 + 5 * j]? = some e ∧ cutD (nL ds) (some ((3 + 5 * j : Nat) : Int)) (some ((8 + 5 * j : Nat) : Int)) = nL [a, b, c, d, e] := by
  refine ⟨ds[3 + 5 * j], ds[4 + 5 * j], ds[5 + 5 * j], ds[6 + 5 * j], ds[7 + 5 * j], List.getElem?_eq_getElem _, List.getElem?_eq_getElem _, List.getElem?_eq_getElem _, List.getElem?_eq_getElem _, List.getElem?_eq_getElem _, ?_⟩
  unfold cutD
  rw [HT.sIx_nat, HT.sIx_nat, List.length_map, Nat.min_eq_left (by omega), Nat.min_eq_left (by omega), show 8 + 5 * j - (3 + 5 * j) = 5 by omega]
  refine List.ext_getElem? fun i => ?_
  rw [List.getElem?_take]
  by_cases hi : i < 5
  · rw [if_pos hi, List.getElem?_drop, List.getElem?_map]
    match i, hi with
    | 0, _ => rw [List.getElem?_eq_getElem (by omega)]; rfl
    | 1, _ => rw [List.getElem?_eq_getElem (by omega)]; simp [nL]; congr 2; omega
    | 2, _ => rw [List.getElem?_eq_getElem (by omega)]; simp [nL]; congr 2; omega
    | 3, _ => rw [List.getElem?_eq_getElem (by omega)]; simp [nL]; congr 2; omega
    | 4, _ => rw [List.getElem?_eq_getElem (by omega)]; simp [nL]; congr 2; omega
  · rw [if_neg hi, List.getElem?_eq_none (by simp; omega)]
theorem atI0 {α : Type} {x : α} {xs : List α} : atI (x :: xs) 0 = some x := by simp [atI, ixN]
theorem atI1 {α : Type} {x y : α} {xs : List α} : atI (x :: y :: xs) 1 = some y := by simp [atI, ixN]; rw [if_pos (by omega)]; rfl
theorem atI2 {α : Type} {x y z : α} {xs : List α} : atI (x :: y :: z :: xs) 2 = some z := by simp [atI, ixN]; rw [if_pos (by omega)]; rfl
theorem atI3 {α : Type} {x y z u : α} {xs : List α} : atI (x :: y :: z :: u :: xs) 3 = some u := by simp [atI, ixN]; rw [if_pos (by omega)]; rfl
theorem atI4 {α : Type} {x y z u v : α} {xs : List α} : atI (x :: y :: z :: u :: v :: xs) 4 = some v := by simp [atI, ixN]; rw [if_pos (by omega)]; rfl
structure PrOk (md nin : Nat) (ss : List Stp) : Prop where
  m0 : 2 ≤ md
  m1 : md ≤ 13
  n0 : 1 ≤ nin
  n1 : nin ≤ 2
  ok : StpsOk md nin ss
  l0 : 1 ≤ ss.length
  l1 : ss.length ≤ 8
theorem v_program (ns : List Int) (k most : Nat) (hk : k ≤ 1000) (h0 : 0 < most) (h1 : most ≤ 7) :
    ∃ r, p__law_program [.scr ns, .dat (.int k), .dat (.int most)] = .ok r [] ∧ ∃ (md nin : Nat) (ss : List Stp) (outs : List PyData), r = .dat (.tuple [.int md, .int nin, .tuple (sD ss), .tuple outs]) ∧ PrOk md nin ss := by
  obtain ⟨ds, ed, hd⟩ := v_drawN ns k (szP most) hk (szP_ok h0 (by omega))
  have hl : ds.length = 46 := by rw [hd.1]; rfl
  obtain ⟨d0, e0, q0⟩ := hd.get (i := 0) (z := 12) rfl
  obtain ⟨d1, e1, q1⟩ := hd.get (i := 1) (z := 2) rfl
  obtain ⟨d2, e2, q2⟩ := hd.get (i := 2) (z := most) rfl
  have a0 := natI e0
  have a1 := natI e1
  have a2 := natI e2
  refine run_ok ?_
  unfold m__law_program
  have szs : iL [12, 2, (most : Int)] ++ (List.replicate 7 (iL [3, 4, 13, 4, 13])).flatten ++ (List.replicate 8 (iL [3])).flatten = iL (szP most) := rfl
  refine wp_seq (ρ' := [.scr ns, .dat (.int k), .dat (.int most), .lst (nL ds), .non, .non, .non, .non, .non, .non, .non, .non]) (by
    have ed' := ed
    simp [szP] at ed'
    (simp -implicitDefEqProofs [Res.bind_ok, Res.bind_bad, Res.bind_err, runP, sSeq, sNil, sIf, sRet, sRetN, sBreak, sCont, sAsg, inS', outR, opd, frzS, eVar, eC, eBin, tBin, eNeg, eCall, mCons, mNil, keepR, keepRs, rsls, rsl, noNon, toBor, argS, eDef, goodR, lenP, dInt, dBool, rv, rdS, PL.ltP, intCmp, addP, subP, mulP, MulOk.l, MulOk.r, RepOk.of, PowOk.of, DivOk.of, RngOk.of, modP, fdivP, powP, listP, tupleP, intP, maxP, minP, seqS, eIx, isDictR, eIxS, ixP, outR, sApp, sPut, sPutL, eTup, eLst, eSl, mPart, mNoPart, slP, iRange1, iRange2, ints1, intsOf, iSeq, itemsOf, sAsgT, gN, gT, gsCons, gsNil, tOr', tAnd', tNot', tOfB, sFor, sFrz, frzE, size640, ed'] <;> (repeat' (first | with_reducible rfl | apply And.intro)))
    ) ?_
  refine wp_seq (ρ' := [.scr ns, .dat (.int k), .dat (.int most), .lst (nL ds), .dat (.int ((2 + d0 : Nat) : Int)), .non, .non, .non, .non, .non, .non, .non]) (by
    simp at a0
    (simp -implicitDefEqProofs [Res.bind_ok, Res.bind_bad, Res.bind_err, runP, sSeq, sNil, sIf, sRet, sRetN, sBreak, sCont, sAsg, inS', outR, opd, frzS, eVar, eC, eBin, tBin, eNeg, eCall, mCons, mNil, keepR, keepRs, rsls, rsl, noNon, toBor, argS, eDef, goodR, lenP, dInt, dBool, rv, rdS, PL.ltP, intCmp, addP, subP, mulP, MulOk.l, MulOk.r, RepOk.of, PowOk.of, DivOk.of, RngOk.of, modP, fdivP, powP, listP, tupleP, intP, maxP, minP, seqS, eIx, isDictR, eIxS, ixP, outR, sApp, sPut, sPutL, eTup, eLst, eSl, mPart, mNoPart, slP, iRange1, iRange2, ints1, intsOf, iSeq, itemsOf, sAsgT, gN, gT, gsCons, gsNil, tOr', tAnd', tNot', tOfB, sFor, sFrz, frzE, a0] <;> (repeat' (first | with_reducible rfl | apply And.intro)))) ?_
  refine wp_seq (ρ' := [.scr ns, .dat (.int k), .dat (.int most), .lst (nL ds), .dat (.int ((2 + d0 : Nat) : Int)), .dat (.int ((1 + d1 : Nat) : Int)), .non, .non, .non, .non, .non, .non]) (by
    simp at a1
    (simp -implicitDefEqProofs [Res.bind_ok, Res.bind_bad, Res.bind_err, runP, sSeq, sNil, sIf, sRet, sRetN, sBreak, sCont, sAsg, inS', outR, opd, frzS, eVar, eC, eBin, tBin, eNeg, eCall, mCons, mNil, keepR, keepRs, rsls, rsl, noNon, toBor, argS, eDef, goodR, lenP, dInt, dBool, rv, rdS, PL.ltP, intCmp, addP, subP, mulP, MulOk.l, MulOk.r, RepOk.of, PowOk.of, DivOk.of, RngOk.of, modP, fdivP, powP, listP, tupleP, intP, maxP, minP, seqS, eIx, isDictR, eIxS, ixP, outR, sApp, sPut, sPutL, eTup, eLst, eSl, mPart, mNoPart, slP, iRange1, iRange2, ints1, intsOf, iSeq, itemsOf, sAsgT, gN, gT, gsCons, gsNil, tOr', tAnd', tNot', tOfB, sFor, sFrz, frzE, a1] <;> (repeat' (first | with_reducible rfl | apply And.intro)))) ?_
  have hmd0 : 2 ≤ 2 + d0 := by omega
  have hmd1 : 2 + d0 ≤ 13 := by omega
  have hni0 : 1 ≤ 1 + d1 := by omega
  have hni1 : 1 + d1 ≤ 2 := by omega
  generalize 2 + d0 = md at hmd0 hmd1 ⊢
  generalize 1 + d1 = nin at hni0 hni1 ⊢
  refine wp_seq (by (simp -implicitDefEqProofs [Res.bind_ok, Res.bind_bad, Res.bind_err, runP, sSeq, sNil, sIf, sRet, sRetN, sBreak, sCont, sAsg, inS', outR, opd, frzS, eVar, eC, eBin, tBin, eNeg, eCall, mCons, mNil, keepR, keepRs, rsls, rsl, noNon, toBor, argS, eDef, goodR, lenP, dInt, dBool, rv, rdS, PL.ltP, intCmp, addP, subP, mulP, MulOk.l, MulOk.r, RepOk.of, PowOk.of, DivOk.of, RngOk.of, modP, fdivP, powP, listP, tupleP, intP, maxP, minP, seqS, eIx, isDictR, eIxS, ixP, outR, sApp, sPut, sPutL, eTup, eLst, eSl, mPart, mNoPart, slP, iRange1, iRange2, ints1, intsOf, iSeq, itemsOf, sAsgT, gN, gT, gsCons, gsNil, tOr', tAnd', tNot', tOfB, sFor, sFrz, frzE] <;> (repeat' (first | with_reducible rfl | apply And.intro)))) ?_
  have hr0 : RngOk (1 + (d2 : Int)) := RngOk.succ (by omega)
  have hr2 : (1 + (d2 : Int)).toNat = 1 + d2 := by omega
  simp at a2
  refine wp_forS (fun j ρ => ∃ ss s7 s8 s9 s10, ρ = [.scr ns, .dat (.int k), .dat (.int most), .lst (nL ds), .dat (.int md), .dat (.int nin), .lst (sD ss), s7, s8, s9, s10, .non] ∧ StpsOk md nin ss ∧ ss.length ≤ j ∧ (0 < j → 1 ≤ ss.length)) (by (simp -implicitDefEqProofs [Res.bind_ok, Res.bind_bad, Res.bind_err, runP, sSeq, sNil, sIf, sRet, sRetN, sBreak, sCont, sAsg, inS', outR, opd, frzS, eVar, eC, eBin, tBin, eNeg, eCall, mCons, mNil, keepR, keepRs, rsls, rsl, noNon, toBor, argS, eDef, goodR, lenP, dInt, dBool, rv, rdS, PL.ltP, intCmp, addP, subP, mulP, MulOk.l, MulOk.r, RepOk.of, PowOk.of, DivOk.of, RngOk.of, modP, fdivP, powP, listP, tupleP, intP, maxP, minP, seqS, eIx, isDictR, eIxS, ixP, outR, sApp, sPut, sPutL, eTup, eLst, eSl, mPart, mNoPart, slP, iRange1, iRange2, ints1, intsOf, iSeq, itemsOf, sAsgT, gN, gT, gsCons, gsNil, tOr', tAnd', tNot', tOfB, sFor, sFrz, frzE, a2, hr0, hr2] <;> (repeat' (first | with_reducible rfl | apply And.intro)))) ⟨[], _, _, _, _, rfl, (fun i s e => by simp at e), Nat.le_refl _, fun z => absurd z (by decide)⟩ ?_ ?_
  · rintro j d ρ hd' ⟨ss, s7, s8, s9, s10, rfl, hok, hle, hpos⟩
    obtain ⟨hj, rfl⟩ := rng_get hd'
    obtain ⟨a, b, c, d, e, ra, rb, rc, rd, re, hrow⟩ := row5 (ds := ds) (j := j) (by omega)
    have o1 := v_operand (kind := b) (number := c) (md := md) (nin := nin) (many := ss.length) (by omega) (by omega) (by omega) (by omega) (by omega)
    have o2 := v_operand (kind := d) (number := e) (md := md) (nin := nin) (many := ss.length) (by omega) (by omega) (by omega) (by omega) (by omega)
    have k1 := srcOf_ok (kind := b) (number := c) (md := md) (nin := nin) (many := ss.length) (by omega) (by omega)
    have k2 := srcOf_ok (kind := d) (number := e) (md := md) (nin := nin) (many := ss.length) (by omega) (by omega)
    generalize srcOf b c md nin ss.length = sa at o1 k1
    generalize srcOf d e md nin ss.length = sb at o2 k2
    have ha : a < 3 := by
      have h7 : (szP most)[3 + 5 * j]? = some 3 := by
        have : j < 8 := by omega
        match j, this with
        | 0, _ => rfl
        | 1, _ => rfl
        | 2, _ => rfl
        | 3, _ => rfl
        | 4, _ => rfl
        | 5, _ => rfl
        | 6, _ => rfl
        | 7, _ => rfl
      have := hd.2 _ _ _ ra h7
      omega
    have hat := op_at ha
    have sha := Stp.sh (s := ⟨opAt a, sa, sb⟩) (Src.strOk k1 (by omega) (by omega) (by omega)) (Src.strOk k2 (by omega) (by omega) (by omega))
    have shx : SeqAt.shaped (.tuple [.str ⟨#[(opAt a).code]⟩, .str sa.str, .str sb.str]) = true := sha.shaped (by decide)
    have shl : SeqAt.shaped (.list (sD ss)) = true := (Sh.list (hok.sh (by omega) (by omega) (by omega))).shaped (by decide)
    have hsz : ss.length < sizeLine := size1000 (by omega)
    refine ⟨_, by (simp -implicitDefEqProofs [Res.bind_ok, Res.bind_bad, Res.bind_err, runP, sSeq, sNil, sIf, sRet, sRetN, sBreak, sCont, sAsg, inS', outR, opd, frzS, eVar, eC, eBin, tBin, eNeg, eCall, mCons, mNil, keepR, keepRs, rsls, rsl, noNon, toBor, argS, eDef, goodR, lenP, dInt, dBool, rv, rdS, PL.ltP, intCmp, addP, subP, mulP, MulOk.l, MulOk.r, RepOk.of, PowOk.of, DivOk.of, RngOk.of, modP, fdivP, powP, listP, tupleP, intP, maxP, minP, seqS, eIx, isDictR, eIxS, ixP, outR, sApp, sPut, sPutL, eTup, eLst, eSl, mPart, mNoPart, slP, iRange1, iRange2, ints1, intsOf, iSeq, itemsOf, sAsgT, gN, gT, gsCons, gsNil, tOr', tAnd', tNot', tOfB, sFor, sFrz, frzE] <;> (repeat' (first | with_reducible rfl | apply And.intro))), ?_⟩
    simp at hrow
    refine wp_seq (by (simp -implicitDefEqProofs [Res.bind_ok, Res.bind_bad, Res.bind_err, runP, sSeq, sNil, sIf, sRet, sRetN, sBreak, sCont, sAsg, inS', outR, opd, frzS, eVar, eC, eBin, tBin, eNeg, eCall, mCons, mNil, keepR, keepRs, rsls, rsl, noNon, toBor, argS, eDef, goodR, lenP, dInt, dBool, rv, rdS, PL.ltP, intCmp, addP, subP, mulP, MulOk.l, MulOk.r, RepOk.of, PowOk.of, DivOk.of, RngOk.of, modP, fdivP, powP, listP, tupleP, intP, maxP, minP, seqS, eIx, isDictR, eIxS, ixP, outR, sApp, sPut, sPutL, eTup, eLst, eSl, mPart, mNoPart, slP, iRange1, iRange2, ints1, intsOf, iSeq, itemsOf, sAsgT, gN, gT, gsCons, gsNil, tOr', tAnd', tNot', tOfB, sFor, sFrz, frzE, hrow] <;> (repeat' (first | with_reducible rfl | apply And.intro)))) ?_
    refine wp_seq (by (simp -implicitDefEqProofs [Res.bind_ok, Res.bind_bad, Res.bind_err, runP, sSeq, sNil, sIf, sRet, sRetN, sBreak, sCont, sAsg, inS', outR, opd, frzS, eVar, eC, eBin, tBin, eNeg, eCall, mCons, mNil, keepR, keepRs, rsls, rsl, noNon, toBor, argS, eDef, goodR, lenP, dInt, dBool, rv, rdS, PL.ltP, intCmp, addP, subP, mulP, MulOk.l, MulOk.r, RepOk.of, PowOk.of, DivOk.of, RngOk.of, modP, fdivP, powP, listP, tupleP, intP, maxP, minP, seqS, eIx, isDictR, eIxS, ixP, outR, sApp, sPut, sPutL, eTup, eLst, eSl, mPart, mNoPart, slP, iRange1, iRange2, ints1, intsOf, iSeq, itemsOf, sAsgT, gN, gT, gsCons, gsNil, tOr', tAnd', tNot', tOfB, sFor, sFrz, frzE, atI1, atI2, o1] <;> (repeat' (first | with_reducible rfl | apply And.intro)))) ?_
    refine wp_seq (by (simp -implicitDefEqProofs [Res.bind_ok, Res.bind_bad, Res.bind_err, runP, sSeq, sNil, sIf, sRet, sRetN, sBreak, sCont, sAsg, inS', outR, opd, frzS, eVar, eC, eBin, tBin, eNeg, eCall, mCons, mNil, keepR, keepRs, rsls, rsl, noNon, toBor, argS, eDef, goodR, lenP, dInt, dBool, rv, rdS, PL.ltP, intCmp, addP, subP, mulP, MulOk.l, MulOk.r, RepOk.of, PowOk.of, DivOk.of, RngOk.of, modP, fdivP, powP, listP, tupleP, intP, maxP, minP, seqS, eIx, isDictR, eIxS, ixP, outR, sApp, sPut, sPutL, eTup, eLst, eSl, mPart, mNoPart, slP, iRange1, iRange2, ints1, intsOf, iSeq, itemsOf, sAsgT, gN, gT, gsCons, gsNil, tOr', tAnd', tNot', tOfB, sFor, sFrz, frzE, atI3, atI4, o2] <;> (repeat' (first | with_reducible rfl | apply And.intro)))) ?_
    have hop : (sD ss).any (fun z => PyData.eqv z (.tuple [.str ⟨#[(opAt a).code]⟩, .str sa.str, .str sb.str])) = true ∨ (sD ss).any (fun z => PyData.eqv z (.tuple [.str ⟨#[(opAt a).code]⟩, .str sa.str, .str sb.str])) = false := by
      cases (sD ss).any (fun z => PyData.eqv z (.tuple [.str ⟨#[(opAt a).code]⟩, .str sa.str, .str sb.str])) <;> simp
    rcases hop with hop | hop
    · refine Wp.ok (wp_ifF' (by (simp -implicitDefEqProofs [Res.bind_ok, Res.bind_bad, Res.bind_err, runP, sSeq, sNil, sIf, sRet, sRetN, sBreak, sCont, sAsg, inS', outR, opd, frzS, eVar, eC, eBin, tBin, eNeg, eCall, mCons, mNil, keepR, keepRs, rsls, rsl, noNon, toBor, argS, eDef, goodR, lenP, dInt, dBool, rv, rdS, PL.ltP, intCmp, addP, subP, mulP, MulOk.l, MulOk.r, RepOk.of, PowOk.of, DivOk.of, RngOk.of, modP, fdivP, powP, listP, tupleP, intP, maxP, minP, seqS, eIx, isDictR, eIxS, ixP, outR, sApp, sPut, sPutL, eTup, eLst, eSl, mPart, mNoPart, slP, iRange1, iRange2, ints1, intsOf, iSeq, itemsOf, sAsgT, gN, gT, gsCons, gsNil, tOr', tAnd', tNot', tOfB, sFor, sFrz, frzE, tIn, two, inS, dgetS, inP, atI0, hat, op_len, size640, shx, shl, hop] <;> (repeat' (first | with_reducible rfl | apply And.intro)))) rfl) ?_
      refine ⟨ss, _, _, _, _, rfl, hok, by omega, fun _ => ?_⟩
      cases ss with
      | nil => cases hop
      | cons _ _ => simp
    · refine Wp.ok (if_T (by (simp -implicitDefEqProofs [Res.bind_ok, Res.bind_bad, Res.bind_err, runP, sSeq, sNil, sIf, sRet, sRetN, sBreak, sCont, sAsg, inS', outR, opd, frzS, eVar, eC, eBin, tBin, eNeg, eCall, mCons, mNil, keepR, keepRs, rsls, rsl, noNon, toBor, argS, eDef, goodR, lenP, dInt, dBool, rv, rdS, PL.ltP, intCmp, addP, subP, mulP, MulOk.l, MulOk.r, RepOk.of, PowOk.of, DivOk.of, RngOk.of, modP, fdivP, powP, listP, tupleP, intP, maxP, minP, seqS, eIx, isDictR, eIxS, ixP, outR, sApp, sPut, sPutL, eTup, eLst, eSl, mPart, mNoPart, slP, iRange1, iRange2, ints1, intsOf, iSeq, itemsOf, sAsgT, gN, gT, gsCons, gsNil, tOr', tAnd', tNot', tOfB, sFor, sFrz, frzE, tIn, two, inS, dgetS, inP, atI0, hat, op_len, size640, shx, shl, hop] <;> (repeat' (first | with_reducible rfl | apply And.intro)))) (by (simp -implicitDefEqProofs [Res.bind_ok, Res.bind_bad, Res.bind_err, runP, sSeq, sNil, sIf, sRet, sRetN, sBreak, sCont, sAsg, inS', outR, opd, frzS, eVar, eC, eBin, tBin, eNeg, eCall, mCons, mNil, keepR, keepRs, rsls, rsl, noNon, toBor, argS, eDef, goodR, lenP, dInt, dBool, rv, rdS, PL.ltP, intCmp, addP, subP, mulP, MulOk.l, MulOk.r, RepOk.of, PowOk.of, DivOk.of, RngOk.of, modP, fdivP, powP, listP, tupleP, intP, maxP, minP, seqS, eIx, isDictR, eIxS, ixP, outR, sApp, sPut, sPutL, eTup, eLst, eSl, mPart, mNoPart, slP, iRange1, iRange2, ints1, intsOf, iSeq, itemsOf, sAsgT, gN, gT, gsCons, gsNil, tOr', tAnd', tNot', tOfB, sFor, sFrz, frzE, atI0, hat, op_len, size640, hsz] <;> (repeat' (first | with_reducible rfl | apply And.intro))))) ?_
      refine ⟨ss ++ [⟨opAt a, sa, sb⟩], .dat (.int j), .lst (nL [a, b, c, d, e]), .dat (.str sa.str), .dat (.str sb.str), by simp [sD, Stp.data, Op3.str], hok.snoc k1 k2, by simp; omega, fun _ => by simp⟩
  · rintro ρ ⟨ss, s7, s8, s9, s10, rfl, hok, hle, hpos⟩
    simp at hle hpos
    have hsl : 1 ≤ ss.length := hpos (by omega)
    have hs8 : ss.length ≤ 8 := by omega
    have r0 : RngOk (ss.length : Int) := RngOk.nat (by omega)
    -- the outputs
    have hcomp : ∃ ys : List Nat, eComp [7] (iRange1 (mCons (eCall lenP (mCons (eVar 6) (mNil))) (mNil))) (gN 7) (tBin eqP (eIx (eVar 3) (eBin addP (eC (.int 38)) (eVar 7))) (eC (.int 0))) (eVar 7) [.scr ns, .dat (.int k), .dat (.int most), .lst (nL ds), .dat (.int md), .dat (.int nin), .lst (sD ss), s7, s8, s9, s10, .non] = .ok (.new (.lst (nL ys))) [.scr ns, .dat (.int k), .dat (.int most), .lst (nL ds), .dat (.int md), .dat (.int nin), .lst (sD ss), s7, s8, s9, s10, .non] ∧ ys.length ≤ 8 := by
      refine ⟨(List.range ss.length).filter fun j => decide (ds[38 + j]? = some 0), ?_, Nat.le_trans (List.length_filter_le _ _) (by simpa using hs8)⟩
      rw [eComp_of (ds := (List.range ss.length).map fun k : Nat => PyData.int (k : Int)) (fun d => match d with | .int i => if ds[38 + i.toNat]? = some 0 then some (.int i) else none | _ => none) (by (simp -implicitDefEqProofs [Res.bind_ok, Res.bind_bad, Res.bind_err, runP, sSeq, sNil, sIf, sRet, sRetN, sBreak, sCont, sAsg, inS', outR, opd, frzS, eVar, eC, eBin, tBin, eNeg, eCall, mCons, mNil, keepR, keepRs, rsls, rsl, noNon, toBor, argS, eDef, goodR, lenP, dInt, dBool, rv, rdS, PL.ltP, intCmp, addP, subP, mulP, MulOk.l, MulOk.r, RepOk.of, PowOk.of, DivOk.of, RngOk.of, modP, fdivP, powP, listP, tupleP, intP, maxP, minP, seqS, eIx, isDictR, eIxS, ixP, outR, sApp, sPut, sPutL, eTup, eLst, eSl, mPart, mNoPart, slP, iRange1, iRange2, ints1, intsOf, iSeq, itemsOf, sAsgT, gN, gT, gsCons, gsNil, tOr', tAnd', tNot', tOfB, sFor, sFrz, frzE, r0] <;> (repeat' (first | with_reducible rfl | apply And.intro)))) (by simp; exact size640 (by omega)) ?_]
      · congr 3
        rw [List.filterMap_map]
        induction List.range ss.length with
        | nil => rfl
        | cons a l ih =>
          by_cases q : ds[38 + a]? = some 0
          · rw [List.filter_cons_of_pos (by simpa using q), List.filterMap_cons_some (b := .int a) (by simp [q]), ih]; rfl
          · rw [List.filter_cons_of_neg (by simpa using q), List.filterMap_cons_none (by simp [q]), ih]
      · intro d hd'
        obtain ⟨j, hj, rfl⟩ := List.mem_map.mp hd'
        have hj : j < ss.length := by simpa using hj
        obtain ⟨z, hz⟩ : ∃ z, ds[38 + j]? = some z := ⟨ds[38 + j], List.getElem?_eq_getElem (by omega)⟩
        have hz' := natI hz
        simp at hz'
        refine ⟨[.scr ns, .dat (.int k), .dat (.int most), .bor (nL ds), .dat (.int md), .dat (.int nin), .bor (sD ss), .dat (.int j), toBor s8, toBor s9, toBor s10, .non], decide (z = 0), [.scr ns, .dat (.int k), .dat (.int most), .bor (nL ds), .dat (.int md), .dat (.int nin), .bor (sD ss), .dat (.int j), toBor (toBor s8), toBor (toBor s9), toBor (toBor s10), .non], by simp -implicitDefEqProofs [Res.bind_ok, Res.bind_bad, Res.bind_err, runP, sSeq, sNil, sIf, sRet, sRetN, sBreak, sCont, sAsg, inS', outR, opd, frzS, eVar, eC, eBin, tBin, eNeg, eCall, mCons, mNil, keepR, keepRs, rsls, rsl, noNon, toBor, argS, eDef, goodR, lenP, dInt, dBool, rv, rdS, PL.ltP, intCmp, addP, subP, mulP, MulOk.l, MulOk.r, RepOk.of, PowOk.of, DivOk.of, RngOk.of, modP, fdivP, powP, listP, tupleP, intP, maxP, minP, seqS, eIx, isDictR, eIxS, ixP, outR, sApp, sPut, sPutL, eTup, eLst, eSl, mPart, mNoPart, slP, iRange1, iRange2, ints1, intsOf, iSeq, itemsOf, sAsgT, gN, gT, gsCons, gsNil, tOr', tAnd', tNot', tOfB, sFor, sFrz, frzE, borE, wipeP], ?_, fun q => ?_, fun q => ?_⟩
        · by_cases q : z = 0
          · subst q; simp -implicitDefEqProofs [Res.bind_ok, Res.bind_bad, Res.bind_err, runP, sSeq, sNil, sIf, sRet, sRetN, sBreak, sCont, sAsg, inS', outR, opd, frzS, eVar, eC, eBin, tBin, eNeg, eCall, mCons, mNil, keepR, keepRs, rsls, rsl, noNon, toBor, argS, eDef, goodR, lenP, dInt, dBool, rv, rdS, PL.ltP, intCmp, addP, subP, mulP, MulOk.l, MulOk.r, RepOk.of, PowOk.of, DivOk.of, RngOk.of, modP, fdivP, powP, listP, tupleP, intP, maxP, minP, seqS, eIx, isDictR, eIxS, ixP, outR, sApp, sPut, sPutL, eTup, eLst, eSl, mPart, mNoPart, slP, iRange1, iRange2, ints1, intsOf, iSeq, itemsOf, sAsgT, gN, gT, gsCons, gsNil, tOr', tAnd', tNot', tOfB, sFor, sFrz, frzE, borE, hz', eqP_int]
          · simp -implicitDefEqProofs [Res.bind_ok, Res.bind_bad, Res.bind_err, runP, sSeq, sNil, sIf, sRet, sRetN, sBreak, sCont, sAsg, inS', outR, opd, frzS, eVar, eC, eBin, tBin, eNeg, eCall, mCons, mNil, keepR, keepRs, rsls, rsl, noNon, toBor, argS, eDef, goodR, lenP, dInt, dBool, rv, rdS, PL.ltP, intCmp, addP, subP, mulP, MulOk.l, MulOk.r, RepOk.of, PowOk.of, DivOk.of, RngOk.of, modP, fdivP, powP, listP, tupleP, intP, maxP, minP, seqS, eIx, isDictR, eIxS, ixP, outR, sApp, sPut, sPutL, eTup, eLst, eSl, mPart, mNoPart, slP, iRange1, iRange2, ints1, intsOf, iSeq, itemsOf, sAsgT, gN, gT, gsCons, gsNil, tOr', tAnd', tNot', tOfB, sFor, sFrz, frzE, borE, hz', eqP_int, q]
        · have : z ≠ 0 := of_decide_eq_false q
          simp [hz, this]
        · have : z = 0 := of_decide_eq_true q
          subst this
          exact ⟨_, _, .int j, by (simp -implicitDefEqProofs [Res.bind_ok, Res.bind_bad, Res.bind_err, runP, sSeq, sNil, sIf, sRet, sRetN, sBreak, sCont, sAsg, inS', outR, opd, frzS, eVar, eC, eBin, tBin, eNeg, eCall, mCons, mNil, keepR, keepRs, rsls, rsl, noNon, toBor, argS, eDef, goodR, lenP, dInt, dBool, rv, rdS, PL.ltP, intCmp, addP, subP, mulP, MulOk.l, MulOk.r, RepOk.of, PowOk.of, DivOk.of, RngOk.of, modP, fdivP, powP, listP, tupleP, intP, maxP, minP, seqS, eIx, isDictR, eIxS, ixP, outR, sApp, sPut, sPutL, eTup, eLst, eSl, mPart, mNoPart, slP, iRange1, iRange2, ints1, intsOf, iSeq, itemsOf, sAsgT, gN, gT, gsCons, gsNil, tOr', tAnd', tNot', tOfB, sFor, sFrz, frzE, borE] <;> (repeat' (first | with_reducible rfl | apply And.intro))), by simp -implicitDefEqProofs [Res.bind_ok, Res.bind_bad, Res.bind_err, runP, sSeq, sNil, sIf, sRet, sRetN, sBreak, sCont, sAsg, inS', outR, opd, frzS, eVar, eC, eBin, tBin, eNeg, eCall, mCons, mNil, keepR, keepRs, rsls, rsl, noNon, toBor, argS, eDef, goodR, lenP, dInt, dBool, rv, rdS, PL.ltP, intCmp, addP, subP, mulP, MulOk.l, MulOk.r, RepOk.of, PowOk.of, DivOk.of, RngOk.of, modP, fdivP, powP, listP, tupleP, intP, maxP, minP, seqS, eIx, isDictR, eIxS, ixP, outR, sApp, sPut, sPutL, eTup, eLst, eSl, mPart, mNoPart, slP, iRange1, iRange2, ints1, intsOf, iSeq, itemsOf, sAsgT, gN, gT, gsCons, gsNil, tOr', tAnd', tNot', tOfB, sFor, sFrz, frzE], by simp [hz]⟩
    obtain ⟨ys, hys, hyl⟩ := hcomp
    refine wp_seq (by (simp -implicitDefEqProofs [Res.bind_ok, Res.bind_bad, Res.bind_err, runP, sSeq, sNil, sIf, sRet, sRetN, sBreak, sCont, sAsg, inS', outR, opd, frzS, eVar, eC, eBin, tBin, eNeg, eCall, mCons, mNil, keepR, keepRs, rsls, rsl, noNon, toBor, argS, eDef, goodR, lenP, dInt, dBool, rv, rdS, PL.ltP, intCmp, addP, subP, mulP, MulOk.l, MulOk.r, RepOk.of, PowOk.of, DivOk.of, RngOk.of, modP, fdivP, powP, listP, tupleP, intP, maxP, minP, seqS, eIx, isDictR, eIxS, ixP, outR, sApp, sPut, sPutL, eTup, eLst, eSl, mPart, mNoPart, slP, iRange1, iRange2, ints1, intsOf, iSeq, itemsOf, sAsgT, gN, gT, gsCons, gsNil, tOr', tAnd', tNot', tOfB, sFor, sFrz, frzE, hys] <;> (repeat' (first | with_reducible rfl | apply And.intro)))) ?_
    have shl : SeqAt.shaped (.list (nL ys)) = true := (Sh.list (n := 1) (fun d hd => by obtain ⟨i, _, rfl⟩ := List.mem_map.mp hd; exact .int _)).shaped (by decide)
    have shx : SeqAt.shaped (.int ((ss.length : Int) - 1)) = true := (Sh.int (n := 1) _).shaped (by decide)
    have hsz : ys.length < sizeLine := size1000 (by omega)
    have hop : (nL ys).any (fun z => PyData.eqv z (.int ((ss.length : Int) - 1))) = true ∨ (nL ys).any (fun z => PyData.eqv z (.int ((ss.length : Int) - 1))) = false := by
      cases (nL ys).any (fun z => PyData.eqv z (.int ((ss.length : Int) - 1))) <;> simp
    have pr : PrOk md nin ss := ⟨hmd0, hmd1, hni0, hni1, hok, hsl, hs8⟩
    rcases hop with hop | hop
    · refine wp_seq (wp_ifF' (by (simp -implicitDefEqProofs [Res.bind_ok, Res.bind_bad, Res.bind_err, runP, sSeq, sNil, sIf, sRet, sRetN, sBreak, sCont, sAsg, inS', outR, opd, frzS, eVar, eC, eBin, tBin, eNeg, eCall, mCons, mNil, keepR, keepRs, rsls, rsl, noNon, toBor, argS, eDef, goodR, lenP, dInt, dBool, rv, rdS, PL.ltP, intCmp, addP, subP, mulP, MulOk.l, MulOk.r, RepOk.of, PowOk.of, DivOk.of, RngOk.of, modP, fdivP, powP, listP, tupleP, intP, maxP, minP, seqS, eIx, isDictR, eIxS, ixP, outR, sApp, sPut, sPutL, eTup, eLst, eSl, mPart, mNoPart, slP, iRange1, iRange2, ints1, intsOf, iSeq, itemsOf, sAsgT, gN, gT, gsCons, gsNil, tOr', tAnd', tNot', tOfB, sFor, sFrz, frzE, tIn, two, inS, dgetS, inP, shx, shl, hop] <;> (repeat' (first | with_reducible rfl | apply And.intro)))) rfl) ?_
      refine Wp.ok (by (simp -implicitDefEqProofs [Res.bind_ok, Res.bind_bad, Res.bind_err, runP, sSeq, sNil, sIf, sRet, sRetN, sBreak, sCont, sAsg, inS', outR, opd, frzS, eVar, eC, eBin, tBin, eNeg, eCall, mCons, mNil, keepR, keepRs, rsls, rsl, noNon, toBor, argS, eDef, goodR, lenP, dInt, dBool, rv, rdS, PL.ltP, intCmp, addP, subP, mulP, MulOk.l, MulOk.r, RepOk.of, PowOk.of, DivOk.of, RngOk.of, modP, fdivP, powP, listP, tupleP, intP, maxP, minP, seqS, eIx, isDictR, eIxS, ixP, outR, sApp, sPut, sPutL, eTup, eLst, eSl, mPart, mNoPart, slP, iRange1, iRange2, ints1, intsOf, iSeq, itemsOf, sAsgT, gN, gT, gsCons, gsNil, tOr', tAnd', tNot', tOfB, sFor, sFrz, frzE, size640] <;> (repeat' (first | with_reducible rfl | apply And.intro)))) ?_
      exact ⟨_, rfl, trivial, md, nin, ss, _, rfl, pr⟩
    · refine wp_seq (if_T (by (simp -implicitDefEqProofs [Res.bind_ok, Res.bind_bad, Res.bind_err, runP, sSeq, sNil, sIf, sRet, sRetN, sBreak, sCont, sAsg, inS', outR, opd, frzS, eVar, eC, eBin, tBin, eNeg, eCall, mCons, mNil, keepR, keepRs, rsls, rsl, noNon, toBor, argS, eDef, goodR, lenP, dInt, dBool, rv, rdS, PL.ltP, intCmp, addP, subP, mulP, MulOk.l, MulOk.r, RepOk.of, PowOk.of, DivOk.of, RngOk.of, modP, fdivP, powP, listP, tupleP, intP, maxP, minP, seqS, eIx, isDictR, eIxS, ixP, outR, sApp, sPut, sPutL, eTup, eLst, eSl, mPart, mNoPart, slP, iRange1, iRange2, ints1, intsOf, iSeq, itemsOf, sAsgT, gN, gT, gsCons, gsNil, tOr', tAnd', tNot', tOfB, sFor, sFrz, frzE, tIn, two, inS, dgetS, inP, shx, shl, hop] <;> (repeat' (first | with_reducible rfl | apply And.intro)))) (by (simp -implicitDefEqProofs [Res.bind_ok, Res.bind_bad, Res.bind_err, runP, sSeq, sNil, sIf, sRet, sRetN, sBreak, sCont, sAsg, inS', outR, opd, frzS, eVar, eC, eBin, tBin, eNeg, eCall, mCons, mNil, keepR, keepRs, rsls, rsl, noNon, toBor, argS, eDef, goodR, lenP, dInt, dBool, rv, rdS, PL.ltP, intCmp, addP, subP, mulP, MulOk.l, MulOk.r, RepOk.of, PowOk.of, DivOk.of, RngOk.of, modP, fdivP, powP, listP, tupleP, intP, maxP, minP, seqS, eIx, isDictR, eIxS, ixP, outR, sApp, sPut, sPutL, eTup, eLst, eSl, mPart, mNoPart, slP, iRange1, iRange2, ints1, intsOf, iSeq, itemsOf, sAsgT, gN, gT, gsCons, gsNil, tOr', tAnd', tNot', tOfB, sFor, sFrz, frzE, hsz] <;> (repeat' (first | with_reducible rfl | apply And.intro))))) ?_
      refine Wp.ok (by (simp -implicitDefEqProofs [Res.bind_ok, Res.bind_bad, Res.bind_err, runP, sSeq, sNil, sIf, sRet, sRetN, sBreak, sCont, sAsg, inS', outR, opd, frzS, eVar, eC, eBin, tBin, eNeg, eCall, mCons, mNil, keepR, keepRs, rsls, rsl, noNon, toBor, argS, eDef, goodR, lenP, dInt, dBool, rv, rdS, PL.ltP, intCmp, addP, subP, mulP, MulOk.l, MulOk.r, RepOk.of, PowOk.of, DivOk.of, RngOk.of, modP, fdivP, powP, listP, tupleP, intP, maxP, minP, seqS, eIx, isDictR, eIxS, ixP, outR, sApp, sPut, sPutL, eTup, eLst, eSl, mPart, mNoPart, slP, iRange1, iRange2, ints1, intsOf, iSeq, itemsOf, sAsgT, gN, gT, gsCons, gsNil, tOr', tAnd', tNot', tOfB, sFor, sFrz, frzE, size640] <;> (repeat' (first | with_reducible rfl | apply And.intro)))) ?_
      exact ⟨_, rfl, trivial, md, nin, ss, _, rfl, pr⟩
end Law
end

section
set_option maxRecDepth 100000
set_option maxHeartbeats 1000000
namespace Law
open PySem L2 PL
theorem v_inputs (ns : List Int) (k : Nat) {md nx : Nat} {pd : PyData} (hk : k ≤ 1000) (hp : PD md nx pd) (m0 : 0 < md) (m1 : md ≤ 1000) (n1 : nx ≤ 1000) :
    ∃ xs : List Int, p__law_inputs [.scr ns, .dat (.int k), .dat pd] = .ok (.new (.lst (iL xs))) [] ∧ xs.length = nx ∧ ∀ x ∈ xs, 0 ≤ x ∧ x < md := by
  obtain ⟨a, b, rfl⟩ := hp
  obtain ⟨ds, e, h1, h2⟩ := v_draw ns k (List.replicate nx (md : Int)) hk ⟨by simpa using n1, fun z hz => by
    have := (List.mem_replicate.mp hz).2
    omega⟩
  rw [show iL (List.replicate nx (md : Int)) = List.replicate nx (.int (md : Int)) by simp [iL]] at e
  refine ⟨ds, run_eq trivial ?_, by simpa using h1, fun x hx => ?_⟩
  · unfold m__law_inputs
    refine wp_seq (by (simp -implicitDefEqProofs [Res.bind_ok, Res.bind_bad, Res.bind_err, runP, sSeq, sNil, sIf, sRet, sRetN, sBreak, sCont, sAsg, inS', outR, opd, frzS, eVar, eC, eBin, tBin, eNeg, eCall, mCons, mNil, keepR, keepRs, rsls, rsl, noNon, toBor, argS, eDef, goodR, lenP, dInt, dBool, rv, rdS, PL.ltP, intCmp, addP, subP, mulP, MulOk.l, MulOk.r, RepOk.of, PowOk.of, DivOk.of, RngOk.of, modP, fdivP, powP, listP, tupleP, intP, maxP, minP, seqS, eIx, isDictR, eIxS, ixP, outR, sApp, sPut, sPutL, eTup, eLst, eSl, mPart, mNoPart, slP, iRange1, iRange2, ints1, intsOf, iSeq, itemsOf, sAsgT, gN, gT, gsCons, gsNil, tOr', tAnd', tNot', tOfB, sFor, sFrz, frzE, atI0, atI1, size640, RepOk.nat n1, e] <;> (repeat' (first | with_reducible rfl | apply And.intro)))) ?_
    refine Wp.ok (by (simp -implicitDefEqProofs [Res.bind_ok, Res.bind_bad, Res.bind_err, runP, sSeq, sNil, sIf, sRet, sRetN, sBreak, sCont, sAsg, inS', outR, opd, frzS, eVar, eC, eBin, tBin, eNeg, eCall, mCons, mNil, keepR, keepRs, rsls, rsl, noNon, toBor, argS, eDef, goodR, lenP, dInt, dBool, rv, rdS, PL.ltP, intCmp, addP, subP, mulP, MulOk.l, MulOk.r, RepOk.of, PowOk.of, DivOk.of, RngOk.of, modP, fdivP, powP, listP, tupleP, intP, maxP, minP, seqS, eIx, isDictR, eIxS, ixP, outR, sApp, sPut, sPutL, eTup, eLst, eSl, mPart, mNoPart, slP, iRange1, iRange2, ints1, intsOf, iSeq, itemsOf, sAsgT, gN, gT, gsCons, gsNil, tOr', tAnd', tNot', tOfB, sFor, sFrz, frzE] <;> (repeat' (first | with_reducible rfl | apply And.intro)))) rfl
  · obtain ⟨i, hi, rfl⟩ := List.mem_iff_getElem.mp hx
    have hi' : i < nx := by simpa [h1] using hi
    exact h2 i _ md (List.getElem?_eq_getElem hi) (by simp [hi'])
def wordOf (kind number cell md nin : Nat) : Opd := if kind = 0 then .inp (number % nin) else if kind = 1 then .num ((number % md : Nat) : Int) else .reg ((cell + 1 + number % 7) % 8)
theorem wordOf_ok {kind number cell md nin : Nat} (h1 : 0 < md) (h2 : md ≤ 1000) (h3 : 0 < nin) (h4 : nin ≤ 1000) : (wordOf kind number cell md nin).ok nin := by
  unfold wordOf
  have a := Nat.mod_lt number h3
  have b := Nat.mod_lt number h1
  by_cases c : kind = 0
  · rw [if_pos c]; exact ⟨a, by omega⟩
  · rw [if_neg c]
    by_cases d : kind = 1
    · rw [if_pos d]; exact ⟨by omega, by omega⟩
    · rw [if_neg d]; exact Nat.mod_lt _ (by decide)
abbrev szR (most : Nat) : List Int := [(most : Int)] ++ (List.replicate most ([8, 2, 3, 3, 13, 3, 13] : List Int)).flatten
/-- a row of seven draws -/
theorem row7 {ds : List Nat} {j : Nat} (h : 8 + 7 * j ≤ ds.length) : ∃ a b c d e f g, ds[1 + 7 * j]? = some a ∧ ds[2 + 7 * j]? = some b ∧ ds[3 + 7 * j]? = some c ∧ ds[4 + 7 * j]? = some d ∧ ds[5 + 7 * j]? = some e ∧ ds[6 + 7 * j]? = some f ∧ ds[7 + 7 * j]? = some g ∧ cutD (nL ds) (some ((1 + 7 * j : Nat) : Int)) (some ((8 + 7 * j : Nat) : Int)) = nL [a, b, c, d, e, f, g] := by
  refine ⟨ds[1 + 7 * j], ds[2 + 7 * j], ds[3 + 7 * j], ds[4 + 7 * j], ds[5 + 7 * j], ds[6 + 7 * j], ds[7 + 7 * j], List.getElem?_eq_getElem _, List.getElem?_eq_getElem _, List.getElem?_eq_getElem _, List.getElem?_eq_getElem _, List.getElem?_eq_getElem _, List.getElem?_eq_getElem _, List.getElem?_eq_getElem _, ?_⟩
  unfold cutD
  rw [HT.sIx_nat, HT.sIx_nat, List.length_map, Nat.min_eq_left (by omega), Nat.min_eq_left (by omega), show 8 + 7 * j - (1 + 7 * j) = 7 by omega]
  refine List.ext_getElem? fun i => ?_
  rw [List.getElem?_take]
  by_cases hi : i < 7
  · rw [if_pos hi, List.getElem?_drop, List.getElem?_map]
    match i, hi with
    | 0, _ => rw [List.getElem?_eq_getElem (by omega)]; rfl
    | 1, _ => rw [List.getElem?_eq_getElem (by omega)]; simp [nL]; congr 2; omega
    | 2, _ => rw [List.getElem?_eq_getElem (by omega)]; simp [nL]; congr 2; omega
    | 3, _ => rw [List.getElem?_eq_getElem (by omega)]; simp [nL]; congr 2; omega
    | 4, _ => rw [List.getElem?_eq_getElem (by omega)]; simp [nL]; congr 2; omega
    | 5, _ => rw [List.getElem?_eq_getElem (by omega)]; simp [nL]; congr 2; omega
    | 6, _ => rw [List.getElem?_eq_getElem (by omega)]; simp [nL]; congr 2; omega
  · rw [if_neg hi, List.getElem?_eq_none (by simp; omega)]
theorem atI5 {α : Type} {x y z u v w : α} {xs : List α} : atI (x :: y :: z :: u :: v :: w :: xs) 5 = some w := by simp [atI, ixN]; rw [if_pos (by omega)]; rfl
theorem atI6 {α : Type} {x y z u v w t : α} {xs : List α} : atI (x :: y :: z :: u :: v :: w :: t :: xs) 6 = some t := by simp [atI, ixN]; rw [if_pos (by omega)]; rfl
theorem sg_at {n : Nat} (h : n < 2) : atI (PySem.Str.ofString "+-").cps.toList (n : Int) = some (if n = 1 then 45 else 43) := by
  match n, h with
  | 0, _ => decide +kernel
  | 1, _ => decide +kernel
theorem sg_len : (PySem.Str.ofString "+-").length ≤ sizeLine := by decide +kernel
theorem szR8 : szR 8 = [8, 8, 2, 3, 3, 13, 3, 13, 8, 2, 3, 3, 13, 3, 13, 8, 2, 3, 3, 13, 3, 13, 8, 2, 3, 3, 13, 3, 13, 8, 2, 3, 3, 13, 3, 13, 8, 2, 3, 3, 13, 3, 13, 8, 2, 3, 3, 13, 3, 13, 8, 2, 3, 3, 13, 3, 13] := rfl
theorem szR_at {j : Nat} (h : j < 8) : (szR 8)[1 + 7 * j]? = some 8 ∧ (szR 8)[2 + 7 * j]? = some 2 ∧ (szR 8)[3 + 7 * j]? = some 3 := by
  match j, h with
  | 0, _ => exact ⟨rfl, rfl, rfl⟩
  | 1, _ => exact ⟨rfl, rfl, rfl⟩
  | 2, _ => exact ⟨rfl, rfl, rfl⟩
  | 3, _ => exact ⟨rfl, rfl, rfl⟩
  | 4, _ => exact ⟨rfl, rfl, rfl⟩
  | 5, _ => exact ⟨rfl, rfl, rfl⟩
  | 6, _ => exact ⟨rfl, rfl, rfl⟩
  | 7, _ => exact ⟨rfl, rfl, rfl⟩
theorem v_random (ns : List Int) (k : Nat) {md nx : Nat} {pd : PyData} (hk : k ≤ 1000) (hp : PD md nx pd) (m0 : 0 < md) (m1 : md ≤ 1000) (n0 : 0 < nx) (n1 : nx ≤ 1000) :
    ∃ r, p__law_random [.scr ns, .dat (.int k), .dat pd, .dat (.int 8)] = .ok r [] ∧ ∃ code : List Ins, r = .new (.lst (cD code)) ∧ (∀ i ∈ code, i.ok nx) ∧ code.length ≤ 8 := by
  obtain ⟨pa, pb, rfl⟩ := hp
  obtain ⟨ds, ed, hd⟩ := v_drawN ns k (szR 8) hk ⟨by decide, fun z hz => by rw [szR8] at hz; simp at hz; omega⟩
  have hl : ds.length = 57 := by rw [hd.1]; rfl
  obtain ⟨d0, e0, q0⟩ := hd.get (i := 0) (z := 8) rfl
  have a0 := natI e0
  refine run_ok ?_
  unfold m__law_random
  refine wp_seq (by (simp -implicitDefEqProofs [Res.bind_ok, Res.bind_bad, Res.bind_err, runP, sSeq, sNil, sIf, sRet, sRetN, sBreak, sCont, sAsg, inS', outR, opd, frzS, eVar, eC, eBin, tBin, eNeg, eCall, mCons, mNil, keepR, keepRs, rsls, rsl, noNon, toBor, argS, eDef, goodR, lenP, dInt, dBool, rv, rdS, PL.ltP, intCmp, addP, subP, mulP, MulOk.l, MulOk.r, RepOk.of, PowOk.of, DivOk.of, RngOk.of, modP, fdivP, powP, listP, tupleP, intP, maxP, minP, seqS, eIx, isDictR, eIxS, ixP, outR, sApp, sPut, sPutL, eTup, eLst, eSl, mPart, mNoPart, slP, iRange1, iRange2, ints1, intsOf, iSeq, itemsOf, sAsgT, gN, gT, gsCons, gsNil, tOr', tAnd', tNot', tOfB, sFor, sFrz, frzE] <;> (repeat' (first | with_reducible rfl | apply And.intro)))) ?_
  refine wp_seq (ρ' := [.scr ns, .dat (.int k), .dat (.tuple [.int md, .int nx, pa, pb]), .dat (.int 8), .lst [], .lst (nL ds), .non, .non, .non, .non, .non, .non]) (by
    have ed' := ed
    rw [szR8] at ed'
    simp at ed'
    (simp -implicitDefEqProofs [Res.bind_ok, Res.bind_bad, Res.bind_err, runP, sSeq, sNil, sIf, sRet, sRetN, sBreak, sCont, sAsg, inS', outR, opd, frzS, eVar, eC, eBin, tBin, eNeg, eCall, mCons, mNil, keepR, keepRs, rsls, rsl, noNon, toBor, argS, eDef, goodR, lenP, dInt, dBool, rv, rdS, PL.ltP, intCmp, addP, subP, mulP, MulOk.l, MulOk.r, RepOk.of, PowOk.of, DivOk.of, RngOk.of, modP, fdivP, powP, listP, tupleP, intP, maxP, minP, seqS, eIx, isDictR, eIxS, ixP, outR, sApp, sPut, sPutL, eTup, eLst, eSl, mPart, mNoPart, slP, iRange1, iRange2, ints1, intsOf, iSeq, itemsOf, sAsgT, gN, gT, gsCons, gsNil, tOr', tAnd', tNot', tOfB, sFor, sFrz, frzE, size640, ed', List.replicate] <;> (repeat' (first | with_reducible rfl | apply And.intro)))
    ) ?_
  have hr0 : RngOk (d0 : Int) := RngOk.nat (by omega)
  simp at a0
  refine wp_forS (fun j ρ => ∃ code s6 s7 s8 s9 s10 s11, ρ = [.scr ns, .dat (.int k), .dat (.tuple [.int md, .int nx, pa, pb]), .dat (.int 8), .lst (cD code), .lst (nL ds), s6, s7, s8, s9, s10, s11] ∧ (∀ i ∈ code, i.ok nx) ∧ code.length ≤ j) (by (simp -implicitDefEqProofs [Res.bind_ok, Res.bind_bad, Res.bind_err, runP, sSeq, sNil, sIf, sRet, sRetN, sBreak, sCont, sAsg, inS', outR, opd, frzS, eVar, eC, eBin, tBin, eNeg, eCall, mCons, mNil, keepR, keepRs, rsls, rsl, noNon, toBor, argS, eDef, goodR, lenP, dInt, dBool, rv, rdS, PL.ltP, intCmp, addP, subP, mulP, MulOk.l, MulOk.r, RepOk.of, PowOk.of, DivOk.of, RngOk.of, modP, fdivP, powP, listP, tupleP, intP, maxP, minP, seqS, eIx, isDictR, eIxS, ixP, outR, sApp, sPut, sPutL, eTup, eLst, eSl, mPart, mNoPart, slP, iRange1, iRange2, ints1, intsOf, iSeq, itemsOf, sAsgT, gN, gT, gsCons, gsNil, tOr', tAnd', tNot', tOfB, sFor, sFrz, frzE, a0, hr0] <;> (repeat' (first | with_reducible rfl | apply And.intro)))) ⟨[], _, _, _, _, _, _, rfl, (fun i e => by simp at e), Nat.le_refl _⟩ ?_ ?_
  · rintro j d ρ hd' ⟨code, s6, s7, s8, s9, s10, s11, rfl, hok, hle⟩
    obtain ⟨hj, rfl⟩ := rng_get hd'
    obtain ⟨a, b, c, d, e, f, g, ra, rb, rc, rd, re, rf, rg, hrow⟩ := row7 (ds := ds) (j := j) (by omega)
    obtain ⟨z1, z2, z3⟩ := szR_at (j := j) (by omega)
    have ha := hd.2 _ _ _ ra z1
    have hb := hd.2 _ _ _ rb z2
    have hc := hd.2 _ _ _ rc z3
    refine ⟨_, by (simp -implicitDefEqProofs [Res.bind_ok, Res.bind_bad, Res.bind_err, runP, sSeq, sNil, sIf, sRet, sRetN, sBreak, sCont, sAsg, inS', outR, opd, frzS, eVar, eC, eBin, tBin, eNeg, eCall, mCons, mNil, keepR, keepRs, rsls, rsl, noNon, toBor, argS, eDef, goodR, lenP, dInt, dBool, rv, rdS, PL.ltP, intCmp, addP, subP, mulP, MulOk.l, MulOk.r, RepOk.of, PowOk.of, DivOk.of, RngOk.of, modP, fdivP, powP, listP, tupleP, intP, maxP, minP, seqS, eIx, isDictR, eIxS, ixP, outR, sApp, sPut, sPutL, eTup, eLst, eSl, mPart, mNoPart, slP, iRange1, iRange2, ints1, intsOf, iSeq, itemsOf, sAsgT, gN, gT, gsCons, gsNil, tOr', tAnd', tNot', tOfB, sFor, sFrz, frzE] <;> (repeat' (first | with_reducible rfl | apply And.intro))), ?_⟩
    simp at hrow
    refine wp_seq (by (simp -implicitDefEqProofs [Res.bind_ok, Res.bind_bad, Res.bind_err, runP, sSeq, sNil, sIf, sRet, sRetN, sBreak, sCont, sAsg, inS', outR, opd, frzS, eVar, eC, eBin, tBin, eNeg, eCall, mCons, mNil, keepR, keepRs, rsls, rsl, noNon, toBor, argS, eDef, goodR, lenP, dInt, dBool, rv, rdS, PL.ltP, intCmp, addP, subP, mulP, MulOk.l, MulOk.r, RepOk.of, PowOk.of, DivOk.of, RngOk.of, modP, fdivP, powP, listP, tupleP, intP, maxP, minP, seqS, eIx, isDictR, eIxS, ixP, outR, sApp, sPut, sPutL, eTup, eLst, eSl, mPart, mNoPart, slP, iRange1, iRange2, ints1, intsOf, iSeq, itemsOf, sAsgT, gN, gT, gsCons, gsNil, tOr', tAnd', tNot', tOfB, sFor, sFrz, frzE, hrow] <;> (repeat' (first | with_reducible rfl | apply And.intro)))) ?_
    refine wp_seq (by (simp -implicitDefEqProofs [Res.bind_ok, Res.bind_bad, Res.bind_err, runP, sSeq, sNil, sIf, sRet, sRetN, sBreak, sCont, sAsg, inS', outR, opd, frzS, eVar, eC, eBin, tBin, eNeg, eCall, mCons, mNil, keepR, keepRs, rsls, rsl, noNon, toBor, argS, eDef, goodR, lenP, dInt, dBool, rv, rdS, PL.ltP, intCmp, addP, subP, mulP, MulOk.l, MulOk.r, RepOk.of, PowOk.of, DivOk.of, RngOk.of, modP, fdivP, powP, listP, tupleP, intP, maxP, minP, seqS, eIx, isDictR, eIxS, ixP, outR, sApp, sPut, sPutL, eTup, eLst, eSl, mPart, mNoPart, slP, iRange1, iRange2, ints1, intsOf, iSeq, itemsOf, sAsgT, gN, gT, gsCons, gsNil, tOr', tAnd', tNot', tOfB, sFor, sFrz, frzE] <;> (repeat' (first | with_reducible rfl | apply And.intro)))) ?_
    -- the two words
    have pair : ∀ i (_ : i < 2), ∃ kind number : Nat, ([.tuple [.int d, .int e], .tuple [.int f, .int g]] : List PyData)[i]? = some (.tuple [.int (kind : Int), .int (number : Int)]) ∧ ([wordOf d e a md nx, wordOf f g a md nx] : List Opd)[i]? = some (wordOf kind number a md nx) := by
      intro i hi
      match i, hi with
      | 0, _ => exact ⟨d, e, rfl, rfl⟩
      | 1, _ => exact ⟨f, g, rfl, rfl⟩
    refine wp_forS (fun i ρ => ∃ s9 s10 s11, ρ = [.scr ns, .dat (.int k), .dat (.tuple [.int md, .int nx, pa, pb]), .dat (.int 8), .lst (cD code), .lst (nL ds), .dat (.int j), .lst (nL [a, b, c, d, e, f, g]), .lst ((([wordOf d e a md nx, wordOf f g a md nx] : List Opd).take i).map fun o => .str o.str), s9, s10, s11]) (by (simp -implicitDefEqProofs [Res.bind_ok, Res.bind_bad, Res.bind_err, runP, sSeq, sNil, sIf, sRet, sRetN, sBreak, sCont, sAsg, inS', outR, opd, frzS, eVar, eC, eBin, tBin, eNeg, eCall, mCons, mNil, keepR, keepRs, rsls, rsl, noNon, toBor, argS, eDef, goodR, lenP, dInt, dBool, rv, rdS, PL.ltP, intCmp, addP, subP, mulP, MulOk.l, MulOk.r, RepOk.of, PowOk.of, DivOk.of, RngOk.of, modP, fdivP, powP, listP, tupleP, intP, maxP, minP, seqS, eIx, isDictR, eIxS, ixP, outR, sApp, sPut, sPutL, eTup, eLst, eSl, mPart, mNoPart, slP, iRange1, iRange2, ints1, intsOf, iSeq, itemsOf, sAsgT, gN, gT, gsCons, gsNil, tOr', tAnd', tNot', tOfB, sFor, sFrz, frzE, size640, atI3, atI4, atI5, atI6] <;> (repeat' (first | with_reducible rfl | apply And.intro)))) ⟨_, _, _, rfl⟩ ?_ ?_
    · rintro i p ρ hp ⟨s9, s10, s11, rfl⟩
      have hi2 : i < 2 := by
        have := (List.getElem?_eq_some_iff.mp hp).1
        simpa using this
      obtain ⟨kind, number, p1, p2⟩ := pair i hi2
      rw [p1] at hp
      cases hp
      rw [List.take_add_one, p2, Option.toList_some, List.map_append]
      refine ⟨_, by (simp -implicitDefEqProofs [Res.bind_ok, Res.bind_bad, Res.bind_err, runP, sSeq, sNil, sIf, sRet, sRetN, sBreak, sCont, sAsg, inS', outR, opd, frzS, eVar, eC, eBin, tBin, eNeg, eCall, mCons, mNil, keepR, keepRs, rsls, rsl, noNon, toBor, argS, eDef, goodR, lenP, dInt, dBool, rv, rdS, PL.ltP, intCmp, addP, subP, mulP, MulOk.l, MulOk.r, RepOk.of, PowOk.of, DivOk.of, RngOk.of, modP, fdivP, powP, listP, tupleP, intP, maxP, minP, seqS, eIx, isDictR, eIxS, ixP, outR, sApp, sPut, sPutL, eTup, eLst, eSl, mPart, mNoPart, slP, iRange1, iRange2, ints1, intsOf, iSeq, itemsOf, sAsgT, gN, gT, gsCons, gsNil, tOr', tAnd', tNot', tOfB, sFor, sFrz, frzE] <;> (repeat' (first | with_reducible rfl | apply And.intro))), ?_⟩
      have w1 : (a + 1 + number % 7) % 8 < 8 := Nat.mod_lt _ (by decide)
      have hn1 : Num (((a : Int) + 1 + (number : Int) % 7) % 8) := by
        have := num_nat (n := (a + 1 + number % 7) % 8) (by omega)
        simpa using this
      have hn2 : Num ((number : Int) % (nx : Int)) := by have := num_nat (n := number % nx) (by have := Nat.mod_lt number n0; omega); rwa [Int.natCast_emod] at this
      have hn3 : Num ((number : Int) % (md : Int)) := by have := num_nat (n := number % md) (by have := Nat.mod_lt number m0; omega); rwa [Int.natCast_emod] at this
      have t1 := strP_num hn1
      have t2 := strP_num hn2
      have t3 := strP_num hn3
      have u1 := word_add "r" (by decide) hn1
      have u2 := word_add "x" (by decide) hn2
      have hsz : i < sizeLine := size1000 (by omega)
      have htl : (List.take i [wordOf d e a md nx, wordOf f g a md nx]).length < sizeLine := by rw [List.length_take]; exact Nat.lt_of_le_of_lt (Nat.min_le_left _ _) hsz
      refine wp_seq (by (simp -implicitDefEqProofs [Res.bind_ok, Res.bind_bad, Res.bind_err, runP, sSeq, sNil, sIf, sRet, sRetN, sBreak, sCont, sAsg, inS', outR, opd, frzS, eVar, eC, eBin, tBin, eNeg, eCall, mCons, mNil, keepR, keepRs, rsls, rsl, noNon, toBor, argS, eDef, goodR, lenP, dInt, dBool, rv, rdS, PL.ltP, intCmp, addP, subP, mulP, MulOk.l, MulOk.r, RepOk.of, PowOk.of, DivOk.of, RngOk.of, modP, fdivP, powP, listP, tupleP, intP, maxP, minP, seqS, eIx, isDictR, eIxS, ixP, outR, sApp, sPut, sPutL, eTup, eLst, eSl, mPart, mNoPart, slP, iRange1, iRange2, ints1, intsOf, iSeq, itemsOf, sAsgT, gN, gT, gsCons, gsNil, tOr', tAnd', tNot', tOfB, sFor, sFrz, frzE, atI0, t1, u1] <;> (repeat' (first | with_reducible rfl | apply And.intro)))) ?_
      have hmin : min i 2 < sizeLine := Nat.lt_of_le_of_lt (Nat.min_le_left _ _) hsz
      by_cases k0 : kind = 0
      · subst k0
        refine wp_seq (if_T (by (simp -implicitDefEqProofs [Res.bind_ok, Res.bind_bad, Res.bind_err, runP, sSeq, sNil, sIf, sRet, sRetN, sBreak, sCont, sAsg, inS', outR, opd, frzS, eVar, eC, eBin, tBin, eNeg, eCall, mCons, mNil, keepR, keepRs, rsls, rsl, noNon, toBor, argS, eDef, goodR, lenP, dInt, dBool, rv, rdS, PL.ltP, intCmp, addP, subP, mulP, MulOk.l, MulOk.r, RepOk.of, PowOk.of, DivOk.of, RngOk.of, modP, fdivP, powP, listP, tupleP, intP, maxP, minP, seqS, eIx, isDictR, eIxS, ixP, outR, sApp, sPut, sPutL, eTup, eLst, eSl, mPart, mNoPart, slP, iRange1, iRange2, ints1, intsOf, iSeq, itemsOf, sAsgT, gN, gT, gsCons, gsNil, tOr', tAnd', tNot', tOfB, sFor, sFrz, frzE, eqP_int] <;> (repeat' (first | with_reducible rfl | apply And.intro)))) (by (simp -implicitDefEqProofs [Res.bind_ok, Res.bind_bad, Res.bind_err, runP, sSeq, sNil, sIf, sRet, sRetN, sBreak, sCont, sAsg, inS', outR, opd, frzS, eVar, eC, eBin, tBin, eNeg, eCall, mCons, mNil, keepR, keepRs, rsls, rsl, noNon, toBor, argS, eDef, goodR, lenP, dInt, dBool, rv, rdS, PL.ltP, intCmp, addP, subP, mulP, MulOk.l, MulOk.r, RepOk.of, PowOk.of, DivOk.of, RngOk.of, modP, fdivP, powP, listP, tupleP, intP, maxP, minP, seqS, eIx, isDictR, eIxS, ixP, outR, sApp, sPut, sPutL, eTup, eLst, eSl, mPart, mNoPart, slP, iRange1, iRange2, ints1, intsOf, iSeq, itemsOf, sAsgT, gN, gT, gsCons, gsNil, tOr', tAnd', tNot', tOfB, sFor, sFrz, frzE, atI1, n0, t2, u2] <;> (repeat' (first | with_reducible rfl | apply And.intro))))) ?_
        refine wp_seq (wp_ifF' (by (simp -implicitDefEqProofs [Res.bind_ok, Res.bind_bad, Res.bind_err, runP, sSeq, sNil, sIf, sRet, sRetN, sBreak, sCont, sAsg, inS', outR, opd, frzS, eVar, eC, eBin, tBin, eNeg, eCall, mCons, mNil, keepR, keepRs, rsls, rsl, noNon, toBor, argS, eDef, goodR, lenP, dInt, dBool, rv, rdS, PL.ltP, intCmp, addP, subP, mulP, MulOk.l, MulOk.r, RepOk.of, PowOk.of, DivOk.of, RngOk.of, modP, fdivP, powP, listP, tupleP, intP, maxP, minP, seqS, eIx, isDictR, eIxS, ixP, outR, sApp, sPut, sPutL, eTup, eLst, eSl, mPart, mNoPart, slP, iRange1, iRange2, ints1, intsOf, iSeq, itemsOf, sAsgT, gN, gT, gsCons, gsNil, tOr', tAnd', tNot', tOfB, sFor, sFrz, frzE, eqP_int] <;> (repeat' (first | with_reducible rfl | apply And.intro)))) (by (simp -implicitDefEqProofs [Res.bind_ok, Res.bind_bad, Res.bind_err, runP, sSeq, sNil, sIf, sRet, sRetN, sBreak, sCont, sAsg, inS', outR, opd, frzS, eVar, eC, eBin, tBin, eNeg, eCall, mCons, mNil, keepR, keepRs, rsls, rsl, noNon, toBor, argS, eDef, goodR, lenP, dInt, dBool, rv, rdS, PL.ltP, intCmp, addP, subP, mulP, MulOk.l, MulOk.r, RepOk.of, PowOk.of, DivOk.of, RngOk.of, modP, fdivP, powP, listP, tupleP, intP, maxP, minP, seqS, eIx, isDictR, eIxS, ixP, outR, sApp, sPut, sPutL, eTup, eLst, eSl, mPart, mNoPart, slP, iRange1, iRange2, ints1, intsOf, iSeq, itemsOf, sAsgT, gN, gT, gsCons, gsNil, tOr', tAnd', tNot', tOfB, sFor, sFrz, frzE] <;> (repeat' (first | with_reducible rfl | apply And.intro))))) ?_
        refine Wp.ok (by (simp -implicitDefEqProofs [Res.bind_ok, Res.bind_bad, Res.bind_err, runP, sSeq, sNil, sIf, sRet, sRetN, sBreak, sCont, sAsg, inS', outR, opd, frzS, eVar, eC, eBin, tBin, eNeg, eCall, mCons, mNil, keepR, keepRs, rsls, rsl, noNon, toBor, argS, eDef, goodR, lenP, dInt, dBool, rv, rdS, PL.ltP, intCmp, addP, subP, mulP, MulOk.l, MulOk.r, RepOk.of, PowOk.of, DivOk.of, RngOk.of, modP, fdivP, powP, listP, tupleP, intP, maxP, minP, seqS, eIx, isDictR, eIxS, ixP, outR, sApp, sPut, sPutL, eTup, eLst, eSl, mPart, mNoPart, slP, iRange1, iRange2, ints1, intsOf, iSeq, itemsOf, sAsgT, gN, gT, gsCons, gsNil, tOr', tAnd', tNot', tOfB, sFor, sFrz, frzE, hmin] <;> (repeat' (first | with_reducible rfl | apply And.intro)))) ?_
        refine ⟨.dat (.int 0), .dat (.int number), .dat (.str ("x" ++ numS ((number : Int) % (nx : Int)))), ?_⟩
        simp [wordOf, Opd.str]
      · refine wp_seq (wp_ifF' (by (simp -implicitDefEqProofs [Res.bind_ok, Res.bind_bad, Res.bind_err, runP, sSeq, sNil, sIf, sRet, sRetN, sBreak, sCont, sAsg, inS', outR, opd, frzS, eVar, eC, eBin, tBin, eNeg, eCall, mCons, mNil, keepR, keepRs, rsls, rsl, noNon, toBor, argS, eDef, goodR, lenP, dInt, dBool, rv, rdS, PL.ltP, intCmp, addP, subP, mulP, MulOk.l, MulOk.r, RepOk.of, PowOk.of, DivOk.of, RngOk.of, modP, fdivP, powP, listP, tupleP, intP, maxP, minP, seqS, eIx, isDictR, eIxS, ixP, outR, sApp, sPut, sPutL, eTup, eLst, eSl, mPart, mNoPart, slP, iRange1, iRange2, ints1, intsOf, iSeq, itemsOf, sAsgT, gN, gT, gsCons, gsNil, tOr', tAnd', tNot', tOfB, sFor, sFrz, frzE, eqP_int, k0] <;> (repeat' (first | with_reducible rfl | apply And.intro)))) (by (simp -implicitDefEqProofs [Res.bind_ok, Res.bind_bad, Res.bind_err, runP, sSeq, sNil, sIf, sRet, sRetN, sBreak, sCont, sAsg, inS', outR, opd, frzS, eVar, eC, eBin, tBin, eNeg, eCall, mCons, mNil, keepR, keepRs, rsls, rsl, noNon, toBor, argS, eDef, goodR, lenP, dInt, dBool, rv, rdS, PL.ltP, intCmp, addP, subP, mulP, MulOk.l, MulOk.r, RepOk.of, PowOk.of, DivOk.of, RngOk.of, modP, fdivP, powP, listP, tupleP, intP, maxP, minP, seqS, eIx, isDictR, eIxS, ixP, outR, sApp, sPut, sPutL, eTup, eLst, eSl, mPart, mNoPart, slP, iRange1, iRange2, ints1, intsOf, iSeq, itemsOf, sAsgT, gN, gT, gsCons, gsNil, tOr', tAnd', tNot', tOfB, sFor, sFrz, frzE] <;> (repeat' (first | with_reducible rfl | apply And.intro))))) ?_
        by_cases k1 : kind = 1
        · subst k1
          refine wp_seq (if_T (by (simp -implicitDefEqProofs [Res.bind_ok, Res.bind_bad, Res.bind_err, runP, sSeq, sNil, sIf, sRet, sRetN, sBreak, sCont, sAsg, inS', outR, opd, frzS, eVar, eC, eBin, tBin, eNeg, eCall, mCons, mNil, keepR, keepRs, rsls, rsl, noNon, toBor, argS, eDef, goodR, lenP, dInt, dBool, rv, rdS, PL.ltP, intCmp, addP, subP, mulP, MulOk.l, MulOk.r, RepOk.of, PowOk.of, DivOk.of, RngOk.of, modP, fdivP, powP, listP, tupleP, intP, maxP, minP, seqS, eIx, isDictR, eIxS, ixP, outR, sApp, sPut, sPutL, eTup, eLst, eSl, mPart, mNoPart, slP, iRange1, iRange2, ints1, intsOf, iSeq, itemsOf, sAsgT, gN, gT, gsCons, gsNil, tOr', tAnd', tNot', tOfB, sFor, sFrz, frzE, eqP_int] <;> (repeat' (first | with_reducible rfl | apply And.intro)))) (by (simp -implicitDefEqProofs [Res.bind_ok, Res.bind_bad, Res.bind_err, runP, sSeq, sNil, sIf, sRet, sRetN, sBreak, sCont, sAsg, inS', outR, opd, frzS, eVar, eC, eBin, tBin, eNeg, eCall, mCons, mNil, keepR, keepRs, rsls, rsl, noNon, toBor, argS, eDef, goodR, lenP, dInt, dBool, rv, rdS, PL.ltP, intCmp, addP, subP, mulP, MulOk.l, MulOk.r, RepOk.of, PowOk.of, DivOk.of, RngOk.of, modP, fdivP, powP, listP, tupleP, intP, maxP, minP, seqS, eIx, isDictR, eIxS, ixP, outR, sApp, sPut, sPutL, eTup, eLst, eSl, mPart, mNoPart, slP, iRange1, iRange2, ints1, intsOf, iSeq, itemsOf, sAsgT, gN, gT, gsCons, gsNil, tOr', tAnd', tNot', tOfB, sFor, sFrz, frzE, atI0, m0, t3] <;> (repeat' (first | with_reducible rfl | apply And.intro))))) ?_
          refine Wp.ok (by (simp -implicitDefEqProofs [Res.bind_ok, Res.bind_bad, Res.bind_err, runP, sSeq, sNil, sIf, sRet, sRetN, sBreak, sCont, sAsg, inS', outR, opd, frzS, eVar, eC, eBin, tBin, eNeg, eCall, mCons, mNil, keepR, keepRs, rsls, rsl, noNon, toBor, argS, eDef, goodR, lenP, dInt, dBool, rv, rdS, PL.ltP, intCmp, addP, subP, mulP, MulOk.l, MulOk.r, RepOk.of, PowOk.of, DivOk.of, RngOk.of, modP, fdivP, powP, listP, tupleP, intP, maxP, minP, seqS, eIx, isDictR, eIxS, ixP, outR, sApp, sPut, sPutL, eTup, eLst, eSl, mPart, mNoPart, slP, iRange1, iRange2, ints1, intsOf, iSeq, itemsOf, sAsgT, gN, gT, gsCons, gsNil, tOr', tAnd', tNot', tOfB, sFor, sFrz, frzE, hmin] <;> (repeat' (first | with_reducible rfl | apply And.intro)))) ?_
          refine ⟨.dat (.int 1), .dat (.int number), .dat (.str (numS ((number : Int) % (md : Int)))), ?_⟩
          simp [wordOf, Opd.str]
        · have k1' : ¬ (kind : Int) = 1 := by omega
          refine wp_seq (wp_ifF' (by (simp -implicitDefEqProofs [Res.bind_ok, Res.bind_bad, Res.bind_err, runP, sSeq, sNil, sIf, sRet, sRetN, sBreak, sCont, sAsg, inS', outR, opd, frzS, eVar, eC, eBin, tBin, eNeg, eCall, mCons, mNil, keepR, keepRs, rsls, rsl, noNon, toBor, argS, eDef, goodR, lenP, dInt, dBool, rv, rdS, PL.ltP, intCmp, addP, subP, mulP, MulOk.l, MulOk.r, RepOk.of, PowOk.of, DivOk.of, RngOk.of, modP, fdivP, powP, listP, tupleP, intP, maxP, minP, seqS, eIx, isDictR, eIxS, ixP, outR, sApp, sPut, sPutL, eTup, eLst, eSl, mPart, mNoPart, slP, iRange1, iRange2, ints1, intsOf, iSeq, itemsOf, sAsgT, gN, gT, gsCons, gsNil, tOr', tAnd', tNot', tOfB, sFor, sFrz, frzE, eqP_int, k1, k1'] <;> (repeat' (first | with_reducible rfl | apply And.intro)))) (by (simp -implicitDefEqProofs [Res.bind_ok, Res.bind_bad, Res.bind_err, runP, sSeq, sNil, sIf, sRet, sRetN, sBreak, sCont, sAsg, inS', outR, opd, frzS, eVar, eC, eBin, tBin, eNeg, eCall, mCons, mNil, keepR, keepRs, rsls, rsl, noNon, toBor, argS, eDef, goodR, lenP, dInt, dBool, rv, rdS, PL.ltP, intCmp, addP, subP, mulP, MulOk.l, MulOk.r, RepOk.of, PowOk.of, DivOk.of, RngOk.of, modP, fdivP, powP, listP, tupleP, intP, maxP, minP, seqS, eIx, isDictR, eIxS, ixP, outR, sApp, sPut, sPutL, eTup, eLst, eSl, mPart, mNoPart, slP, iRange1, iRange2, ints1, intsOf, iSeq, itemsOf, sAsgT, gN, gT, gsCons, gsNil, tOr', tAnd', tNot', tOfB, sFor, sFrz, frzE] <;> (repeat' (first | with_reducible rfl | apply And.intro))))) ?_
          refine Wp.ok (by (simp -implicitDefEqProofs [Res.bind_ok, Res.bind_bad, Res.bind_err, runP, sSeq, sNil, sIf, sRet, sRetN, sBreak, sCont, sAsg, inS', outR, opd, frzS, eVar, eC, eBin, tBin, eNeg, eCall, mCons, mNil, keepR, keepRs, rsls, rsl, noNon, toBor, argS, eDef, goodR, lenP, dInt, dBool, rv, rdS, PL.ltP, intCmp, addP, subP, mulP, MulOk.l, MulOk.r, RepOk.of, PowOk.of, DivOk.of, RngOk.of, modP, fdivP, powP, listP, tupleP, intP, maxP, minP, seqS, eIx, isDictR, eIxS, ixP, outR, sApp, sPut, sPutL, eTup, eLst, eSl, mPart, mNoPart, slP, iRange1, iRange2, ints1, intsOf, iSeq, itemsOf, sAsgT, gN, gT, gsCons, gsNil, tOr', tAnd', tNot', tOfB, sFor, sFrz, frzE, hmin] <;> (repeat' (first | with_reducible rfl | apply And.intro)))) ?_
          refine ⟨.dat (.int kind), .dat (.int number), .dat (.str ("r" ++ numS (((a : Int) + 1 + (number : Int) % 7) % 8))), ?_⟩
          simp [wordOf, Opd.str, k0, k1]
    · rintro ρ ⟨s9, s10, s11, rfl⟩
      have ga := op_at (n := c) (by omega)
      have gb := sg_at (n := b) (by omega)
      have hcl : code.length < sizeLine := size1000 (by omega)
      refine Wp.ok (by (simp -implicitDefEqProofs [Res.bind_ok, Res.bind_bad, Res.bind_err, runP, sSeq, sNil, sIf, sRet, sRetN, sBreak, sCont, sAsg, inS', outR, opd, frzS, eVar, eC, eBin, tBin, eNeg, eCall, mCons, mNil, keepR, keepRs, rsls, rsl, noNon, toBor, argS, eDef, goodR, lenP, dInt, dBool, rv, rdS, PL.ltP, intCmp, addP, subP, mulP, MulOk.l, MulOk.r, RepOk.of, PowOk.of, DivOk.of, RngOk.of, modP, fdivP, powP, listP, tupleP, intP, maxP, minP, seqS, eIx, isDictR, eIxS, ixP, outR, sApp, sPut, sPutL, eTup, eLst, eSl, mPart, mNoPart, slP, iRange1, iRange2, ints1, intsOf, iSeq, itemsOf, sAsgT, gN, gT, gsCons, gsNil, tOr', tAnd', tNot', tOfB, sFor, sFrz, frzE, atI0, atI1, atI2, ga, gb, op_len, sg_len, size640, hcl] <;> (repeat' (first | with_reducible rfl | apply And.intro)))) ?_
      refine ⟨code ++ [⟨a, decide (b = 1), opAt c, wordOf d e a md nx, wordOf f g a md nx⟩], .dat (.int j), .lst (nL [a, b, c, d, e, f, g]), .lst [.str (wordOf d e a md nx).str, .str (wordOf f g a md nx).str], s9, s10, s11, ?_, fun i hi => ?_, by simp; omega⟩
      · simp [cD, Ins.data, sgS, Op3.str, Op3.code]
        by_cases q : b = 1 <;> simp [q]
      · rcases List.mem_append.mp hi with hi | hi
        · exact hok i hi
        · simp at hi
          subst hi
          exact ⟨by show a < 8; omega, wordOf_ok m0 m1 n0 n1, wordOf_ok m0 m1 n0 n1⟩
  · rintro ρ ⟨code, s6, s7, s8, s9, s10, s11, rfl, hok, hle⟩
    refine Wp.ok (by (simp -implicitDefEqProofs [Res.bind_ok, Res.bind_bad, Res.bind_err, runP, sSeq, sNil, sIf, sRet, sRetN, sBreak, sCont, sAsg, inS', outR, opd, frzS, eVar, eC, eBin, tBin, eNeg, eCall, mCons, mNil, keepR, keepRs, rsls, rsl, noNon, toBor, argS, eDef, goodR, lenP, dInt, dBool, rv, rdS, PL.ltP, intCmp, addP, subP, mulP, MulOk.l, MulOk.r, RepOk.of, PowOk.of, DivOk.of, RngOk.of, modP, fdivP, powP, listP, tupleP, intP, maxP, minP, seqS, eIx, isDictR, eIxS, ixP, outR, sApp, sPut, sPutL, eTup, eLst, eSl, mPart, mNoPart, slP, iRange1, iRange2, ints1, intsOf, iSeq, itemsOf, sAsgT, gN, gT, gsCons, gsNil, tOr', tAnd', tNot', tOfB, sFor, sFrz, frzE] <;> (repeat' (first | with_reducible rfl | apply And.intro)))) ?_
    exact ⟨_, rfl, trivial, code, rfl, hok, by simp at hle; omega⟩
end Law
end

section
set_option maxRecDepth 100000
set_option maxHeartbeats 1000000
namespace Law
open PySem L2 PL
theorem neP_self {n : Nat} {d : PyData} (h : Sh n d) (k : n ≤ 64) : neP d d = dBool false := by
  unfold neP
  rw [h.shaped k, eqv_self h]; rfl
theorem rowsOf_map (rws : List (List Int)) : rowsOf (rws.map fun r => .list (r.map PyData.int)) = some rws := by
  induction rws with
  | nil => rfl
  | cons r rws ih => rw [List.map_cons, rowsOf, intsOf_map, ih]
theorem cut_take {xs : List PyData} {n : Nat} : cutD xs none (some (n : Int)) = xs.take n := by
  unfold cutD
  rw [HT.sIx_none, HT.sIx_nat, List.drop_zero, Nat.sub_zero]
  by_cases h : n ≤ xs.length
  · rw [Nat.min_eq_left h]
  · rw [Nat.min_eq_right (by omega), List.take_of_length_le (Nat.le_refl _), List.take_of_length_le (by omega)]
theorem cut_drop1 {xs : List PyData} (h : 1 ≤ xs.length) : cutD xs (some 1) none = xs.drop 1 := by
  unfold cutD
  have := HT.sIx_nat xs.length 0 1
  rw [show ((1 : Nat) : Int) = 1 from rfl, Nat.min_eq_left h] at this
  rw [HT.sIx_none, this, List.take_of_length_le (by simp)]
/-- the rows that are due -/
abbrev rowsD (md : Int) (xs : List Int) (code : List Ins) : List PyData := (List.range (code.length + 1)).map fun k => .list (iL (rowAt md xs code k))
theorem rowsD_eq (md : Int) (xs : List Int) (code : List Ins) : ∃ rs, rowsD md xs code = ((0 :: [0, 0, 0, 0, 0, 0, 0]) :: rs).map fun r : List Int => PyData.list (iL r) := by
  refine ⟨((List.range code.length).map fun k => rowAt md xs code (k + 1)), ?_⟩
  unfold rowsD
  rw [List.range_succ_eq_map, List.map_cons, List.map_map, List.map_cons, List.map_map]
  congr 1
theorem rows_sh {n : Nat} (rs : List (List Int)) : Sh 2 (.list (rs.map fun r : List Int => PyData.list (iL r))) := by
  refine Sh.list fun d hd => ?_
  obtain ⟨r, _, rfl⟩ := List.mem_map.mp hd
  exact Sh.list (Sh.ints r)
theorem v_due {md nx : Nat} {pd : PyData} {code : List Ins} {xs : List Int} {ns : List Int} {i : Int} {s5 s6 s7 : PL.Slot} (hp : PD md nx pd) (hc : ∀ i ∈ code, i.ok nx) (hx : xs.length = nx) (m0 : 0 < md) (m1 : md ≤ 1000) (sx : Sm xs) (hn : code.length ≤ 8) :
    eComp [7] (iRange1 (mCons (eBin addP (eCall lenP (mCons (eVar 3) (mNil))) (eC (.int 1))) (mNil))) (gN 7) (tYes') (eDef false 4 p__law_after (mCons (eVar 2) (mCons (eSl (eVar 3) (mNoPart) (mPart (eVar 7))) (mCons (eVar 4) (mCons (eBin mulP (eLst (mCons (eC (.int 0)) (mNil))) (eC (.int 8))) (mNil))))))
      [.scr ns, .dat (.int i), .dat pd, .lst (cD code), .lst (iL xs), s5, s6, s7] = .ok (.new (.lst (rowsD md xs code))) [.scr ns, .dat (.int i), .dat pd, .lst (cD code), .lst (iL xs), s5, s6, s7] := by
  have r0 : RngOk ((code.length : Int) + 1) := RngOk.succ' (by omega)
  have r1 : ((code.length : Int) + 1).toNat = code.length + 1 := by omega
  rw [eComp_of (ds := (List.range (code.length + 1)).map fun k : Nat => PyData.int (k : Int)) (fun d => match d with | .int i => some (.list (iL (rowAt md xs code i.toNat))) | _ => none) (by (simp -implicitDefEqProofs [Res.bind_ok, Res.bind_bad, Res.bind_err, runP, sSeq, sNil, sIf, sRet, sRetN, sBreak, sCont, sAsg, inS', outR, opd, frzS, eVar, eC, eBin, tBin, eNeg, eCall, mCons, mNil, keepR, keepRs, rsls, rsl, noNon, toBor, argS, eDef, goodR, lenP, dInt, dBool, rv, rdS, PL.ltP, intCmp, addP, subP, mulP, MulOk.l, MulOk.r, RepOk.of, PowOk.of, DivOk.of, RngOk.of, modP, fdivP, powP, listP, tupleP, intP, maxP, minP, seqS, eIx, isDictR, eIxS, ixP, outR, sApp, sPut, sPutL, eTup, eLst, eSl, mPart, mNoPart, slP, iRange1, iRange2, ints1, intsOf, iSeq, itemsOf, sAsgT, gN, gT, gsCons, gsNil, tOr', tAnd', tNot', tOfB, sFor, sFrz, frzE, r0, r1] <;> (repeat' (first | with_reducible rfl | apply And.intro)))) (by simp; exact size640 (by omega)) ?_]
  · congr 3
    rw [List.filterMap_map]
    show List.filterMap (fun k : Nat => some (PyData.list (iL (rowAt md xs code k)))) _ = _
    rw [List.filterMap_eq_map']
  · intro d hd
    obtain ⟨j, hj, rfl⟩ := List.mem_map.mp hd
    have va := v_after (md := md) (nx := nx) (code := code.take j) (s1 := .bor (iL xs)) (rs := zero8) hp (fun i hi => hc i (List.mem_of_mem_take hi)) (.inr rfl) hx rfl (by omega) (by omega) sx z8_sm
    refine ⟨[.scr ns, .dat (.int i), .dat pd, .bor (cD code), .bor (iL xs), toBor s5, toBor s6, .dat (.int j)], true, [.scr ns, .dat (.int i), .dat pd, .bor (cD code), .bor (iL xs), toBor (toBor s5), toBor (toBor s6), .dat (.int j)], by simp -implicitDefEqProofs [Res.bind_ok, Res.bind_bad, Res.bind_err, runP, sSeq, sNil, sIf, sRet, sRetN, sBreak, sCont, sAsg, inS', outR, opd, frzS, eVar, eC, eBin, tBin, eNeg, eCall, mCons, mNil, keepR, keepRs, rsls, rsl, noNon, toBor, argS, eDef, goodR, lenP, dInt, dBool, rv, rdS, PL.ltP, intCmp, addP, subP, mulP, MulOk.l, MulOk.r, RepOk.of, PowOk.of, DivOk.of, RngOk.of, modP, fdivP, powP, listP, tupleP, intP, maxP, minP, seqS, eIx, isDictR, eIxS, ixP, outR, sApp, sPut, sPutL, eTup, eLst, eSl, mPart, mNoPart, slP, iRange1, iRange2, ints1, intsOf, iSeq, itemsOf, sAsgT, gN, gT, gsCons, gsNil, tOr', tAnd', tNot', tOfB, sFor, sFrz, frzE, borE, wipeP], by simp -implicitDefEqProofs [Res.bind_ok, Res.bind_bad, Res.bind_err, runP, sSeq, sNil, sIf, sRet, sRetN, sBreak, sCont, sAsg, inS', outR, opd, frzS, eVar, eC, eBin, tBin, eNeg, eCall, mCons, mNil, keepR, keepRs, rsls, rsl, noNon, toBor, argS, eDef, goodR, lenP, dInt, dBool, rv, rdS, PL.ltP, intCmp, addP, subP, mulP, MulOk.l, MulOk.r, RepOk.of, PowOk.of, DivOk.of, RngOk.of, modP, fdivP, powP, listP, tupleP, intP, maxP, minP, seqS, eIx, isDictR, eIxS, ixP, outR, sApp, sPut, sPutL, eTup, eLst, eSl, mPart, mNoPart, slP, iRange1, iRange2, ints1, intsOf, iSeq, itemsOf, sAsgT, gN, gT, gsCons, gsNil, tOr', tAnd', tNot', tOfB, sFor, sFrz, frzE, borE, tYes'], fun z => (by cases z), fun _ => ?_⟩
    have hct : cutD (cD code) none (some (j : Int)) = cD (code.take j) := by rw [cut_take]; simp [cD]
    simp at va
    refine ⟨.dat (.list (iL (rowAt md xs code j))), [.scr ns, .dat (.int i), .dat pd, .bor (cD code), .bor (iL xs), toBor (toBor s5), toBor (toBor s6), .dat (.int j)], _, by (simp -implicitDefEqProofs [Res.bind_ok, Res.bind_bad, Res.bind_err, runP, sSeq, sNil, sIf, sRet, sRetN, sBreak, sCont, sAsg, inS', outR, opd, frzS, eVar, eC, eBin, tBin, eNeg, eCall, mCons, mNil, keepR, keepRs, rsls, rsl, noNon, toBor, argS, eDef, goodR, lenP, dInt, dBool, rv, rdS, PL.ltP, intCmp, addP, subP, mulP, MulOk.l, MulOk.r, RepOk.of, PowOk.of, DivOk.of, RngOk.of, modP, fdivP, powP, listP, tupleP, intP, maxP, minP, seqS, eIx, isDictR, eIxS, ixP, outR, sApp, sPut, sPutL, eTup, eLst, eSl, mPart, mNoPart, slP, iRange1, iRange2, ints1, intsOf, iSeq, itemsOf, sAsgT, gN, gT, gsCons, gsNil, tOr', tAnd', tNot', tOfB, sFor, sFrz, frzE, borE, hct, va, size640] <;> (repeat' (first | with_reducible rfl | apply And.intro))), rfl, by simp⟩
theorem law_true (ns : List Int) (h : ns.length ≤ 63) : ∃ ρ, p_law [.scr ns] = .ok (.dat (.bool true)) ρ := by
  suffices hh : ∃ r, p_law [.scr ns] = .ok r [] ∧ r = .dat (.bool true) by
    obtain ⟨r, e, rfl⟩ := hh
    exact ⟨_, e⟩
  refine run_ok ?_
  unfold m_law
  obtain ⟨M, hM, hM2⟩ : ∃ M : Nat, iRange1 (mCons (eCall minP (mCons (eC (.int 12)) (mCons (eCall maxP (mCons (eC (.int 1)) (mCons (eBin fdivP (eCall lenP (mCons (eVar 0) (mNil))) (eC (.int 4))) (mNil)))) (mNil)))) (mNil)) [.scr ns, .non, .non, .non, .non, .non, .non, .non]
      = .ok ((List.range M).map fun k : Nat => PyData.int (k : Int)) [.scr ns, .non, .non, .non, .non, .non, .non, .non] ∧ M ≤ 12 := by
    by_cases a : (1 : Int) < (ns.length : Int) / 4
    · by_cases b : (ns.length : Int) / 4 < 12
      · refine ⟨((ns.length : Int) / 4).toNat, ?_, by omega⟩
        simp -implicitDefEqProofs [Res.bind_ok, Res.bind_bad, Res.bind_err, runP, sSeq, sNil, sIf, sRet, sRetN, sBreak, sCont, sAsg, inS', outR, opd, frzS, eVar, eC, eBin, tBin, eNeg, eCall, mCons, mNil, keepR, keepRs, rsls, rsl, noNon, toBor, argS, eDef, goodR, lenP, dInt, dBool, rv, rdS, PL.ltP, intCmp, addP, subP, mulP, MulOk.l, MulOk.r, RepOk.of, PowOk.of, DivOk.of, RngOk.of, modP, fdivP, powP, listP, tupleP, intP, maxP, minP, seqS, eIx, isDictR, eIxS, ixP, outR, sApp, sPut, sPutL, eTup, eLst, eSl, mPart, mNoPart, slP, iRange1, iRange2, ints1, intsOf, iSeq, itemsOf, sAsgT, gN, gT, gsCons, gsNil, tOr', tAnd', tNot', tOfB, sFor, sFrz, frzE, a, b, RngOk.of (j := (ns.length : Int) / 4) (by omega)]
      · refine ⟨12, ?_, by omega⟩
        simp -implicitDefEqProofs [Res.bind_ok, Res.bind_bad, Res.bind_err, runP, sSeq, sNil, sIf, sRet, sRetN, sBreak, sCont, sAsg, inS', outR, opd, frzS, eVar, eC, eBin, tBin, eNeg, eCall, mCons, mNil, keepR, keepRs, rsls, rsl, noNon, toBor, argS, eDef, goodR, lenP, dInt, dBool, rv, rdS, PL.ltP, intCmp, addP, subP, mulP, MulOk.l, MulOk.r, RepOk.of, PowOk.of, DivOk.of, RngOk.of, modP, fdivP, powP, listP, tupleP, intP, maxP, minP, seqS, eIx, isDictR, eIxS, ixP, outR, sApp, sPut, sPutL, eTup, eLst, eSl, mPart, mNoPart, slP, iRange1, iRange2, ints1, intsOf, iSeq, itemsOf, sAsgT, gN, gT, gsCons, gsNil, tOr', tAnd', tNot', tOfB, sFor, sFrz, frzE, a, b]
    · refine ⟨1, ?_, by omega⟩
      simp -implicitDefEqProofs [Res.bind_ok, Res.bind_bad, Res.bind_err, runP, sSeq, sNil, sIf, sRet, sRetN, sBreak, sCont, sAsg, inS', outR, opd, frzS, eVar, eC, eBin, tBin, eNeg, eCall, mCons, mNil, keepR, keepRs, rsls, rsl, noNon, toBor, argS, eDef, goodR, lenP, dInt, dBool, rv, rdS, PL.ltP, intCmp, addP, subP, mulP, MulOk.l, MulOk.r, RepOk.of, PowOk.of, DivOk.of, RngOk.of, modP, fdivP, powP, listP, tupleP, intP, maxP, minP, seqS, eIx, isDictR, eIxS, ixP, outR, sApp, sPut, sPutL, eTup, eLst, eSl, mPart, mNoPart, slP, iRange1, iRange2, ints1, intsOf, iSeq, itemsOf, sAsgT, gN, gT, gsCons, gsNil, tOr', tAnd', tNot', tOfB, sFor, sFrz, frzE, a]
  refine wp_forS (fun k ρ => ∃ s1 s2 s3 s4 s5 s6 s7, ρ = [.scr ns, s1, s2, s3, s4, s5, s6, s7]) hM ⟨_, _, _, _, _, _, _, rfl⟩ ?_ ?_
  · rintro k d ρ hd ⟨s1, s2, s3, s4, s5, s6, s7, rfl⟩
    obtain ⟨hk, rfl⟩ := rng_get hd
    obtain ⟨r, ep, md, nx, ss, outs, rfl, pr⟩ := v_program ns (4 * k) 4 (by omega) (by decide) (by decide)
    obtain ⟨r2, ec, code, rfl, hcode, hcl⟩ := v_random ns (4 * k + 1) (md := md) (nx := nx) (pd := .tuple [.int md, .int nx, .tuple (sD ss), .tuple outs]) (by omega) ⟨_, _, rfl⟩ (by have := pr.m0; omega) (by have := pr.m1; omega) pr.n0 (by have := pr.n1; omega)
    obtain ⟨xs, ei, hxl, hxs⟩ := v_inputs ns (4 * k + 2) (md := md) (nx := nx) (pd := .tuple [.int md, .int nx, .tuple (sD ss), .tuple outs]) (by omega) ⟨_, _, rfl⟩ (by have := pr.m0; omega) (by have := pr.m1; omega) (by have := pr.n1; omega)
    have hpd : PD md nx (.tuple [.int md, .int nx, .tuple (sD ss), .tuple outs]) := ⟨_, _, rfl⟩
    have m0 : 0 < md := by have := pr.m0; omega
    have m1 : md ≤ 1000 := by have := pr.m1; omega
    generalize PyData.tuple [.int md, .int nx, .tuple (sD ss), .tuple outs] = pd at *
    have sx : Sm xs := fun v hv => by have := hxs v hv; omega
    have vd := v_due (ns := ns) (i := (k : Int)) (s5 := s5) (s6 := s6) (s7 := s7) hpd hcode hxl m0 m1 sx hcl
    have vt := v_traced (s1 := .bor (iL xs)) (s0 := .bor (cD code)) hpd hcode rfl (.inr rfl) hxl (by omega) (by omega) sx (by omega)
    change p_traced _ = .ok (.new (.nst (rowsD md xs code))) [] at vt
    simp at ep ec ei
    refine ⟨_, by (simp -implicitDefEqProofs [Res.bind_ok, Res.bind_bad, Res.bind_err, runP, sSeq, sNil, sIf, sRet, sRetN, sBreak, sCont, sAsg, inS', outR, opd, frzS, eVar, eC, eBin, tBin, eNeg, eCall, mCons, mNil, keepR, keepRs, rsls, rsl, noNon, toBor, argS, eDef, goodR, lenP, dInt, dBool, rv, rdS, PL.ltP, intCmp, addP, subP, mulP, MulOk.l, MulOk.r, RepOk.of, PowOk.of, DivOk.of, RngOk.of, modP, fdivP, powP, listP, tupleP, intP, maxP, minP, seqS, eIx, isDictR, eIxS, ixP, outR, sApp, sPut, sPutL, eTup, eLst, eSl, mPart, mNoPart, slP, iRange1, iRange2, ints1, intsOf, iSeq, itemsOf, sAsgT, gN, gT, gsCons, gsNil, tOr', tAnd', tNot', tOfB, sFor, sFrz, frzE] <;> (repeat' (first | with_reducible rfl | apply And.intro))), ?_⟩
    refine wp_seq (by (simp -implicitDefEqProofs [Res.bind_ok, Res.bind_bad, Res.bind_err, runP, sSeq, sNil, sIf, sRet, sRetN, sBreak, sCont, sAsg, inS', outR, opd, frzS, eVar, eC, eBin, tBin, eNeg, eCall, mCons, mNil, keepR, keepRs, rsls, rsl, noNon, toBor, argS, eDef, goodR, lenP, dInt, dBool, rv, rdS, PL.ltP, intCmp, addP, subP, mulP, MulOk.l, MulOk.r, RepOk.of, PowOk.of, DivOk.of, RngOk.of, modP, fdivP, powP, listP, tupleP, intP, maxP, minP, seqS, eIx, isDictR, eIxS, ixP, outR, sApp, sPut, sPutL, eTup, eLst, eSl, mPart, mNoPart, slP, iRange1, iRange2, ints1, intsOf, iSeq, itemsOf, sAsgT, gN, gT, gsCons, gsNil, tOr', tAnd', tNot', tOfB, sFor, sFrz, frzE, ep] <;> (repeat' (first | with_reducible rfl | apply And.intro)))) ?_
    refine wp_seq (by (simp -implicitDefEqProofs [Res.bind_ok, Res.bind_bad, Res.bind_err, runP, sSeq, sNil, sIf, sRet, sRetN, sBreak, sCont, sAsg, inS', outR, opd, frzS, eVar, eC, eBin, tBin, eNeg, eCall, mCons, mNil, keepR, keepRs, rsls, rsl, noNon, toBor, argS, eDef, goodR, lenP, dInt, dBool, rv, rdS, PL.ltP, intCmp, addP, subP, mulP, MulOk.l, MulOk.r, RepOk.of, PowOk.of, DivOk.of, RngOk.of, modP, fdivP, powP, listP, tupleP, intP, maxP, minP, seqS, eIx, isDictR, eIxS, ixP, outR, sApp, sPut, sPutL, eTup, eLst, eSl, mPart, mNoPart, slP, iRange1, iRange2, ints1, intsOf, iSeq, itemsOf, sAsgT, gN, gT, gsCons, gsNil, tOr', tAnd', tNot', tOfB, sFor, sFrz, frzE, ec] <;> (repeat' (first | with_reducible rfl | apply And.intro)))) ?_
    refine wp_seq (by (simp -implicitDefEqProofs [Res.bind_ok, Res.bind_bad, Res.bind_err, runP, sSeq, sNil, sIf, sRet, sRetN, sBreak, sCont, sAsg, inS', outR, opd, frzS, eVar, eC, eBin, tBin, eNeg, eCall, mCons, mNil, keepR, keepRs, rsls, rsl, noNon, toBor, argS, eDef, goodR, lenP, dInt, dBool, rv, rdS, PL.ltP, intCmp, addP, subP, mulP, MulOk.l, MulOk.r, RepOk.of, PowOk.of, DivOk.of, RngOk.of, modP, fdivP, powP, listP, tupleP, intP, maxP, minP, seqS, eIx, isDictR, eIxS, ixP, outR, sApp, sPut, sPutL, eTup, eLst, eSl, mPart, mNoPart, slP, iRange1, iRange2, ints1, intsOf, iSeq, itemsOf, sAsgT, gN, gT, gsCons, gsNil, tOr', tAnd', tNot', tOfB, sFor, sFrz, frzE, ei] <;> (repeat' (first | with_reducible rfl | apply And.intro)))) ?_
    refine wp_seq (ρ' := [.scr ns, .dat (.int k), .dat pd, .lst (cD code), .lst (iL xs), .lst (rowsD md xs code), s6, s7]) (by (simp -implicitDefEqProofs [Res.bind_ok, Res.bind_bad, Res.bind_err, runP, sSeq, sNil, sIf, sRet, sRetN, sBreak, sCont, sAsg, inS', outR, opd, frzS, eVar, eC, eBin, tBin, eNeg, eCall, mCons, mNil, keepR, keepRs, rsls, rsl, noNon, toBor, argS, eDef, goodR, lenP, dInt, dBool, rv, rdS, PL.ltP, intCmp, addP, subP, mulP, MulOk.l, MulOk.r, RepOk.of, PowOk.of, DivOk.of, RngOk.of, modP, fdivP, powP, listP, tupleP, intP, maxP, minP, seqS, eIx, isDictR, eIxS, ixP, outR, sApp, sPut, sPutL, eTup, eLst, eSl, mPart, mNoPart, slP, iRange1, iRange2, ints1, intsOf, iSeq, itemsOf, sAsgT, gN, gT, gsCons, gsNil, tOr', tAnd', tNot', tOfB, sFor, sFrz, frzE, vd] <;> (repeat' (first | with_reducible rfl | apply And.intro)))) ?_
    obtain ⟨rs, ers⟩ := rowsD_eq md xs code
    have hrl : 1 ≤ (rowsD md xs code).length := by simp [rowsD]
    have hsh : Sh 2 (.list (rowsD md xs code)) := by rw [ers]; exact rows_sh (n := 0) _
    have hsh1 : Sh 2 (.list ((rowsD md xs code).tail)) := Sh.list fun d hd => by
      rw [ers] at hd
      obtain ⟨r, _, rfl⟩ := List.mem_map.mp (List.mem_of_mem_tail hd)
      exact Sh.list (Sh.ints r)
    have hro : rowsOf (rowsD md xs code) = some ((0 :: [0, 0, 0, 0, 0, 0, 0]) :: rs) := by rw [ers]; exact rowsOf_map _
    have e1 : eDef false 3 p_traced (mCons (eVar 2) (mCons (eVar 3) (mCons (eVar 4) (mNil)))) (borE [.scr ns, .dat (.int k), .dat pd, .lst (cD code), .lst (iL xs), .lst (rowsD md xs code), s6, s7]) = .ok (.new (.nst (rowsD md xs code))) (borE [.scr ns, .dat (.int k), .dat pd, .lst (cD code), .lst (iL xs), .lst (rowsD md xs code), s6, s7]) := by
      simp -implicitDefEqProofs [Res.bind_ok, Res.bind_bad, Res.bind_err, runP, sSeq, sNil, sIf, sRet, sRetN, sBreak, sCont, sAsg, inS', outR, opd, frzS, eVar, eC, eBin, tBin, eNeg, eCall, mCons, mNil, keepR, keepRs, rsls, rsl, noNon, toBor, argS, eDef, goodR, lenP, dInt, dBool, rv, rdS, PL.ltP, intCmp, addP, subP, mulP, MulOk.l, MulOk.r, RepOk.of, PowOk.of, DivOk.of, RngOk.of, modP, fdivP, powP, listP, tupleP, intP, maxP, minP, seqS, eIx, isDictR, eIxS, ixP, outR, sApp, sPut, sPutL, eTup, eLst, eSl, mPart, mNoPart, slP, iRange1, iRange2, ints1, intsOf, iSeq, itemsOf, sAsgT, gN, gT, gsCons, gsNil, tOr', tAnd', tNot', tOfB, sFor, sFrz, frzE, borE, vt]
    have e2 : ∀ s7 : PL.Slot, tBin neP (eVar 6) (eVar 5) [.scr ns, .dat (.int k), .dat pd, .bor (cD code), .bor (iL xs), .bor (rowsD md xs code), .bor (rowsD md xs code), s7] = .ok false [.scr ns, .dat (.int k), .dat pd, .bor (cD code), .bor (iL xs), .bor (rowsD md xs code), .bor (rowsD md xs code), s7] := fun s7 => by
      simp -implicitDefEqProofs [Res.bind_ok, Res.bind_bad, Res.bind_err, runP, sSeq, sNil, sIf, sRet, sRetN, sBreak, sCont, sAsg, inS', outR, opd, frzS, eVar, eC, eBin, tBin, eNeg, eCall, mCons, mNil, keepR, keepRs, rsls, rsl, noNon, toBor, argS, eDef, goodR, lenP, dInt, dBool, rv, rdS, PL.ltP, intCmp, addP, subP, mulP, MulOk.l, MulOk.r, RepOk.of, PowOk.of, DivOk.of, RngOk.of, modP, fdivP, powP, listP, tupleP, intP, maxP, minP, seqS, eIx, isDictR, eIxS, ixP, outR, sApp, sPut, sPutL, eTup, eLst, eSl, mPart, mNoPart, slP, iRange1, iRange2, ints1, intsOf, iSeq, itemsOf, sAsgT, gN, gT, gsCons, gsNil, tOr', tAnd', tNot', tOfB, sFor, sFrz, frzE, neP_self hsh]
    have hat : atI (rowsD md xs code) 0 = some (.list (iL zero8)) := by rw [ers]; exact atI0
    have e3 : ∀ s7 : PL.Slot, opd (eBin addP (eIx (eIx (eVar 6) (eC (.int 0))) (eC (.int 0))) (eC (.int 1))) [.scr ns, .dat (.int k), .dat pd, .bor (cD code), .bor (iL xs), .bor (rowsD md xs code), .bor (rowsD md xs code), s7] = .ok (.dat (.int 1)) [.scr ns, .dat (.int k), .dat pd, .bor (cD code), .bor (iL xs), .bor (rowsD md xs code), .bor (rowsD md xs code), s7] := fun s7 => by
      simp -implicitDefEqProofs [Res.bind_ok, Res.bind_bad, Res.bind_err, runP, sSeq, sNil, sIf, sRet, sRetN, sBreak, sCont, sAsg, inS', outR, opd, frzS, eVar, eC, eBin, tBin, eNeg, eCall, mCons, mNil, keepR, keepRs, rsls, rsl, noNon, toBor, argS, eDef, goodR, lenP, dInt, dBool, rv, rdS, PL.ltP, intCmp, addP, subP, mulP, MulOk.l, MulOk.r, RepOk.of, PowOk.of, DivOk.of, RngOk.of, modP, fdivP, powP, listP, tupleP, intP, maxP, minP, seqS, eIx, isDictR, eIxS, ixP, outR, sApp, sPut, sPutL, eTup, eLst, eSl, mPart, mNoPart, slP, iRange1, iRange2, ints1, intsOf, iSeq, itemsOf, sAsgT, gN, gT, gsCons, gsNil, tOr', tAnd', tNot', tOfB, sFor, sFrz, frzE, hat, atI0]
    have hs : sNest 6 (eDef false 3 p_traced (mCons (eVar 2) (mCons (eVar 3) (mCons (eVar 4) (mNil))))) (tBin neP (eVar 6) (eVar 5)) (sRet (eC (.bool false))) (eBin addP (eIx (eIx (eVar 6) (eC (.int 0))) (eC (.int 0))) (eC (.int 1)))
        (sIf (tOr' (tBin neP (eSl (eVar 6) (mPart (eC (.int 1))) (mNoPart)) (eSl (eVar 5) (mPart (eC (.int 1))) (mNoPart))) (tBin neP (eDef false 3 p_traced (mCons (eVar 2) (mCons (eVar 3) (mCons (eVar 4) (mNil))))) (eVar 5)))
            (sRet (eC (.bool false)))
            (sNil)) [.scr ns, .dat (.int k), .dat pd, .lst (cD code), .lst (iL xs), .lst (rowsD md xs code), s6, s7] =
        (sIf (tOr' (tBin neP (eSl (eVar 6) (mPart (eC (.int 1))) (mNoPart)) (eSl (eVar 5) (mPart (eC (.int 1))) (mNoPart))) (tBin neP (eDef false 3 p_traced (mCons (eVar 2) (mCons (eVar 3) (mCons (eVar 4) (mNil))))) (eVar 5)))
            (sRet (eC (.bool false)))
            (sNil)) [.scr ns, .dat (.int k), .dat pd, .lst (cD code), .lst (iL xs), .lst (rowsD md xs code), .lst (((1 :: [0, 0, 0, 0, 0, 0, 0]) :: rs).map fun r => .list (r.map PyData.int)), s7] := by
      exact sNest_ok e1 (by show 6 < 8; decide) hro (e2 (toBor s7)) (e3 (toBor s7)) rfl
    rw [hs]
    have cd1 : cutD ((((1 : Int) :: [0, 0, 0, 0, 0, 0, 0]) :: rs).map fun r : List Int => PyData.list (iL r)) (some 1) none = (rowsD md xs code).tail := by
      rw [cut_drop1 (by simp), ers]; rfl
    have cd2 : cutD (rowsD md xs code) (some 1) none = (rowsD md xs code).tail := by rw [cut_drop1 hrl, List.drop_one]
    have tst : tOr' (tBin neP (eSl (eVar 6) (mPart (eC (.int 1))) (mNoPart)) (eSl (eVar 5) (mPart (eC (.int 1))) (mNoPart))) (tBin neP (eDef false 3 p_traced (mCons (eVar 2) (mCons (eVar 3) (mCons (eVar 4) (mNil))))) (eVar 5))
        [.scr ns, .dat (.int k), .dat pd, .lst (cD code), .lst (iL xs), .lst (rowsD md xs code), .lst (((1 :: [0, 0, 0, 0, 0, 0, 0]) :: rs).map fun r => .list (r.map PyData.int)), s7] = .ok false
        [.scr ns, .dat (.int k), .dat pd, .lst (cD code), .lst (iL xs), .lst (rowsD md xs code), .lst (((1 :: [0, 0, 0, 0, 0, 0, 0]) :: rs).map fun r => .list (r.map PyData.int)), s7] := by
      generalize hL : (((1 : Int) :: [0, 0, 0, 0, 0, 0, 0]) :: rs).map (fun r : List Int => PyData.list (iL r)) = L at cd1 ⊢
      change tOr' _ _ [.scr ns, .dat (.int k), .dat pd, .lst (cD code), .lst (iL xs), .lst (rowsD md xs code), .lst L, s7] = .ok false [.scr ns, .dat (.int k), .dat pd, .lst (cD code), .lst (iL xs), .lst (rowsD md xs code), .lst L, s7]
      generalize rowsD md xs code = RD at *
      simp -implicitDefEqProofs [Res.bind_ok, Res.bind_bad, Res.bind_err, runP, sSeq, sNil, sIf, sRet, sRetN, sBreak, sCont, sAsg, inS', outR, opd, frzS, eVar, eC, eBin, tBin, eNeg, eCall, mCons, mNil, keepR, keepRs, rsls, rsl, noNon, toBor, argS, eDef, goodR, lenP, dInt, dBool, rv, rdS, PL.ltP, intCmp, addP, subP, mulP, MulOk.l, MulOk.r, RepOk.of, PowOk.of, DivOk.of, RngOk.of, modP, fdivP, powP, listP, tupleP, intP, maxP, minP, seqS, eIx, isDictR, eIxS, ixP, outR, sApp, sPut, sPutL, eTup, eLst, eSl, mPart, mNoPart, slP, iRange1, iRange2, ints1, intsOf, iSeq, itemsOf, sAsgT, gN, gT, gsCons, gsNil, tOr', tAnd', tNot', tOfB, sFor, sFrz, frzE, cd1, cd2, neP_self hsh1, vt, neP_self hsh]
    refine Wp.ok (wp_ifF' tst rfl) ?_
    exact ⟨_, _, _, _, _, _, _, rfl⟩
  · rintro ρ ⟨s1, s2, s3, s4, s5, s6, s7, rfl⟩
    refine Wp.ok (by (simp -implicitDefEqProofs [Res.bind_ok, Res.bind_bad, Res.bind_err, runP, sSeq, sNil, sIf, sRet, sRetN, sBreak, sCont, sAsg, inS', outR, opd, frzS, eVar, eC, eBin, tBin, eNeg, eCall, mCons, mNil, keepR, keepRs, rsls, rsl, noNon, toBor, argS, eDef, goodR, lenP, dInt, dBool, rv, rdS, PL.ltP, intCmp, addP, subP, mulP, MulOk.l, MulOk.r, RepOk.of, PowOk.of, DivOk.of, RngOk.of, modP, fdivP, powP, listP, tupleP, intP, maxP, minP, seqS, eIx, isDictR, eIxS, ixP, outR, sApp, sPut, sPutL, eTup, eLst, eSl, mPart, mNoPart, slP, iRange1, iRange2, ints1, intsOf, iSeq, itemsOf, sAsgT, gN, gT, gsCons, gsNil, tOr', tAnd', tNot', tOfB, sFor, sFrz, frzE] <;> (repeat' (first | with_reducible rfl | apply And.intro)))) ?_
    exact ⟨_, rfl, trivial, rfl⟩
end Law
end

section
set_option maxRecDepth 100000
set_option maxHeartbeats 2000000
namespace Law
open PySem L2 PL
def topS (i : Nat) : Stmt := PySem.Challenge.pw_tidyback_k48_contents_step_by_step.main.body.getD i (.Pass ⟨0, 0, 0, 0⟩)
abbrev s_source_value : Stmt := topS 2
abbrev s_result_of : Stmt := topS 3
abbrev s_performed : Stmt := topS 4
abbrev s_traced : Stmt := topS 5
abbrev s__law_cell : Stmt := topS 7
abbrev s__law_draw : Stmt := topS 8
abbrev s__law_operand : Stmt := topS 9
abbrev s__law_program : Stmt := topS 10
abbrev s__law_result : Stmt := topS 11
abbrev s__law_value : Stmt := topS 12
abbrev s__law_inputs : Stmt := topS 13
abbrev s__law_after : Stmt := topS 14
abbrev s__law_random : Stmt := topS 15
abbrev s_law : Stmt := topS 16
/-- what the top has written -/
structure Txt (K : PySem.W.Frag) (mg : Str → Option Value) (a : Nat → Addr) (fd : Nat → FuncData) : Prop where
  F0 : Fun K "source_value" "source_value" s_source_value (a 0) (fd 0)
  g0 : mg "source_value" = some (.ref (a 0))
  b0 : Binds K (fd 0) ["source", "inputs", "registers"] []
  F1 : Fun K "result_of" "result_of" s_result_of (a 1) (fd 1)
  g1 : mg "result_of" = some (.ref (a 1))
  b1 : Binds K (fd 1) ["operation", "left", "right"] []
  F2 : Fun K "performed" "performed" s_performed (a 2) (fd 2)
  g2 : mg "performed" = some (.ref (a 2))
  b2 : Binds K (fd 2) ["program", "instruction", "inputs", "registers"] []
  F3 : Fun K "traced" "traced" s_traced (a 3) (fd 3)
  g3 : mg "traced" = some (.ref (a 3))
  b3 : Binds K (fd 3) ["program", "code", "inputs"] []
  F4 : Fun K "_law_cell" "_law_cell" s__law_cell (a 4) (fd 4)
  g4 : mg "_law_cell" = some (.ref (a 4))
  b4 : Binds K (fd 4) ["_law_script", "_law_k"] []
  F5 : Fun K "_law_draw" "_law_draw" s__law_draw (a 5) (fd 5)
  g5 : mg "_law_draw" = some (.ref (a 5))
  b5 : Binds K (fd 5) ["_law_script", "_law_k", "_law_sizes"] []
  F6 : Fun K "_law_operand" "_law_operand" s__law_operand (a 6) (fd 6)
  g6 : mg "_law_operand" = some (.ref (a 6))
  b6 : Binds K (fd 6) ["_law_kind", "_law_number", "_law_modulus", "_law_inputs_here", "_law_many"] []
  F7 : Fun K "_law_program" "_law_program" s__law_program (a 7) (fd 7)
  g7 : mg "_law_program" = some (.ref (a 7))
  b7 : Binds K (fd 7) ["_law_script", "_law_k", "_law_most"] []
  F8 : Fun K "_law_result" "_law_result" s__law_result (a 8) (fd 8)
  g8 : mg "_law_result" = some (.ref (a 8))
  b8 : Binds K (fd 8) ["_law_operation", "_law_left", "_law_right", "_law_modulus"] []
  F9 : Fun K "_law_value" "_law_value" s__law_value (a 9) (fd 9)
  g9 : mg "_law_value" = some (.ref (a 9))
  b9 : Binds K (fd 9) ["_law_word", "_law_inputs_here", "_law_others"] []
  F10 : Fun K "_law_inputs" "_law_inputs" s__law_inputs (a 10) (fd 10)
  g10 : mg "_law_inputs" = some (.ref (a 10))
  b10 : Binds K (fd 10) ["_law_script", "_law_k", "_law_program_here"] []
  F11 : Fun K "_law_after" "_law_after" s__law_after (a 11) (fd 11)
  g11 : mg "_law_after" = some (.ref (a 11))
  b11 : Binds K (fd 11) ["_law_program_here", "_law_code", "_law_inputs_here", "_law_registers"] []
  F12 : Fun K "_law_random" "_law_random" s__law_random (a 12) (fd 12)
  g12 : mg "_law_random" = some (.ref (a 12))
  b12 : Binds K (fd 12) ["_law_script", "_law_k", "_law_program_here", "_law_most"] []
  F13 : Fun K "law" "law" s_law (a 13) (fd 13)
  g13 : mg "law" = some (.ref (a 13))
  b13 : Binds K (fd 13) ["_law_script"] []
  n_int : mg "int" = none
  n_len : mg "len" = none
  n_list : mg "list" = none
  n_max : mg "max" = none
  n_min : mg "min" = none
  n_range : mg "range" = none
  n_str : mg "str" = none
  n_tuple : mg "tuple" = none
  c_REGISTERS : ∃ t, mg "REGISTERS" = some (.int 8 t)
/-! source_value -/
theorem sc_source_value : FnScope N_source_value ["source", "inputs", "registers"] (defScope s_source_value) := ⟨rfl, rfl, rfl, by decide +kernel, rfl, by decide +kernel, by decide +kernel⟩
theorem ok_source_value {P : Program} {w : World} {K : PySem.W.Frag} {mg : Str → Option Value} {base : Heap} {a : Nat → Addr} {fd : Nat → FuncData} (T : Txt K mg a fd) : FnOk P w K mg base CX0 1 (a 0) (fd 0) ["source", "inputs", "registers"] (spP false K mg 3 p_source_value) :=
  fn_ok T.F0 sc_source_value (by decide) fun cdv A outer s H E hr =>
    pss_cons' (ps_if' (pxt_cmp (op_eqG (hu65 hr)) (px_ix hr (px_var (i := 0)) (px_int)) (px_str))
      (pss_one' (ps_ret' (px_ix hr (px_var (i := 1)) (px_callTy intG T.n_int bt_int (pxa_cons (px_slice (px_var (i := 0)) (pxo_some (px_int)) (pxo_none)) (pxa_nil))))))
      (pss_nil'))
    (pss_cons' (ps_if' (pxt_cmp (op_eqG (hu65 hr)) (px_ix hr (px_var (i := 0)) (px_int)) (px_str))
      (pss_one' (ps_ret' (px_ix hr (px_var (i := 2)) (px_callTy intG T.n_int bt_int (pxa_cons (px_slice (px_var (i := 0)) (pxo_some (px_int)) (pxo_none)) (pxa_nil))))))
      (pss_nil'))
    (pss_one' (ps_ret' (px_callTy intG T.n_int bt_int (pxa_cons (px_var (i := 0)) (pxa_nil))))))
/-! result_of -/
theorem sc_result_of : FnScope N_result_of ["operation", "left", "right"] (defScope s_result_of) := ⟨rfl, rfl, rfl, by decide +kernel, rfl, by decide +kernel, by decide +kernel⟩
theorem ok_result_of {P : Program} {w : World} {K : PySem.W.Frag} {mg : Str → Option Value} {base : Heap} {a : Nat → Addr} {fd : Nat → FuncData} (T : Txt K mg a fd) : FnOk P w K mg base CX0 1 (a 1) (fd 1) ["operation", "left", "right"] (spP false K mg 3 p_result_of) :=
  fn_ok T.F1 sc_result_of (by decide) fun cdv A outer s H E hr =>
    pss_cons' (ps_if' (pxt_cmp (op_eqG (hu65 hr)) (px_var (i := 0)) (px_str))
      (pss_one' (ps_ret' (px_bin op_addG (px_var (i := 1)) (px_var (i := 2)))))
      (pss_nil'))
    (pss_cons' (ps_if' (pxt_cmp (op_eqG (hu65 hr)) (px_var (i := 0)) (px_str))
      (pss_one' (ps_ret' (px_bin op_subG (px_var (i := 1)) (px_var (i := 2)))))
      (pss_nil'))
    (pss_one' (ps_ret' (px_bin op_mulG (px_var (i := 1)) (px_var (i := 2))))))
/-! performed -/
theorem sc_performed : FnScope N_performed ["program", "instruction", "inputs", "registers"] (defScope s_performed) := ⟨rfl, rfl, rfl, by decide +kernel, rfl, by decide +kernel, by decide +kernel⟩
theorem ok_performed {P : Program} {w : World} {K : PySem.W.Frag} {mg : Str → Option Value} {base : Heap} {a : Nat → Addr} {fd : Nat → FuncData} (T : Txt K mg a fd) : FnOk P w K mg base CX0 2 (a 2) (fd 2) ["program", "instruction", "inputs", "registers"] (spP false K mg 4 p_performed) :=
  fn_ok T.F2 sc_performed (by decide) fun cdv A outer s H E hr =>
    pss_cons' (ps_asgT (px_var (i := 1)) (pgx_tup rfl (pgsx_cons (pgx_name (i := 4) sc_performed.nd) (pgsx_cons (pgx_name (i := 5) sc_performed.nd) (pgsx_cons (pgx_name (i := 6) sc_performed.nd) (pgsx_cons (pgx_name (i := 7) sc_performed.nd) (pgsx_cons (pgx_name (i := 8) sc_performed.nd) (pgsx_nil))))))))
    (pss_cons' (ps_asg' (i := 9) sc_performed.nd (px_call (ok_result_of T) (hr.mono (by decide)) T.g1 T.F1.kp T.b1 pass0 (pxa_cons (px_var (i := 6)) (pxa_cons (px_call (ok_source_value T) (hr.mono (by decide)) T.g0 T.F0.kp T.b0 pass0 (pxa_cons (px_var (i := 7)) (pxa_cons (px_var (i := 2)) (pxa_cons (px_var (i := 3)) (pxa_nil))))) (pxa_cons (px_call (ok_source_value T) (hr.mono (by decide)) T.g0 T.F0.kp T.b0 pass0 (pxa_cons (px_var (i := 8)) (pxa_cons (px_var (i := 2)) (pxa_cons (px_var (i := 3)) (pxa_nil))))) (pxa_nil))))))
    (pss_cons' (ps_asg' (i := 10) sc_performed.nd (px_callTy listG T.n_list bt_list (pxa_cons (px_var (i := 3)) (pxa_nil))))
    (pss_cons' (ps_if' (pxt_cmp (op_eqG (hu65 hr)) (px_var (i := 5)) (px_str))
      (pss_one' (ps_put hr (j := 10) (px_bin op_modG (px_bin op_addG (px_ix hr (px_var (i := 10)) (px_var (i := 4))) (px_var (i := 9))) (px_ix hr (px_var (i := 0)) (px_int))) (px_var (i := 4))))
      (pss_one' (ps_put hr (j := 10) (px_bin op_modG (px_bin op_subG (px_ix hr (px_var (i := 10)) (px_var (i := 4))) (px_var (i := 9))) (px_ix hr (px_var (i := 0)) (px_int))) (px_var (i := 4)))))
    (pss_one' (ps_ret' (px_var (i := 10)))))))
/-! traced -/
theorem sc_traced : FnScope N_traced ["program", "code", "inputs"] (defScope s_traced) := ⟨rfl, rfl, rfl, by decide +kernel, rfl, by decide +kernel, by decide +kernel⟩
theorem ok_traced {P : Program} {w : World} {K : PySem.W.Frag} {mg : Str → Option Value} {base : Heap} {a : Nat → Addr} {fd : Nat → FuncData} (T : Txt K mg a fd) : FnOk P w K mg base CX0 3 (a 3) (fd 3) ["program", "code", "inputs"] (spP false K mg 3 p_traced) :=
  fn_ok T.F3 sc_traced (by decide) fun cdv A outer s H E hr =>
    pss_cons' (ps_asg' (i := 3) sc_traced.nd (px_lstN (px_bin op_mulG (px_lst (pxa_cons (px_int) (pxa_nil))) (px_globI T.c_REGISTERS))))
    (pss_cons' (ps_for' PassesOwn.never rfl (pix_seq (px_var (i := 1))) (pgx_name (i := 4) sc_traced.nd)
      (pss_one' (ps_appN (j := 3) (px_call (ok_performed T) (hr.mono (by decide)) T.g2 T.F2.kp T.b2 pass0 (pxa_cons (px_var (i := 0)) (pxa_cons (px_var (i := 4)) (pxa_cons (px_var (i := 2)) (pxa_cons (px_ix hr (px_var (i := 3)) (px_neg (px_int))) (pxa_nil)))))))))
    (pss_one' (ps_ret' (px_var (i := 3)))))
/-! _law_cell -/
theorem sc__law_cell : FnScope N__law_cell ["_law_script", "_law_k"] (defScope s__law_cell) := ⟨rfl, rfl, rfl, by decide +kernel, rfl, by decide +kernel, by decide +kernel⟩
theorem ok__law_cell {P : Program} {w : World} {K : PySem.W.Frag} {mg : Str → Option Value} {base : Heap} {a : Nat → Addr} {fd : Nat → FuncData} (T : Txt K mg a fd) : FnOk P w K mg base CX0 1 (a 4) (fd 4) ["_law_script", "_law_k"] (spP false K mg 2 p__law_cell) :=
  fn_ok T.F4 sc__law_cell (by decide) fun cdv A outer s H E hr =>
    pss_cons' (ps_if' (pxt_cmp (op_ltG hr.units0) (px_var (i := 1)) (px_callB lenG T.n_len bt_len (pxa_cons (px_var (i := 0)) (pxa_nil))))
      (pss_one' (ps_ret' (px_ix hr (px_var (i := 0)) (px_var (i := 1)))))
      (pss_nil'))
    (pss_one' (ps_ret' (px_int)))
/-! _law_draw -/
theorem sc__law_draw : FnScope N__law_draw ["_law_script", "_law_k", "_law_sizes"] (defScope s__law_draw) := ⟨rfl, rfl, rfl, by decide +kernel, rfl, by decide +kernel, by decide +kernel⟩
theorem ok__law_draw {P : Program} {w : World} {K : PySem.W.Frag} {mg : Str → Option Value} {base : Heap} {a : Nat → Addr} {fd : Nat → FuncData} (T : Txt K mg a fd) : FnOk P w K mg base CX0 2 (a 5) (fd 5) ["_law_script", "_law_k", "_law_sizes"] (spP false K mg 3 p__law_draw) :=
  fn_ok T.F5 sc__law_draw (by decide) fun cdv A outer s H E hr =>
    pss_cons' (ps_asg' (i := 3) sc__law_draw.nd (px_call (ok__law_cell T) (hr.mono (by decide)) T.g4 T.F4.kp T.b4 pass0 (pxa_cons (px_var (i := 0)) (pxa_cons (px_var (i := 1)) (pxa_nil)))))
    (pss_cons' (ps_if' (pxt_cmp (op_ltG hr.units0) (px_var (i := 3)) (px_int))
      (pss_one' (ps_asg' (i := 3) sc__law_draw.nd (px_neg (px_var (i := 3)))))
      (pss_nil'))
    (pss_cons' (ps_asg' (i := 4) sc__law_draw.nd (px_lst (pxa_nil)))
    (pss_cons' (ps_if' (pxt_cmp op_geG (px_var (i := 3)) (px_bin op_powG (px_int) (px_int)))
      (pss_cons' (ps_asg' (i := 3) sc__law_draw.nd (px_bin op_subG (px_var (i := 3)) (px_bin op_powG (px_int) (px_int))))
        (pss_cons' (ps_for' PassesOwn.never rfl (pix_seq (px_var (i := 2))) (pgx_name (i := 5) sc__law_draw.nd)
          (pss_cons' (ps_app (j := 4) (px_bin op_modG (px_var (i := 3)) (px_var (i := 5))))
            (pss_one' (ps_asg' (i := 3) sc__law_draw.nd (px_bin op_fdivG (px_var (i := 3)) (px_var (i := 5)))))))
        (pss_one' (ps_ret' (px_var (i := 4))))))
      (pss_nil'))
    (pss_cons' (ps_asg' (i := 6) sc__law_draw.nd (px_bin op_modG (px_bin op_addG (px_bin op_addG (px_var (i := 3)) (px_int)) (px_bin op_mulG (px_int) (px_var (i := 1)))) (px_int)))
    (pss_cons' (ps_for' PassesOwn.never rfl (pix_range1 (pxa_cons (px_callB lenG T.n_len bt_len (pxa_cons (px_var (i := 2)) (pxa_nil))) (pxa_nil)) T.n_range) (pgx_name (i := 7) sc__law_draw.nd)
      (pss_cons' (ps_asg' (i := 6) sc__law_draw.nd (px_bin op_modG (px_bin op_addG (px_bin op_addG (px_bin op_mulG (px_var (i := 6)) (px_int)) (px_int)) (px_var (i := 7))) (px_int)))
        (pss_cons' (ps_asg' (i := 6) sc__law_draw.nd (px_bin op_modG (px_bin op_addG (px_bin op_mulG (px_var (i := 6)) (px_int)) (px_int)) (px_int)))
        (pss_one' (ps_app (j := 4) (px_bin op_modG (px_bin op_fdivG (px_var (i := 6)) (px_int)) (px_ix hr (px_var (i := 2)) (px_var (i := 7)))))))))
    (pss_one' (ps_ret' (px_var (i := 4)))))))))
/-! _law_operand -/
theorem sc__law_operand : FnScope N__law_operand ["_law_kind", "_law_number", "_law_modulus", "_law_inputs_here", "_law_many"] (defScope s__law_operand) := ⟨rfl, rfl, rfl, by decide +kernel, rfl, by decide +kernel, by decide +kernel⟩
theorem ok__law_operand {P : Program} {w : World} {K : PySem.W.Frag} {mg : Str → Option Value} {base : Heap} {a : Nat → Addr} {fd : Nat → FuncData} (T : Txt K mg a fd) : FnOk P w K mg base CX0 1 (a 6) (fd 6) ["_law_kind", "_law_number", "_law_modulus", "_law_inputs_here", "_law_many"] (spP false K mg 5 p__law_operand) :=
  fn_ok T.F6 sc__law_operand (by decide) fun cdv A outer s H E hr =>
    pss_cons' (ps_if' (pxt_cmp (op_eqG (hu65 hr)) (px_var (i := 0)) (px_int))
      (pss_one' (ps_ret' (px_bin op_addG (px_str) (px_callTy strG T.n_str bt_str (pxa_cons (px_bin op_modG (px_var (i := 1)) (px_var (i := 3))) (pxa_nil))))))
      (pss_nil'))
    (pss_cons' (ps_if' ((pxw_or (pxt_cmp (op_eqG (hu65 hr)) (px_var (i := 0)) (px_int)) (pxw_or1 (pxt_cmp (op_eqG (hu65 hr)) (px_var (i := 4)) (px_int)))).pxt)
      (pss_one' (ps_ret' (px_callTy strG T.n_str bt_str (pxa_cons (px_bin op_modG (px_var (i := 1)) (px_var (i := 2))) (pxa_nil)))))
      (pss_nil'))
    (pss_one' (ps_ret' (px_bin op_addG (px_str) (px_callTy strG T.n_str bt_str (pxa_cons (px_bin op_subG (px_bin op_subG (px_var (i := 4)) (px_int)) (px_bin op_modG (px_var (i := 1)) (px_var (i := 4)))) (pxa_nil)))))))
/-! _law_program -/
theorem sc__law_program : FnScope N__law_program ["_law_script", "_law_k", "_law_most"] (defScope s__law_program) := ⟨rfl, rfl, rfl, by decide +kernel, rfl, by decide +kernel, by decide +kernel⟩
theorem ok__law_program {P : Program} {w : World} {K : PySem.W.Frag} {mg : Str → Option Value} {base : Heap} {a : Nat → Addr} {fd : Nat → FuncData} (T : Txt K mg a fd) : FnOk P w K mg base CX0 3 (a 7) (fd 7) ["_law_script", "_law_k", "_law_most"] (spP false K mg 3 p__law_program) :=
  fn_ok T.F7 sc__law_program (by decide) fun cdv A outer s H E hr =>
    pss_cons' (ps_asg' (i := 3) sc__law_program.nd (px_call (ok__law_draw T) (hr.mono (by decide)) T.g5 T.F5.kp T.b5 pass0 (pxa_cons (px_var (i := 0)) (pxa_cons (px_var (i := 1)) (pxa_cons (px_bin op_addG (px_bin op_addG (px_lst (pxa_cons (px_int) (pxa_cons (px_int) (pxa_cons (px_var (i := 2)) (pxa_nil))))) (px_bin op_mulG (px_lst (pxa_cons (px_int) (pxa_cons (px_int) (pxa_cons (px_int) (pxa_cons (px_int) (pxa_cons (px_int) (pxa_nil))))))) (px_int))) (px_bin op_mulG (px_lst (pxa_cons (px_int) (pxa_nil))) (px_int))) (pxa_nil))))))
    (pss_cons' (ps_asg' (i := 4) sc__law_program.nd (px_bin op_addG (px_int) (px_ix hr (px_var (i := 3)) (px_int))))
    (pss_cons' (ps_asg' (i := 5) sc__law_program.nd (px_bin op_addG (px_int) (px_ix hr (px_var (i := 3)) (px_int))))
    (pss_cons' (ps_asg' (i := 6) sc__law_program.nd (px_lst (pxa_nil)))
    (pss_cons' (ps_for' PassesOwn.never rfl (pix_range1 (pxa_cons (px_bin op_addG (px_int) (px_ix hr (px_var (i := 3)) (px_int))) (pxa_nil)) T.n_range) (pgx_name (i := 7) sc__law_program.nd)
      (pss_cons' (ps_asg' (i := 8) sc__law_program.nd (px_slice (px_var (i := 3)) (pxo_some (px_bin op_addG (px_int) (px_bin op_mulG (px_int) (px_var (i := 7))))) (pxo_some (px_bin op_addG (px_int) (px_bin op_mulG (px_int) (px_var (i := 7)))))))
        (pss_cons' (ps_asg' (i := 9) sc__law_program.nd (px_call (ok__law_operand T) (hr.mono (by decide)) T.g6 T.F6.kp T.b6 pass0 (pxa_cons (px_ix hr (px_var (i := 8)) (px_int)) (pxa_cons (px_ix hr (px_var (i := 8)) (px_int)) (pxa_cons (px_var (i := 4)) (pxa_cons (px_var (i := 5)) (pxa_cons (px_callB lenG T.n_len bt_len (pxa_cons (px_var (i := 6)) (pxa_nil))) (pxa_nil))))))))
        (pss_cons' (ps_asg' (i := 10) sc__law_program.nd (px_call (ok__law_operand T) (hr.mono (by decide)) T.g6 T.F6.kp T.b6 pass0 (pxa_cons (px_ix hr (px_var (i := 8)) (px_int)) (pxa_cons (px_ix hr (px_var (i := 8)) (px_int)) (pxa_cons (px_var (i := 4)) (pxa_cons (px_var (i := 5)) (pxa_cons (px_callB lenG T.n_len bt_len (pxa_cons (px_var (i := 6)) (pxa_nil))) (pxa_nil))))))))
        (pss_one' (ps_if' (pxt_notin hr (px_tup (pxa_cons (px_ix hr (px_str) (px_ix hr (px_var (i := 8)) (px_int))) (pxa_cons (px_var (i := 9)) (pxa_cons (px_var (i := 10)) (pxa_nil))))) (px_var (i := 6)))
          (pss_one' (ps_app (j := 6) (px_tup (pxa_cons (px_ix hr (px_str) (px_ix hr (px_var (i := 8)) (px_int))) (pxa_cons (px_var (i := 9)) (pxa_cons (px_var (i := 10)) (pxa_nil)))))))
          (pss_nil')))))))
    (pss_cons' (ps_setComp (i := 11) (own := [("_law_j", 7)]) rfl sc__law_program.nd (blkOk_by (N := N__law_program) (sc := defScope s__law_program) (by decide +kernel)) (pix_range1 (pxa_cons (px_callB lenG T.n_len bt_len (pxa_cons (px_var (i := 6)) (pxa_nil))) (pxa_nil)) T.n_range) (fun _ _ _ _ _ => pgx_name (i := 7) sc__law_program.nd) (fun _ _ _ _ _ => pts_one' (pxt_cmp (op_eqG (hu65 hr)) (px_ix hr (px_var (i := 3)) (px_bin op_addG (px_int) (px_var (i := 7)))) (px_int))) (fun _ _ _ _ _ => px_var (i := 7)) rfl (sw_true rfl rfl rfl (by decide +kernel)))
    (pss_cons' (ps_if' (pxt_notin hr (px_bin op_subG (px_callB lenG T.n_len bt_len (pxa_cons (px_var (i := 6)) (pxa_nil))) (px_int)) (px_var (i := 11)))
      (pss_one' (ps_app (j := 11) (px_bin op_subG (px_callB lenG T.n_len bt_len (pxa_cons (px_var (i := 6)) (pxa_nil))) (px_int))))
      (pss_nil'))
    (pss_one' (ps_frz (j := 5) (ps_frz (j := 4) (ps_ret' (px_tup (pxa_cons (px_var (i := 4)) (pxa_cons (px_var (i := 5)) (pxa_cons (px_callTy tupleG T.n_tuple bt_tuple (pxa_cons (px_var (i := 6)) (pxa_nil))) (pxa_cons (px_callTy tupleG T.n_tuple bt_tuple (pxa_cons (px_var (i := 11)) (pxa_nil))) (pxa_nil))))))))))))))))
/-! _law_result -/
theorem sc__law_result : FnScope N__law_result ["_law_operation", "_law_left", "_law_right", "_law_modulus"] (defScope s__law_result) := ⟨rfl, rfl, rfl, by decide +kernel, rfl, by decide +kernel, by decide +kernel⟩
theorem ok__law_result {P : Program} {w : World} {K : PySem.W.Frag} {mg : Str → Option Value} {base : Heap} {a : Nat → Addr} {fd : Nat → FuncData} (T : Txt K mg a fd) : FnOk P w K mg base CX0 1 (a 8) (fd 8) ["_law_operation", "_law_left", "_law_right", "_law_modulus"] (spP false K mg 4 p__law_result) :=
  fn_ok T.F8 sc__law_result (by decide) fun cdv A outer s H E hr =>
    pss_cons' (ps_if' (pxt_cmp (op_eqG (hu65 hr)) (px_var (i := 0)) (px_str))
      (pss_one' (ps_ret' (px_bin op_modG (px_bin op_addG (px_var (i := 1)) (px_var (i := 2))) (px_var (i := 3)))))
      (pss_nil'))
    (pss_cons' (ps_if' (pxt_cmp (op_eqG (hu65 hr)) (px_var (i := 0)) (px_str))
      (pss_one' (ps_ret' (px_bin op_modG (px_bin op_subG (px_var (i := 1)) (px_var (i := 2))) (px_var (i := 3)))))
      (pss_nil'))
    (pss_one' (ps_ret' (px_bin op_modG (px_bin op_mulG (px_var (i := 1)) (px_var (i := 2))) (px_var (i := 3))))))
/-! _law_value -/
theorem sc__law_value : FnScope N__law_value ["_law_word", "_law_inputs_here", "_law_others"] (defScope s__law_value) := ⟨rfl, rfl, rfl, by decide +kernel, rfl, by decide +kernel, by decide +kernel⟩
theorem ok__law_value {P : Program} {w : World} {K : PySem.W.Frag} {mg : Str → Option Value} {base : Heap} {a : Nat → Addr} {fd : Nat → FuncData} (T : Txt K mg a fd) : FnOk P w K mg base CX0 1 (a 9) (fd 9) ["_law_word", "_law_inputs_here", "_law_others"] (spP false K mg 3 p__law_value) :=
  fn_ok T.F9 sc__law_value (by decide) fun cdv A outer s H E hr =>
    pss_cons' (ps_if' (pxt_cmp (op_eqG (hu65 hr)) (px_ix hr (px_var (i := 0)) (px_int)) (px_str))
      (pss_one' (ps_ret' (px_ix hr (px_var (i := 1)) (px_callTy intG T.n_int bt_int (pxa_cons (px_slice (px_var (i := 0)) (pxo_some (px_int)) (pxo_none)) (pxa_nil))))))
      (pss_nil'))
    (pss_cons' (ps_if' ((pxw_or (pxt_cmp (op_eqG (hu65 hr)) (px_ix hr (px_var (i := 0)) (px_int)) (px_str)) (pxw_or1 (pxt_cmp (op_eqG (hu65 hr)) (px_ix hr (px_var (i := 0)) (px_int)) (px_str)))).pxt)
      (pss_one' (ps_ret' (px_ix hr (px_var (i := 2)) (px_callTy intG T.n_int bt_int (pxa_cons (px_slice (px_var (i := 0)) (pxo_some (px_int)) (pxo_none)) (pxa_nil))))))
      (pss_nil'))
    (pss_one' (ps_ret' (px_callTy intG T.n_int bt_int (pxa_cons (px_var (i := 0)) (pxa_nil))))))
/-! _law_inputs -/
theorem sc__law_inputs : FnScope N__law_inputs ["_law_script", "_law_k", "_law_program_here"] (defScope s__law_inputs) := ⟨rfl, rfl, rfl, by decide +kernel, rfl, by decide +kernel, by decide +kernel⟩
theorem ok__law_inputs {P : Program} {w : World} {K : PySem.W.Frag} {mg : Str → Option Value} {base : Heap} {a : Nat → Addr} {fd : Nat → FuncData} (T : Txt K mg a fd) : FnOk P w K mg base CX0 3 (a 10) (fd 10) ["_law_script", "_law_k", "_law_program_here"] (spP false K mg 3 p__law_inputs) :=
  fn_ok T.F10 sc__law_inputs (by decide) fun cdv A outer s H E hr =>
    pss_cons' (ps_asg' (i := 3) sc__law_inputs.nd (px_call (ok__law_draw T) (hr.mono (by decide)) T.g5 T.F5.kp T.b5 pass0 (pxa_cons (px_var (i := 0)) (pxa_cons (px_var (i := 1)) (pxa_cons (px_bin op_mulG (px_lst (pxa_cons (px_ix hr (px_var (i := 2)) (px_int)) (pxa_nil))) (px_ix hr (px_var (i := 2)) (px_int))) (pxa_nil))))))
    (pss_one' (ps_ret' (px_callTy listG T.n_list bt_list (pxa_cons (px_var (i := 3)) (pxa_nil)))))
/-! _law_after -/
theorem sc__law_after : FnScope N__law_after ["_law_program_here", "_law_code", "_law_inputs_here", "_law_registers"] (defScope s__law_after) := ⟨rfl, rfl, rfl, by decide +kernel, rfl, by decide +kernel, by decide +kernel⟩
theorem ok__law_after {P : Program} {w : World} {K : PySem.W.Frag} {mg : Str → Option Value} {base : Heap} {a : Nat → Addr} {fd : Nat → FuncData} (T : Txt K mg a fd) : FnOk P w K mg base CX0 2 (a 11) (fd 11) ["_law_program_here", "_law_code", "_law_inputs_here", "_law_registers"] (spP false K mg 4 p__law_after) :=
  fn_ok T.F11 sc__law_after (by decide) fun cdv A outer s H E hr =>
    pss_cons' (ps_asg' (i := 4) sc__law_after.nd (px_callTy listG T.n_list bt_list (pxa_cons (px_var (i := 3)) (pxa_nil))))
    (pss_cons' (ps_for' PassesOwn.never rfl (pix_seq (px_var (i := 1))) (pgx_tup rfl (pgsx_cons (pgx_name (i := 5) sc__law_after.nd) (pgsx_cons (pgx_name (i := 6) sc__law_after.nd) (pgsx_cons (pgx_name (i := 7) sc__law_after.nd) (pgsx_cons (pgx_name (i := 8) sc__law_after.nd) (pgsx_cons (pgx_name (i := 9) sc__law_after.nd) (pgsx_nil)))))))
      (pss_cons' (ps_asg' (i := 10) sc__law_after.nd (px_call (ok__law_result T) (hr.mono (by decide)) T.g8 T.F8.kp T.b8 pass0 (pxa_cons (px_var (i := 7)) (pxa_cons (px_call (ok__law_value T) (hr.mono (by decide)) T.g9 T.F9.kp T.b9 pass0 (pxa_cons (px_var (i := 8)) (pxa_cons (px_var (i := 2)) (pxa_cons (px_var (i := 4)) (pxa_nil))))) (pxa_cons (px_call (ok__law_value T) (hr.mono (by decide)) T.g9 T.F9.kp T.b9 pass0 (pxa_cons (px_var (i := 9)) (pxa_cons (px_var (i := 2)) (pxa_cons (px_var (i := 4)) (pxa_nil))))) (pxa_cons (px_ix hr (px_var (i := 0)) (px_int)) (pxa_nil)))))))
        (pss_cons' (ps_if' (pxt_cmp (op_eqG (hu65 hr)) (px_var (i := 6)) (px_str))
          (pss_one' (ps_asg' (i := 10) sc__law_after.nd (px_neg (px_var (i := 10)))))
          (pss_nil'))
        (pss_one' (ps_put hr (j := 4) (px_bin op_modG (px_bin op_addG (px_ix hr (px_var (i := 4)) (px_var (i := 5))) (px_var (i := 10))) (px_ix hr (px_var (i := 0)) (px_int))) (px_var (i := 5)))))))
    (pss_one' (ps_ret' (px_var (i := 4)))))
/-! _law_random -/
theorem sc__law_random : FnScope N__law_random ["_law_script", "_law_k", "_law_program_here", "_law_most"] (defScope s__law_random) := ⟨rfl, rfl, rfl, by decide +kernel, rfl, by decide +kernel, by decide +kernel⟩
theorem ok__law_random {P : Program} {w : World} {K : PySem.W.Frag} {mg : Str → Option Value} {base : Heap} {a : Nat → Addr} {fd : Nat → FuncData} (T : Txt K mg a fd) : FnOk P w K mg base CX0 3 (a 12) (fd 12) ["_law_script", "_law_k", "_law_program_here", "_law_most"] (spP false K mg 4 p__law_random) :=
  fn_ok T.F12 sc__law_random (by decide) fun cdv A outer s H E hr =>
    pss_cons' (ps_asg' (i := 4) sc__law_random.nd (px_lst (pxa_nil)))
    (pss_cons' (ps_asg' (i := 5) sc__law_random.nd (px_call (ok__law_draw T) (hr.mono (by decide)) T.g5 T.F5.kp T.b5 pass0 (pxa_cons (px_var (i := 0)) (pxa_cons (px_var (i := 1)) (pxa_cons (px_bin op_addG (px_lst (pxa_cons (px_var (i := 3)) (pxa_nil))) (px_bin op_mulG (px_lst (pxa_cons (px_int) (pxa_cons (px_int) (pxa_cons (px_int) (pxa_cons (px_int) (pxa_cons (px_int) (pxa_cons (px_int) (pxa_cons (px_int) (pxa_nil))))))))) (px_var (i := 3)))) (pxa_nil))))))
    (pss_cons' (ps_for' PassesOwn.never rfl (pix_range1 (pxa_cons (px_ix hr (px_var (i := 5)) (px_int)) (pxa_nil)) T.n_range) (pgx_name (i := 6) sc__law_random.nd)
      (pss_cons' (ps_asg' (i := 7) sc__law_random.nd (px_slice (px_var (i := 5)) (pxo_some (px_bin op_addG (px_int) (px_bin op_mulG (px_int) (px_var (i := 6))))) (pxo_some (px_bin op_addG (px_int) (px_bin op_mulG (px_int) (px_var (i := 6)))))))
        (pss_cons' (ps_asg' (i := 8) sc__law_random.nd (px_lst (pxa_nil)))
        (pss_cons' (ps_for' PassesOwn.never rfl (pix_seq (px_lst (pxa_cons (px_tup (pxa_cons (px_ix hr (px_var (i := 7)) (px_int)) (pxa_cons (px_ix hr (px_var (i := 7)) (px_int)) (pxa_nil)))) (pxa_cons (px_tup (pxa_cons (px_ix hr (px_var (i := 7)) (px_int)) (pxa_cons (px_ix hr (px_var (i := 7)) (px_int)) (pxa_nil)))) (pxa_nil))))) (pgx_tup rfl (pgsx_cons (pgx_name (i := 9) sc__law_random.nd) (pgsx_cons (pgx_name (i := 10) sc__law_random.nd) (pgsx_nil))))
          (pss_cons' (ps_asg' (i := 11) sc__law_random.nd (px_bin op_addG (px_str) (px_callTy strG T.n_str bt_str (pxa_cons (px_bin op_modG (px_bin op_addG (px_bin op_addG (px_ix hr (px_var (i := 7)) (px_int)) (px_int)) (px_bin op_modG (px_var (i := 10)) (px_int))) (px_int)) (pxa_nil)))))
            (pss_cons' (ps_if' (pxt_cmp (op_eqG (hu65 hr)) (px_var (i := 9)) (px_int))
              (pss_one' (ps_asg' (i := 11) sc__law_random.nd (px_bin op_addG (px_str) (px_callTy strG T.n_str bt_str (pxa_cons (px_bin op_modG (px_var (i := 10)) (px_ix hr (px_var (i := 2)) (px_int))) (pxa_nil))))))
              (pss_nil'))
            (pss_cons' (ps_if' (pxt_cmp (op_eqG (hu65 hr)) (px_var (i := 9)) (px_int))
              (pss_one' (ps_asg' (i := 11) sc__law_random.nd (px_callTy strG T.n_str bt_str (pxa_cons (px_bin op_modG (px_var (i := 10)) (px_ix hr (px_var (i := 2)) (px_int))) (pxa_nil)))))
              (pss_nil'))
            (pss_one' (ps_frz (j := 11) (ps_app (j := 8) (px_var (i := 11)))))))))
        (pss_one' (ps_app (j := 4) (px_tup (pxa_cons (px_ix hr (px_var (i := 7)) (px_int)) (pxa_cons (px_ix hr (px_str) (px_ix hr (px_var (i := 7)) (px_int))) (pxa_cons (px_ix hr (px_str) (px_ix hr (px_var (i := 7)) (px_int))) (pxa_cons (px_ix hr (px_var (i := 8)) (px_int)) (pxa_cons (px_ix hr (px_var (i := 8)) (px_int)) (pxa_nil)))))))))))))
    (pss_one' (ps_ret' (px_var (i := 4))))))
/-! law -/
theorem sc_law : FnScope N_law ["_law_script"] (defScope s_law) := ⟨rfl, rfl, rfl, by decide +kernel, rfl, by decide +kernel, by decide +kernel⟩
theorem ok_law {P : Program} {w : World} {K : PySem.W.Frag} {mg : Str → Option Value} {base : Heap} {a : Nat → Addr} {fd : Nat → FuncData} (T : Txt K mg a fd) : FnOk P w K mg base CX0 4 (a 13) (fd 13) ["_law_script"] (spP false K mg 1 p_law) :=
  fn_ok T.F13 sc_law (by decide) fun cdv A outer s H E hr =>
    pss_cons' (ps_for' PassesOwn.never rfl (pix_range1 (pxa_cons (px_callB (minG rfl) T.n_min bt_min (pxa_cons (px_int) (pxa_cons (px_callB (maxG rfl) T.n_max bt_max (pxa_cons (px_int) (pxa_cons (px_bin op_fdivG (px_callB lenG T.n_len bt_len (pxa_cons (px_var (i := 0)) (pxa_nil))) (px_int)) (pxa_nil)))) (pxa_nil)))) (pxa_nil)) T.n_range) (pgx_name (i := 1) sc_law.nd)
      (pss_cons' (ps_asg' (i := 2) sc_law.nd (px_call (ok__law_program T) (hr.mono (by decide)) T.g7 T.F7.kp T.b7 pass0 (pxa_cons (px_var (i := 0)) (pxa_cons (px_bin op_mulG (px_int) (px_var (i := 1))) (pxa_cons (px_int) (pxa_nil))))))
        (pss_cons' (ps_asg' (i := 3) sc_law.nd (px_call (ok__law_random T) (hr.mono (by decide)) T.g12 T.F12.kp T.b12 pass0 (pxa_cons (px_var (i := 0)) (pxa_cons (px_bin op_addG (px_bin op_mulG (px_int) (px_var (i := 1))) (px_int)) (pxa_cons (px_var (i := 2)) (pxa_cons (px_int) (pxa_nil)))))))
        (pss_cons' (ps_asg' (i := 4) sc_law.nd (px_call (ok__law_inputs T) (hr.mono (by decide)) T.g10 T.F10.kp T.b10 pass0 (pxa_cons (px_var (i := 0)) (pxa_cons (px_bin op_addG (px_bin op_mulG (px_int) (px_var (i := 1))) (px_int)) (pxa_cons (px_var (i := 2)) (pxa_nil))))))
        (pss_cons' (ps_setComp (i := 5) (own := [("_law_n", 7)]) rfl sc_law.nd (blkOk_by (N := N_law) (sc := defScope s_law) (by decide +kernel)) (pix_range1 (pxa_cons (px_bin op_addG (px_callB lenG T.n_len bt_len (pxa_cons (px_var (i := 3)) (pxa_nil))) (px_int)) (pxa_nil)) T.n_range) (fun _ _ _ _ _ => pgx_name (i := 7) sc_law.nd) (fun _ _ _ _ _ => pts_nil') (fun _ _ _ _ _ => px_call (ok__law_after T) (hr.mono (by decide)) T.g11 T.F11.kp T.b11 pass0 (pxa_cons (px_var (i := 2)) (pxa_cons (px_slice (px_var (i := 3)) (pxo_none) (pxo_some (px_var (i := 7)))) (pxa_cons (px_var (i := 4)) (pxa_cons (px_bin op_mulG (px_lst (pxa_cons (px_int) (pxa_nil))) (px_int)) (pxa_nil)))))) rfl (sw_true rfl rfl rfl (by decide +kernel)))
        (pss_nest sc_law.nd (px_call (ok_traced T) (hr.mono (by decide)) T.g3 T.F3.kp T.b3 pass0 (pxa_cons (px_var (i := 2)) (pxa_cons (px_var (i := 3)) (pxa_cons (px_var (i := 4)) (pxa_nil))))) (pxt_cmp (op_neG (hu65 hr)) (px_var (i := 6)) (px_var (i := 5))) (pss_one' (ps_ret' (px_bl))) (px_bin op_addG (px_ix hr (px_ix hr (px_var (i := 6)) (px_int)) (px_int)) (px_int))
        (pss_one' (ps_if' ((pxw_or (pxt_cmp (op_neG (hu65 hr)) (px_slice (px_var (i := 6)) (pxo_some (px_int)) (pxo_none)) (px_slice (px_var (i := 5)) (pxo_some (px_int)) (pxo_none))) (pxw_or1 (pxt_cmp (op_neG (hu65 hr)) (px_call (ok_traced T) (hr.mono (by decide)) T.g3 T.F3.kp T.b3 pass0 (pxa_cons (px_var (i := 2)) (pxa_cons (px_var (i := 3)) (pxa_cons (px_var (i := 4)) (pxa_nil))))) (px_var (i := 5))))).pxt)
            (pss_one' (ps_ret' (px_bl)))
            (pss_nil')))))))))
    (pss_one' (ps_ret' (px_bl)))
end Law
end

section
set_option maxRecDepth 100000
set_option maxHeartbeats 2000000
namespace Law
open PySem L2 PL
def spLaw (K : PySem.W.Frag) : Sp := fun vs H Q _ => ∃ (a : Addr) (ns : List Int), vs = [.ref a] ∧ SqL K H a (ns.map V.int) ∧ ns.length ≤ 63 ∧ ∀ H', Q (.bl true) H'
theorem law_ok {P : Program} {w : World} {K : PySem.W.Frag} {mg : Str → Option Value} {base : Heap} {a : Nat → Addr} {fd : Nat → FuncData} (T : Txt K mg a fd) : FnOk P w K mg base CX0 4 (a 13) (fd 13) ["_law_script"] (spLaw K) :=
  (ok_law T).imp fun vs H Q E h => by
    obtain ⟨l, ns, rfl, hl, hn, q⟩ := h
    obtain ⟨ρ, e⟩ := law_true ns hn
    have s0 : Sub (fun _ => none) H := fun a o e => nomatch e
    have k0 : ∀ (a : Addr) (o : HO), (fun _ : Addr => (none : Option HO)) a = some o → DataHO o := fun a o e => nomatch e
    have a0 : ArgsOk K (fun _ => none) H [.ref l] [.scr ns] := ⟨⟨l, rfl, hl, fun z => z⟩, trivial⟩
    refine ⟨fun _ => none, [.scr ns], s0, k0, rfl, a0, ?_⟩
    rw [e]
    intro v F' ω' H' S hv
    cases hv
    exact q H'
theorem all_mk {l : PySem.W.OpenLaw} {w : World} {K : PySem.W.Frag} {h : Heap} {mg : Str → Option Value} {fa f1 f2 f3 f4 f5 f6 f7 f8 f9 f10 f11 f12 f13 f14 : Addr} (X : K.In h) (G : h.Ns mainGlobals mg) (hfa : mg "law" = some (.ref fa))
    {od1 an1 od2 an2 od3 an3 od4 an4 od5 an5 od6 an6 od7 an7 od8 an8 od9 an9 od10 an10 od11 an11 od12 an12 od13 an13 od14 an14 : Option Addr} {sl1 sl2 sl3 sl4 sl5 sl6 sl7 sl8 sl9 sl10 sl11 sl12 sl13 sl14 : Array (Option Value)} {oc1 kV1 dc1 pm1 cd1 ct1 oc2 kV2 dc2 pm2 cd2 ct2 oc3 kV3 dc3 pm3 cd3 ct3 oc4 kV4 dc4 pm4 cd4 ct4 oc5 kV5 dc5 pm5 cd5 ct5 oc6 kV6 dc6 pm6 cd6 ct6 oc7 kV7 dc7 pm7 cd7 ct7 oc8 kV8 dc8 pm8 cd8 ct8 oc9 kV9 dc9 pm9 cd9 ct9 oc10 kV10 dc10 pm10 cd10 ct10 oc11 kV11 dc11 pm11 cd11 ct11 oc12 kV12 dc12 pm12 cd12 ct12 oc13 kV13 dc13 pm13 cd13 ct13 oc14 kV14 dc14 pm14 cd14 ct14 : Value} {t_REGISTERS : _}
    (a1 : PySem.W.nsIn K mainGlobals "source_value" = some (some (.ref f1))) (l1 : K.lookup f1 = some ⟨oc1, od1, .func (PySem.W.fnOf "source_value" "source_value" (defArgs s_source_value) (defBody s_source_value) (defScope s_source_value) .none kV1 dc1 pm1 an1 cd1 ct1), sl1⟩) (c1 : PySem.W.codeIn K cd1 "source_value" = true) (k1 : PySem.W.keepIn K (.ref f1) = true)
    (a2 : PySem.W.nsIn K mainGlobals "result_of" = some (some (.ref f2))) (l2 : K.lookup f2 = some ⟨oc2, od2, .func (PySem.W.fnOf "result_of" "result_of" (defArgs s_result_of) (defBody s_result_of) (defScope s_result_of) .none kV2 dc2 pm2 an2 cd2 ct2), sl2⟩) (c2 : PySem.W.codeIn K cd2 "result_of" = true) (k2 : PySem.W.keepIn K (.ref f2) = true)
    (a3 : PySem.W.nsIn K mainGlobals "performed" = some (some (.ref f3))) (l3 : K.lookup f3 = some ⟨oc3, od3, .func (PySem.W.fnOf "performed" "performed" (defArgs s_performed) (defBody s_performed) (defScope s_performed) .none kV3 dc3 pm3 an3 cd3 ct3), sl3⟩) (c3 : PySem.W.codeIn K cd3 "performed" = true) (k3 : PySem.W.keepIn K (.ref f3) = true)
    (a4 : PySem.W.nsIn K mainGlobals "traced" = some (some (.ref f4))) (l4 : K.lookup f4 = some ⟨oc4, od4, .func (PySem.W.fnOf "traced" "traced" (defArgs s_traced) (defBody s_traced) (defScope s_traced) .none kV4 dc4 pm4 an4 cd4 ct4), sl4⟩) (c4 : PySem.W.codeIn K cd4 "traced" = true) (k4 : PySem.W.keepIn K (.ref f4) = true)
    (a5 : PySem.W.nsIn K mainGlobals "_law_cell" = some (some (.ref f5))) (l5 : K.lookup f5 = some ⟨oc5, od5, .func (PySem.W.fnOf "_law_cell" "_law_cell" (defArgs s__law_cell) (defBody s__law_cell) (defScope s__law_cell) .none kV5 dc5 pm5 an5 cd5 ct5), sl5⟩) (c5 : PySem.W.codeIn K cd5 "_law_cell" = true) (k5 : PySem.W.keepIn K (.ref f5) = true)
    (a6 : PySem.W.nsIn K mainGlobals "_law_draw" = some (some (.ref f6))) (l6 : K.lookup f6 = some ⟨oc6, od6, .func (PySem.W.fnOf "_law_draw" "_law_draw" (defArgs s__law_draw) (defBody s__law_draw) (defScope s__law_draw) .none kV6 dc6 pm6 an6 cd6 ct6), sl6⟩) (c6 : PySem.W.codeIn K cd6 "_law_draw" = true) (k6 : PySem.W.keepIn K (.ref f6) = true)
    (a7 : PySem.W.nsIn K mainGlobals "_law_operand" = some (some (.ref f7))) (l7 : K.lookup f7 = some ⟨oc7, od7, .func (PySem.W.fnOf "_law_operand" "_law_operand" (defArgs s__law_operand) (defBody s__law_operand) (defScope s__law_operand) .none kV7 dc7 pm7 an7 cd7 ct7), sl7⟩) (c7 : PySem.W.codeIn K cd7 "_law_operand" = true) (k7 : PySem.W.keepIn K (.ref f7) = true)
    (a8 : PySem.W.nsIn K mainGlobals "_law_program" = some (some (.ref f8))) (l8 : K.lookup f8 = some ⟨oc8, od8, .func (PySem.W.fnOf "_law_program" "_law_program" (defArgs s__law_program) (defBody s__law_program) (defScope s__law_program) .none kV8 dc8 pm8 an8 cd8 ct8), sl8⟩) (c8 : PySem.W.codeIn K cd8 "_law_program" = true) (k8 : PySem.W.keepIn K (.ref f8) = true)
    (a9 : PySem.W.nsIn K mainGlobals "_law_result" = some (some (.ref f9))) (l9 : K.lookup f9 = some ⟨oc9, od9, .func (PySem.W.fnOf "_law_result" "_law_result" (defArgs s__law_result) (defBody s__law_result) (defScope s__law_result) .none kV9 dc9 pm9 an9 cd9 ct9), sl9⟩) (c9 : PySem.W.codeIn K cd9 "_law_result" = true) (k9 : PySem.W.keepIn K (.ref f9) = true)
    (a10 : PySem.W.nsIn K mainGlobals "_law_value" = some (some (.ref f10))) (l10 : K.lookup f10 = some ⟨oc10, od10, .func (PySem.W.fnOf "_law_value" "_law_value" (defArgs s__law_value) (defBody s__law_value) (defScope s__law_value) .none kV10 dc10 pm10 an10 cd10 ct10), sl10⟩) (c10 : PySem.W.codeIn K cd10 "_law_value" = true) (k10 : PySem.W.keepIn K (.ref f10) = true)
    (a11 : PySem.W.nsIn K mainGlobals "_law_inputs" = some (some (.ref f11))) (l11 : K.lookup f11 = some ⟨oc11, od11, .func (PySem.W.fnOf "_law_inputs" "_law_inputs" (defArgs s__law_inputs) (defBody s__law_inputs) (defScope s__law_inputs) .none kV11 dc11 pm11 an11 cd11 ct11), sl11⟩) (c11 : PySem.W.codeIn K cd11 "_law_inputs" = true) (k11 : PySem.W.keepIn K (.ref f11) = true)
    (a12 : PySem.W.nsIn K mainGlobals "_law_after" = some (some (.ref f12))) (l12 : K.lookup f12 = some ⟨oc12, od12, .func (PySem.W.fnOf "_law_after" "_law_after" (defArgs s__law_after) (defBody s__law_after) (defScope s__law_after) .none kV12 dc12 pm12 an12 cd12 ct12), sl12⟩) (c12 : PySem.W.codeIn K cd12 "_law_after" = true) (k12 : PySem.W.keepIn K (.ref f12) = true)
    (a13 : PySem.W.nsIn K mainGlobals "_law_random" = some (some (.ref f13))) (l13 : K.lookup f13 = some ⟨oc13, od13, .func (PySem.W.fnOf "_law_random" "_law_random" (defArgs s__law_random) (defBody s__law_random) (defScope s__law_random) .none kV13 dc13 pm13 an13 cd13 ct13), sl13⟩) (c13 : PySem.W.codeIn K cd13 "_law_random" = true) (k13 : PySem.W.keepIn K (.ref f13) = true)
    (a14 : PySem.W.nsIn K mainGlobals "law" = some (some (.ref f14))) (l14 : K.lookup f14 = some ⟨oc14, od14, .func (PySem.W.fnOf "law" "law" (defArgs s_law) (defBody s_law) (defScope s_law) .none kV14 dc14 pm14 an14 cd14 ct14), sl14⟩) (c14 : PySem.W.codeIn K cd14 "law" = true) (k14 : PySem.W.keepIn K (.ref f14) = true)
    (z_int : PySem.W.nsIn K mainGlobals "int" = some none)
    (z_len : PySem.W.nsIn K mainGlobals "len" = some none)
    (z_list : PySem.W.nsIn K mainGlobals "list" = some none)
    (z_max : PySem.W.nsIn K mainGlobals "max" = some none)
    (z_min : PySem.W.nsIn K mainGlobals "min" = some none)
    (z_range : PySem.W.nsIn K mainGlobals "range" = some none)
    (z_str : PySem.W.nsIn K mainGlobals "str" = some none)
    (z_tuple : PySem.W.nsIn K mainGlobals "tuple" = some none)
    (v_REGISTERS : PySem.W.nsIn K mainGlobals "REGISTERS" = some (some (.int 8 t_REGISTERS))) :
    ∃ fd : FuncData, (∀ (s : Shared) (v : Value), BindsTo s fd ⟨[v], []⟩ [("_law_script", v)]) ∧ ∀ base : Heap, K.In base → base.Ns mainGlobals mg → FnOk l.prog w K mg base CX0 4 fa fd ["_law_script"] (spLaw K) := by
  have e := hfa.symm.trans (PySem.W.mg_of X G a14)
  cases e
  have F1 := fun_mk (st := s_source_value) l1 c1 k1
  have b1 := F1.binds (ps := ["source", "inputs", "registers"]) fun _ _ _ _ _ _ us hl => match us, hl with | [_, _, _], _ => rfl
  have F2 := fun_mk (st := s_result_of) l2 c2 k2
  have b2 := F2.binds (ps := ["operation", "left", "right"]) fun _ _ _ _ _ _ us hl => match us, hl with | [_, _, _], _ => rfl
  have F3 := fun_mk (st := s_performed) l3 c3 k3
  have b3 := F3.binds (ps := ["program", "instruction", "inputs", "registers"]) fun _ _ _ _ _ _ us hl => match us, hl with | [_, _, _, _], _ => rfl
  have F4 := fun_mk (st := s_traced) l4 c4 k4
  have b4 := F4.binds (ps := ["program", "code", "inputs"]) fun _ _ _ _ _ _ us hl => match us, hl with | [_, _, _], _ => rfl
  have F5 := fun_mk (st := s__law_cell) l5 c5 k5
  have b5 := F5.binds (ps := ["_law_script", "_law_k"]) fun _ _ _ _ _ _ us hl => match us, hl with | [_, _], _ => rfl
  have F6 := fun_mk (st := s__law_draw) l6 c6 k6
  have b6 := F6.binds (ps := ["_law_script", "_law_k", "_law_sizes"]) fun _ _ _ _ _ _ us hl => match us, hl with | [_, _, _], _ => rfl
  have F7 := fun_mk (st := s__law_operand) l7 c7 k7
  have b7 := F7.binds (ps := ["_law_kind", "_law_number", "_law_modulus", "_law_inputs_here", "_law_many"]) fun _ _ _ _ _ _ us hl => match us, hl with | [_, _, _, _, _], _ => rfl
  have F8 := fun_mk (st := s__law_program) l8 c8 k8
  have b8 := F8.binds (ps := ["_law_script", "_law_k", "_law_most"]) fun _ _ _ _ _ _ us hl => match us, hl with | [_, _, _], _ => rfl
  have F9 := fun_mk (st := s__law_result) l9 c9 k9
  have b9 := F9.binds (ps := ["_law_operation", "_law_left", "_law_right", "_law_modulus"]) fun _ _ _ _ _ _ us hl => match us, hl with | [_, _, _, _], _ => rfl
  have F10 := fun_mk (st := s__law_value) l10 c10 k10
  have b10 := F10.binds (ps := ["_law_word", "_law_inputs_here", "_law_others"]) fun _ _ _ _ _ _ us hl => match us, hl with | [_, _, _], _ => rfl
  have F11 := fun_mk (st := s__law_inputs) l11 c11 k11
  have b11 := F11.binds (ps := ["_law_script", "_law_k", "_law_program_here"]) fun _ _ _ _ _ _ us hl => match us, hl with | [_, _, _], _ => rfl
  have F12 := fun_mk (st := s__law_after) l12 c12 k12
  have b12 := F12.binds (ps := ["_law_program_here", "_law_code", "_law_inputs_here", "_law_registers"]) fun _ _ _ _ _ _ us hl => match us, hl with | [_, _, _, _], _ => rfl
  have F13 := fun_mk (st := s__law_random) l13 c13 k13
  have b13 := F13.binds (ps := ["_law_script", "_law_k", "_law_program_here", "_law_most"]) fun _ _ _ _ _ _ us hl => match us, hl with | [_, _, _, _], _ => rfl
  have F14 := fun_mk (st := s_law) l14 c14 k14
  have b14 := F14.binds (ps := ["_law_script"]) fun _ _ _ _ _ _ us hl => match us, hl with | [_], _ => rfl
  let a : Nat → Addr := fun i => [f1, f2, f3, f4, f5, f6, f7, f8, f9, f10, f11, f12, f13, fa].getD i f1
  let fd : Nat → FuncData := fun i => [PySem.W.fnOf "source_value" "source_value" (defArgs s_source_value) (defBody s_source_value) (defScope s_source_value) .none kV1 dc1 pm1 an1 cd1 ct1, PySem.W.fnOf "result_of" "result_of" (defArgs s_result_of) (defBody s_result_of) (defScope s_result_of) .none kV2 dc2 pm2 an2 cd2 ct2, PySem.W.fnOf "performed" "performed" (defArgs s_performed) (defBody s_performed) (defScope s_performed) .none kV3 dc3 pm3 an3 cd3 ct3, PySem.W.fnOf "traced" "traced" (defArgs s_traced) (defBody s_traced) (defScope s_traced) .none kV4 dc4 pm4 an4 cd4 ct4, PySem.W.fnOf "_law_cell" "_law_cell" (defArgs s__law_cell) (defBody s__law_cell) (defScope s__law_cell) .none kV5 dc5 pm5 an5 cd5 ct5, PySem.W.fnOf "_law_draw" "_law_draw" (defArgs s__law_draw) (defBody s__law_draw) (defScope s__law_draw) .none kV6 dc6 pm6 an6 cd6 ct6, PySem.W.fnOf "_law_operand" "_law_operand" (defArgs s__law_operand) (defBody s__law_operand) (defScope s__law_operand) .none kV7 dc7 pm7 an7 cd7 ct7, PySem.W.fnOf "_law_program" "_law_program" (defArgs s__law_program) (defBody s__law_program) (defScope s__law_program) .none kV8 dc8 pm8 an8 cd8 ct8, PySem.W.fnOf "_law_result" "_law_result" (defArgs s__law_result) (defBody s__law_result) (defScope s__law_result) .none kV9 dc9 pm9 an9 cd9 ct9, PySem.W.fnOf "_law_value" "_law_value" (defArgs s__law_value) (defBody s__law_value) (defScope s__law_value) .none kV10 dc10 pm10 an10 cd10 ct10, PySem.W.fnOf "_law_inputs" "_law_inputs" (defArgs s__law_inputs) (defBody s__law_inputs) (defScope s__law_inputs) .none kV11 dc11 pm11 an11 cd11 ct11, PySem.W.fnOf "_law_after" "_law_after" (defArgs s__law_after) (defBody s__law_after) (defScope s__law_after) .none kV12 dc12 pm12 an12 cd12 ct12, PySem.W.fnOf "_law_random" "_law_random" (defArgs s__law_random) (defBody s__law_random) (defScope s__law_random) .none kV13 dc13 pm13 an13 cd13 ct13, PySem.W.fnOf "law" "law" (defArgs s_law) (defBody s_law) (defScope s_law) .none kV14 dc14 pm14 an14 cd14 ct14].getD i (PySem.W.fnOf "source_value" "source_value" (defArgs s_source_value) (defBody s_source_value) (defScope s_source_value) .none kV1 dc1 pm1 an1 cd1 ct1)
  have T : Txt K mg a fd := ⟨F1, PySem.W.mg_of X G a1, b1, F2, PySem.W.mg_of X G a2, b2, F3, PySem.W.mg_of X G a3, b3, F4, PySem.W.mg_of X G a4, b4, F5, PySem.W.mg_of X G a5, b5, F6, PySem.W.mg_of X G a6, b6, F7, PySem.W.mg_of X G a7, b7, F8, PySem.W.mg_of X G a8, b8, F9, PySem.W.mg_of X G a9, b9, F10, PySem.W.mg_of X G a10, b10, F11, PySem.W.mg_of X G a11, b11, F12, PySem.W.mg_of X G a12, b12, F13, PySem.W.mg_of X G a13, b13, F14, PySem.W.mg_of X G a14, b14, PySem.W.mg_none_of X G z_int, PySem.W.mg_none_of X G z_len, PySem.W.mg_none_of X G z_list, PySem.W.mg_none_of X G z_max, PySem.W.mg_none_of X G z_min, PySem.W.mg_none_of X G z_range, PySem.W.mg_none_of X G z_str, PySem.W.mg_none_of X G z_tuple, ⟨_, PySem.W.mg_of X G v_REGISTERS⟩⟩
  exact ⟨fd 13, fun s v => .of_eq rfl, fun base _ _ => law_ok T⟩
theorem walk {l : PySem.W.OpenLaw} {q : Program} {loose : List Str} {XP : (Str → Option Value) → Heap → Prop} {YP : World → Heap → Prop} {d : DefRec} {K : Params → PySem.W.Frag} (hn : l.most = some 63) (hdf : d.params.defaults = [])
    (hY : ∀ (w : World) (h : Heap), YP w h → (K w.params).In h)
    (F : ∀ (w : World) (mg : Str → Option Value) (fa : Addr) (h : Heap), (K w.params).In h → h.Ns mainGlobals mg → mg d.name = some (.ref fa) →
      ∃ fd : FuncData, (∀ (s : Shared) (u : Value), BindsTo s fd ⟨[u], []⟩ [("_law_script", u)]) ∧ ∀ base : Heap, (K w.params).In base → base.Ns mainGlobals mg → FnOk l.prog w (K w.params) mg base CX0 4 fa fd ["_law_script"] (spLaw (K w.params))) :
    PySem.W.WalkO q loose XP YP l.row.toRowW d [] (fun f vs => PySem.call f vs) :=
  L2.walk_of (n := 63) (k := 4) (x := "_law_script") (CX := fun _ => CX0) (sp := fun w => spLaw (K w.params)) hn (by decide) hdf ⟨rfl, by decide, by decide⟩ hY F (fun _ _ a ns hl _ hS => ⟨a, ns, rfl, hS, hl, fun _ => rfl⟩) fun _ _ _ _ _ z => z
end Law
open PySem PySem.W PyProof.Rows
set_option maxRecDepth 100000 in
set_option maxHeartbeats 0 in
theorem PySem.Challenge.cw_tidyback_k48_contents_step_by_step_holds : PySem.Challenge.rw_tidyback_k48_contents_step_by_step.Holds := by
  w_on; o_law; k_head; (case hw => w_witness2)
  k_fill
  refine Law.walk (l := PySem.Challenge.rw_tidyback_k48_contents_step_by_step) rfl rfl (fun w h Y => PySem.W.kIn_of Y) ?F
  case F =>
    intro w mg fa h KX G hmg
    refine' Law.all_mk KX G hmg ?a1 ?l1 ?c1 ?k1 ?a2 ?l2 ?c2 ?k2 ?a3 ?l3 ?c3 ?k3 ?a4 ?l4 ?c4 ?k4 ?a5 ?l5 ?c5 ?k5 ?a6 ?l6 ?c6 ?k6 ?a7 ?l7 ?c7 ?k7 ?a8 ?l8 ?c8 ?k8 ?a9 ?l9 ?c9 ?k9 ?a10 ?l10 ?c10 ?k10 ?a11 ?l11 ?c11 ?k11 ?a12 ?l12 ?c12 ?k12 ?a13 ?l13 ?c13 ?k13 ?a14 ?l14 ?c14 ?k14 ?z_int ?z_len ?z_list ?z_max ?z_min ?z_range ?z_str ?z_tuple ?v_REGISTERS
    (case a1 => k_is)
    (case l1 => k_is)
    (case c1 => k_is)
    (case k1 => k_is)
    (case a2 => k_is)
    (case l2 => k_is)
    (case c2 => k_is)
    (case k2 => k_is)
    (case a3 => k_is)
    (case l3 => k_is)
    (case c3 => k_is)
    (case k3 => k_is)
    (case a4 => k_is)
    (case l4 => k_is)
    (case c4 => k_is)
    (case k4 => k_is)
    (case a5 => k_is)
    (case l5 => k_is)
    (case c5 => k_is)
    (case k5 => k_is)
    (case a6 => k_is)
    (case l6 => k_is)
    (case c6 => k_is)
    (case k6 => k_is)
    (case a7 => k_is)
    (case l7 => k_is)
    (case c7 => k_is)
    (case k7 => k_is)
    (case a8 => k_is)
    (case l8 => k_is)
    (case c8 => k_is)
    (case k8 => k_is)
    (case a9 => k_is)
    (case l9 => k_is)
    (case c9 => k_is)
    (case k9 => k_is)
    (case a10 => k_is)
    (case l10 => k_is)
    (case c10 => k_is)
    (case k10 => k_is)
    (case a11 => k_is)
    (case l11 => k_is)
    (case c11 => k_is)
    (case k11 => k_is)
    (case a12 => k_is)
    (case l12 => k_is)
    (case c12 => k_is)
    (case k12 => k_is)
    (case a13 => k_is)
    (case l13 => k_is)
    (case c13 => k_is)
    (case k13 => k_is)
    (case a14 => k_is)
    (case l14 => k_is)
    (case c14 => k_is)
    (case k14 => k_is)
    (case z_int => k_is)
    (case z_len => k_is)
    (case z_list => k_is)
    (case z_max => k_is)
    (case z_min => k_is)
    (case z_range => k_is)
    (case z_str => k_is)
    (case z_tuple => k_is)
    (case v_REGISTERS => k_is)
#print axioms PySem.Challenge.cw_tidyback_k48_contents_step_by_step_holds
end
