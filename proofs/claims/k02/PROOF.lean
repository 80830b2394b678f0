import PyProof.Rows.All
import HandS.ForMost
import HandS.ForExc
import HandS.Small
import HandS.HotCalls
import HandS.ExcIs
import HandS.IsInst
import HandS.Wide
import HandS.Strs
import HandS.TupAny
import HandS.Zip
import HandS.Style
import HandS.Lambda
import HandS.Deep
import HandS.TupMul
import HandS.TupLe
import KE.DataCmp
import PyProof.P3In
import KE.SortData
import KE.DataMinMax
import HandS.More
import HandS.DictTup
import HandS.SetFor
import HandS.TupSets
import PyProof.ReprRoads
import PyProof.ReprLen
import HandS.SortKw
import HandS.Zip0
import PyProof.EnumMake
import PyProof.Draws
import HandS.ListItems
import KE.KNestM
import PyProof.FactsAll.list_3
import PyProof.FactsAll.list_4
import PySem.Challenge.RW_fewdistances_k02_fars_and_tables
set_option Elab.async false
set_option linter.all false
set_option maxRecDepth 100000
namespace Pv
open PySem PySem.Spec PyProof.Rows L2

/-! ### data -/
inductive D where
  | non | bl (b : Bool) | int (i : Int) | str (x : Str)
  | tup (xs : List D) | lst (xs : List D)
  | dct (ks vs : List D)
  | fn (f : Nat) | cls (c : Nat) | ty (n : String)
  /-- the script -/
  | scr (ns : List Int)
  /-- an exception of the c-th class, handled -/
  | exn (c : Nat)
  deriving Inhabited
/-- what a name holds: a datum (shared, never changed any more), or a thing of its own that may be changed -/
inductive A where
  | d (x : D)
  | l (xs : List D)
  | m (kvs : List (D × D))
  /-- a list of one's own; where os says true the entry is a list of one's own, too -/
  | n (os : List Bool) (ds : List D)
  deriving Inhabited
/-- an expression's worth: a thing, or what the i-th name holds as its own -/
inductive U where
  | v (a : A) | s (i : Nat)
  deriving Inhabited
abbrev Ev := List (Option A)
/-- an exception: its class, its fields -/
structure X1 where
  c : Nat
  fs : List D := []
inductive Out (α : Type) where
  | ok (a : α) (ρ : Ev)
  | exc (x : X1) (ρ : Ev)
  | bad
def Out.bind {α β : Type} (o : Out α) (f : α → Ev → Out β) : Out β := match o with
  | .ok a ρ => f a ρ
  | .exc x ρ => .exc x ρ
  | .bad => .bad
@[simp] theorem Out.bind_ok {α β : Type} (a : α) (ρ : Ev) (f : α → Ev → Out β) : (Out.ok a ρ).bind f = f a ρ := rfl
@[simp] theorem Out.bind_exc {α β : Type} (x : X1) (ρ : Ev) (f : α → Ev → Out β) : (Out.exc x ρ).bind f = .exc x ρ := rfl
@[simp] theorem Out.bind_bad {α β : Type} (f : α → Ev → Out β) : (Out.bad : Out α).bind f = .bad := rfl

/-- where the defs and the classes stand -/
structure Tab where
  fn : Nat → Addr
  cls : Nat → Addr
  exn : Addr → Option Nat
  /-- the tables of code objects, each with the name of its lambdas -/
  tabs : List (Addr × Str) := []

def kD : Key → D
  | .inl i => .int i
  | .inr x => .str x

mutual
inductive IsD (K : PySem.W.Frag) (G : Tab) (F : Hp) : V → D → Prop
  | non : IsD K G F .non .non
  | bl (b : Bool) : IsD K G F (.bl b) (.bl b)
  | int (i : Int) : IsD K G F (.int i) (.int i)
  | str (x : Str) : IsD K G F (.str x) (.str x)
  | tup {a : Addr} {vs : List V} {ds : List D} : SqT K F a vs → IsDs K G F vs ds → IsD K G F (.ref a) (.tup ds)
  | lst {a : Addr} {vs : List V} {ds : List D} : F a = some (.lst vs) → IsDs K G F vs ds → IsD K G F (.ref a) (.lst ds)
  | scr {a : Addr} {ns : List Int} : SqL K F a (ns.map V.int) → IsD K G F (.ref a) (.scr ns)
  | dct {a : Addr} {kvs : List (Key × V)} {ks ds : List D} : Rd F a (.dK kvs) → kvs.map (fun p => kD p.1) = ks → IsDs K G F (kvs.map (·.2)) ds → IsD K G F (.ref a) (.dct ks ds)
  | fn (f : Nat) : IsD K G F (.ref (G.fn f)) (.fn f)
  | cls (c : Nat) : IsD K G F (.ref (G.cls c)) (.cls c)
  | ty (n : String) : IsD K G F (.ty n) (.ty n)
  | exn {a : Addr} {c : Nat} : G.exn a = some c → IsD K G F (.ref a) (.exn c)
inductive IsDs (K : PySem.W.Frag) (G : Tab) (F : Hp) : List V → List D → Prop
  | nil : IsDs K G F [] []
  | cons {v : V} {vs : List V} {d : D} {ds : List D} : IsD K G F v d → IsDs K G F vs ds → IsDs K G F (v :: vs) (d :: ds)
end

theorem _root_.L2.Same.rd {H H' : Hp} {a : Addr} {u : HO} (e : Same H H') (h : Rd H a u) : Rd H' a u := by
  rcases h with h | ⟨o, h⟩
  · exact .inl (e _ _ h)
  · exact .inr ⟨o, e _ _ h⟩
theorem _root_.L2.Same.seqT {K : PySem.W.Frag} {H H' : Hp} {a : Addr} {xs : List V} (e : Same H H') (h : SqT K H a xs) : SqT K H' a xs := by
  rcases h with h | h
  · exact .inl (e.rd h)
  · exact .inr h

section
variable {K : PySem.W.Frag} {G : Tab} {F F' : Hp}
mutual
theorem IsD.mono (e : Same F F') : ∀ {v : V} {d : D}, IsD K G F v d → IsD K G F' v d
  | _, _, .non => .non
  | _, _, .bl b => .bl b
  | _, _, .int i => .int i
  | _, _, .str x => .str x
  | _, _, .tup h hs => .tup (e.seqT h) (IsDs.mono e hs)
  | _, _, .lst h hs => .lst (e _ _ h) (IsDs.mono e hs)
  | _, _, .scr h => .scr (e.seq h)
  | _, _, .dct h hk hs => .dct (e.rd h) hk (IsDs.mono e hs)
  | _, _, .fn f => .fn f
  | _, _, .cls c => .cls c
  | _, _, .ty n => .ty n
  | _, _, .exn h => .exn h
theorem IsDs.mono (e : Same F F') : ∀ {vs : List V} {ds : List D}, IsDs K G F vs ds → IsDs K G F' vs ds
  | _, _, .nil => .nil
  | _, _, .cons h t => .cons (IsD.mono e h) (IsDs.mono e t)
end
theorem IsDs.length : ∀ {vs : List V} {ds : List D}, IsDs K G F vs ds → vs.length = ds.length
  | _, _, .nil => rfl
  | _, _, .cons _ t => by simp [IsDs.length t]
theorem IsDs.append : ∀ {vs ws : List V} {ds es : List D}, IsDs K G F vs ds → IsDs K G F ws es → IsDs K G F (vs ++ ws) (ds ++ es)
  | _, _, _, _, .nil, h => h
  | _, _, _, _, .cons a t, h => .cons a (IsDs.append t h)
theorem IsDs.get : ∀ {vs : List V} {ds : List D} {i : Nat} {d : D}, IsDs K G F vs ds → ds[i]? = some d → ∃ v, vs[i]? = some v ∧ IsD K G F v d
  | _, _, _, _, .nil, e => by simp at e
  | _, _, 0, _, .cons h _, e => by simp at e; subst e; exact ⟨_, rfl, h⟩
  | _, _, i + 1, d, .cons _ t, e => by
    obtain ⟨v, h1, h2⟩ := IsDs.get (i := i) (d := d) t (by simpa using e)
    exact ⟨v, by simpa using h1, h2⟩
theorem IsDs.getV : ∀ {vs : List V} {ds : List D} {i : Nat} {v : V}, IsDs K G F vs ds → vs[i]? = some v → ∃ d, ds[i]? = some d ∧ IsD K G F v d
  | _, _, _, _, .nil, e => by simp at e
  | _, _, 0, _, .cons h _, e => by simp at e; subst e; exact ⟨_, rfl, h⟩
  | _, _, i + 1, v, .cons _ t, e => by
    obtain ⟨d, h1, h2⟩ := IsDs.getV (i := i) (v := v) t (by simpa using e)
    exact ⟨d, by simpa using h1, h2⟩
theorem IsDs.drop : ∀ {vs : List V} {ds : List D} (n : Nat), IsDs K G F vs ds → IsDs K G F (vs.drop n) (ds.drop n)
  | _, _, 0, h => h
  | _, _, _ + 1, .nil => .nil
  | _, _, n + 1, .cons _ t => IsDs.drop n t
theorem IsDs.take : ∀ {vs : List V} {ds : List D} (n : Nat), IsDs K G F vs ds → IsDs K G F (vs.take n) (ds.take n)
  | _, _, 0, _ => .nil
  | _, _, _ + 1, .nil => .nil
  | _, _, n + 1, .cons h t => .cons h (IsDs.take n t)
theorem IsDs.set {v : V} {d : D} (h : IsD K G F v d) : ∀ {vs : List V} {ds : List D} (i : Nat), IsDs K G F vs ds → IsDs K G F (vs.set i v) (ds.set i d)
  | _, _, _, .nil => .nil
  | _, _, 0, .cons _ t => .cons h t
  | _, _, i + 1, .cons q t => .cons q (IsDs.set h i t)
theorem IsDs.reverse : ∀ {vs : List V} {ds : List D}, IsDs K G F vs ds → IsDs K G F vs.reverse ds.reverse
  | _, _, .nil => .nil
  | _, _, .cons h t => by
    rw [List.reverse_cons, List.reverse_cons]
    exact (IsDs.reverse t).append (.cons h .nil)
theorem IsDs.nil_iff {vs : List V} {ds : List D} (h : IsDs K G F vs ds) : vs = [] ↔ ds = [] := by
  cases h <;> simp
/-- in another order, or some of them -/
theorem IsDs.of_mem : ∀ {vs : List V} {ds : List D}, IsDs K G F vs ds → ∀ v ∈ vs, ∃ d ∈ ds, IsD K G F v d
  | _, _, .nil, v, h => by cases h
  | _, _, .cons q t, v, h => by
    rcases List.mem_cons.mp h with rfl | h
    · exact ⟨_, List.mem_cons_self, q⟩
    · obtain ⟨d, h1, h2⟩ := IsDs.of_mem t v h
      exact ⟨d, List.mem_cons_of_mem _ h1, h2⟩
end

/-! ### things of one's own -/
def Own (H : Hp) : V → A → Addr → Prop
  | .ref p, .l _, b => b = p
  | .ref p, .m _, b => b = p
  | .ref p, .n os _, b => b = p ∨ ∃ (vs : List V) (k : Nat), H p = some (.lst vs) ∧ os[k]? = some true ∧ vs[k]? = some (.ref b)
  | _, _, _ => False
def KwIs (K : PySem.W.Frag) (G : Tab) (F : Hp) (kws : List (Key × V)) (kvs : List (D × D)) : Prop := kws.map (fun p => kD p.1) = kvs.map (·.1) ∧ IsDs K G F (kws.map (·.2)) (kvs.map (·.2))
/-- an entry: a datum, or a list of one's own -/
def IsE (K : PySem.W.Frag) (G : Tab) (F H : Hp) (p : Addr) : Bool → V → D → Prop
  | false, v, d => IsD K G F v d
  | true, v, d => ∃ b ws xs, v = .ref b ∧ d = .lst xs ∧ b ≠ p ∧ H b = some (.lst ws) ∧ IsDs K G F ws xs
inductive IsEs (K : PySem.W.Frag) (G : Tab) (F H : Hp) (p : Addr) : List Bool → List V → List D → Prop
  | nil : IsEs K G F H p [] [] []
  | cons {o : Bool} {os : List Bool} {v : V} {vs : List V} {d : D} {ds : List D} : IsE K G F H p o v d → IsEs K G F H p os vs ds → (o = true → ∀ k : Nat, os[k]? = some true → vs[k]? ≠ some v) → IsEs K G F H p (o :: os) (v :: vs) (d :: ds)
def IsA (K : PySem.W.Frag) (G : Tab) (F H : Hp) (v : V) : A → Prop
  | .d x => IsD K G F v x
  | .l ds => ∃ p vs, v = .ref p ∧ H p = some (.lst vs) ∧ IsDs K G F vs ds
  | .m kvs => ∃ p kws, v = .ref p ∧ H p = some (.dK kws) ∧ KwIs K G F kws kvs
  | .n os ds => ∃ p vs, v = .ref p ∧ H p = some (.lst vs) ∧ IsEs K G F H p os vs ds
section
variable {K : PySem.W.Frag} {G : Tab} {F F' H H' : Hp} {v : V} {a : A} {b p : Addr}
theorem IsEs.frame {os : List Bool} {vs : List V} {ds : List D} (h : IsEs K G F H p os vs ds) (e : Same F F') : (∀ (b : Addr) (o : HO) (k : Nat), os[k]? = some true → vs[k]? = some (V.ref b) → H b = some o → H' b = some o) → IsEs K G F' H' p os vs ds := by
  induction h with
  | nil => exact fun _ => .nil
  | @cons o os v vs d ds h t n ih =>
    intro hk
    refine .cons ?_ (ih fun b o k => hk b o (k + 1)) n
    cases o with
    | false => exact IsD.mono e h
    | true => obtain ⟨b, ws, xs, rfl, rfl, h1, h2, h3⟩ := h; exact ⟨b, ws, xs, rfl, rfl, h1, hk b _ 0 rfl rfl h2, h3.mono e⟩
theorem IsEs.live {os : List Bool} {vs : List V} {ds : List D} (h : IsEs K G F H p os vs ds) : ∀ {k : Nat}, os[k]? = some true → vs[k]? = some (.ref b) → H b ≠ none := by
  induction h with
  | nil => intro k z; simp at z
  | @cons o os v vs d ds h t n ih =>
    intro k z w
    cases k with
    | zero =>
      simp at z w; subst z; subst w
      obtain ⟨b, ws, xs, e, rfl, h1, h2, h3⟩ := h
      cases e; rw [h2]; simp
    | succ k => exact ih (k := k) (by simpa using z) (by simpa using w)
theorem IsA.frame (h : IsA K G F H v a) (e : Same F F') (hk : ∀ b o, Own H v a b → H b = some o → H' b = some o) : IsA K G F' H' v a := by
  cases a with
  | d x => exact IsD.mono e h
  | l ds => obtain ⟨p, vs, rfl, h1, h2⟩ := h; exact ⟨p, vs, rfl, hk p _ rfl h1, h2.mono e⟩
  | m ds => obtain ⟨p, vs, rfl, h1, h2, h3⟩ := h; exact ⟨p, vs, rfl, hk p _ rfl h1, h2, h3.mono e⟩
  | n os ds => obtain ⟨p, vs, rfl, h1, h2⟩ := h; exact ⟨p, vs, rfl, hk p _ (.inl rfl) h1, h2.frame e fun b o k z w => hk b o (.inr ⟨vs, k, h1, z, w⟩)⟩
theorem IsA.live (h : IsA K G F H v a) (o : Own H v a b) : H b ≠ none := by
  cases a with
  | d x => cases v <;> cases o
  | l ds => obtain ⟨p, vs, rfl, h1, h2⟩ := h; cases o; rw [h1]; simp
  | m ds => obtain ⟨p, vs, rfl, h1, h2⟩ := h; cases o; rw [h1]; simp
  | n os ds =>
    obtain ⟨p, vs, rfl, h1, h2⟩ := h
    rcases o with rfl | ⟨vs', k, e1, e2, e3⟩
    · rw [h1]; simp
    · rw [h1] at e1; cases e1; exact h2.live e2 e3
/-- what is a thing's own stays its own -/
theorem IsA.own_iff (h : IsA K G F H v a) (hk : ∀ b o, Own H v a b → H b = some o → H' b = some o) : Own H' v a b ↔ Own H v a b := by
  cases a with
  | d x => cases v <;> exact Iff.rfl
  | l ds => cases v <;> exact Iff.rfl
  | m ds => cases v <;> exact Iff.rfl
  | n os ds =>
    obtain ⟨p, vs, rfl, h1, h2⟩ := h
    have h3 := hk p _ (.inl rfl) h1
    exact ⟨fun o => o.imp id fun ⟨vs', k, e1, e2, e3⟩ => by rw [h3] at e1; cases e1; exact ⟨vs, k, h1, e2, e3⟩, fun o => o.imp id fun ⟨vs', k, e1, e2, e3⟩ => by rw [h1] at e1; cases e1; exact ⟨vs, k, h3, e2, e3⟩⟩
@[simp] theorem own_d {x : D} : Own H v (.d x) b ↔ False := by cases v <;> simp [Own]
end

/-! ### tables of code objects -/
/-- no table, no code object -/
def PlainO (o : HO) : Prop := (∀ ps, o ≠ .tbl ps) ∧ ∀ c q, o ≠ LamX.CodeO c q
theorem plain_lst (vs : List V) : PlainO (.lst vs) := ⟨fun _ z => by (cases z), fun _ _ z => by (unfold LamX.CodeO at z; cases z)⟩
theorem plain_dK (vs : List (Key × V)) : PlainO (.dK vs) := ⟨fun _ z => by (cases z), fun _ _ z => by (unfold LamX.CodeO at z; cases z)⟩
/-- F stands in H, and so do the tables, none of them in F -/
structure SubT (G : Tab) (F H : Hp) : Prop where
  s : Same F H
  t : LamX.Tabs G.tabs H
  n : ∀ b ps, F b ≠ some (.tbl ps)
section
variable {K : PySem.W.Frag} {G : Tab} {F F' H H' : Hp} {v : V} {a : A} {b p : Addr}
instance : CoeFun (SubT G F H) (fun _ => ∀ b o, F b = some o → H b = some o) := ⟨fun h => h.s⟩
instance : CoeOut (SubT G F H) (Same F H) := ⟨SubT.s⟩
theorem SubT.seqT {xs : List V} (e : SubT G F H) (h : SqT K F b xs) : SqT K H b xs := e.s.seqT h
theorem SubT.seq {xs : List V} (e : SubT G F H) (h : SqL K F b xs) : SqL K H b xs := e.s.seq h
theorem SubT.ext (s : SubT G F H) (e : Same H H') : SubT G F H' := ⟨s.s.trans e, s.t.ext e, s.n⟩
theorem SubT.go (s : SubT G F H) (hk : Same H H') (sub : Same F' H') (nt : ∀ b ps, F' b = some (.tbl ps) → F b = some (.tbl ps)) : SubT G F' H' := ⟨sub, s.t.ext hk, fun b ps e => s.n b ps (nt b ps e)⟩
theorem SubT.poke {o o' : HO} (s : SubT G F H) (hF : F b = none) (hb : H b = some o) (pl : PlainO o) : SubT G F (upd H b o') := ⟨fun c u e => by rw [upd_ne (fun z => by rw [z, hF] at e; cases e)]; exact s.s _ _ e, fun p hp => by
  obtain ⟨ps, h1, h2, h3⟩ := s.t p hp
  refine ⟨ps, by rw [upd_ne (fun z => by rw [z, hb] at h1; exact pl.1 ps (Option.some.inj h1))]; exact h1, h2, fun pos cv hc => ?_⟩
  obtain ⟨c, e1, e2⟩ := h3 pos cv hc
  exact ⟨c, e1, by rw [upd_ne (fun z => by rw [z, hb] at e2; exact pl.2 b _ (Option.some.inj e2))]; exact e2⟩, s.n⟩
/-- the heap without the tables -/
def noT (_ : Tab) (H : Hp) : Hp := fun b => match H b with
  | some (.tbl _) => none
  | o => o
theorem noT_ne {b : Addr} {ps : Array Value} : noT G H b ≠ some (.tbl ps) := fun e => by
  unfold noT at e
  split at e
  · cases e
  · rename_i o hn
    exact hn ps e
theorem noT_le : Same (noT G H) H := fun b o e => by
  unfold noT at e
  split at e
  · cases e
  · exact e
theorem noT_at {o : HO} (e : H b = some o) (nt : ∀ ps, o ≠ .tbl ps) : noT G H b = some o := by
  unfold noT
  split
  · rename_i ps z
    rw [e] at z; cases z
    exact absurd rfl (nt ps)
  · exact e
theorem SubT.noT (s : SubT G F H) : SubT G (Pv.noT G H) H := ⟨noT_le, s.t, fun _ _ => noT_ne⟩
theorem SubT.inT (s : SubT G F H) : Same F (Pv.noT G H) := fun b o e => noT_at (s.s b o e) fun ps z => s.n b ps (by rw [← z]; exact e)
theorem SubT.step (s : SubT G F H) (e : Same (Pv.noT G H) H') (t : LamX.Tabs G.tabs H') : SubT G F H' := ⟨s.inT.trans e, t, s.n⟩
theorem IsEs.plain {os : List Bool} {vs : List V} {ds : List D} (h : IsEs K G F H p os vs ds) : ∀ {k : Nat}, os[k]? = some true → vs[k]? = some (.ref b) → ∃ o, H b = some o ∧ PlainO o := by
  induction h with
  | nil => intro k z; simp at z
  | @cons o os v vs d ds h t n ih =>
    intro k z w
    cases k with
    | zero =>
      simp at z w; subst z; subst w
      obtain ⟨b, ws, xs, e, rfl, h1, h2, h3⟩ := h
      cases e; exact ⟨_, h2, plain_lst _⟩
    | succ k => exact ih (k := k) (by simpa using z) (by simpa using w)
theorem IsA.plain (h : IsA K G F H v a) (o : Own H v a b) : ∃ o, H b = some o ∧ PlainO o := by
  cases a with
  | d x => cases v <;> cases o
  | l ds => obtain ⟨p, vs, rfl, h1, h2⟩ := h; cases o; exact ⟨_, h1, plain_lst _⟩
  | m ds => obtain ⟨p, vs, rfl, h1, h2⟩ := h; cases o; exact ⟨_, h1, plain_dK _⟩
  | n os ds =>
    obtain ⟨p, vs, rfl, h1, h2⟩ := h
    rcases o with rfl | ⟨vs', k, e1, e2, e3⟩
    · exact ⟨_, h1, plain_lst _⟩
    · rw [h1] at e1; cases e1; exact h2.plain e2 e3
theorem IsA.nt {o : HO} (h : IsA K G F H v a) (ho : Own H v a b) (e : H b = some o) : ∀ ps, o ≠ .tbl ps := by
  obtain ⟨o', h1, h2⟩ := h.plain ho
  rw [h1] at e; cases e; exact h2.1
end
/-! ### from one state to another -/
structure Ex (F : Hp) (fp : Addr → Prop) (H : Hp) (F' : Hp) (fp' : Addr → Prop) (H' : Hp) : Prop where
  fr : Same F F'
  keep : ∀ b o, H b = some o → ¬ fp b → (∀ ps, o ≠ .tbl ps) → H' b = some o
  new : ∀ b o, F' b = some o → F b = some o ∨ H b = none ∨ fp b
  nfp : ∀ b, fp' b → fp b ∨ H b = none
  live : ∀ b, H b ≠ none → H' b ≠ none
section
variable {F F' F'' H H' H'' : Hp} {fp fp' fp'' T : Addr → Prop}
theorem Ex.refl (F : Hp) (fp : Addr → Prop) (H : Hp) : Ex F fp H F fp H := ⟨Same.refl _, fun _ _ h _ _ => h, fun _ _ h => .inl h, fun _ h => .inl h, fun _ h => h⟩
theorem Ex.trans (a : Ex F fp H F' fp' H') (b : Ex F' fp' H' F'' fp'' H'') : Ex F fp H F'' fp'' H'' where
  fr := a.fr.trans b.fr
  live := fun c h => b.live c (a.live c h)
  keep := fun c o h hn nt => by
    refine b.keep c o (a.keep c o h hn nt) (fun hm => ?_) nt
    rcases a.nfp c hm with z | z
    · exact hn z
    · rw [h] at z; cases z
  new := fun c o h => by
    rcases b.new c o h with z | z | z
    · exact a.new c o z
    · by_cases e : H c = none
      · exact .inr (.inl e)
      · exact absurd z (a.live c e)
    · rcases a.nfp c z with z | z
      · exact .inr (.inr z)
      · exact .inr (.inl z)
  nfp := fun c h => by
    rcases b.nfp c h with z | z
    · exact a.nfp c z
    · by_cases e : H c = none
      · exact .inr e
      · exact absurd z (a.live c e)
/-- more may be changed -/
theorem Ex.more {gp : Addr → Prop} (a : Ex F fp H F' fp' H') (h : ∀ b, fp b → gp b) : Ex F gp H F' fp' H' :=
  ⟨a.fr, fun b o e hn nt => a.keep b o e (fun z => hn (h b z)) nt, fun b o e => (a.new b o e).imp id (.imp id (h b)), fun b e => (a.nfp b e).imp (h b) id, a.live⟩
theorem Ex.less {gp : Addr → Prop} (a : Ex F fp H F' fp' H') (h : ∀ b, gp b → fp' b) : Ex F fp H F' gp H' :=
  ⟨a.fr, a.keep, a.new, fun b e => a.nfp b (h b e), a.live⟩
/-- what stands beside -/
theorem Ex.beside (a : Ex F (fun b => fp b ∧ ¬ T b) H F' fp' H') (hT : ∀ b, T b → fp b) : Ex F fp H F' (fun b => fp' b ∨ T b) H' :=
  ⟨a.fr, fun b o e hn nt => a.keep b o e (fun z => hn z.1) nt, fun b o e => (a.new b o e).imp id (.imp id (·.1)), fun b e => e.elim (fun e => (a.nfp b e).imp (·.1) id) fun e => .inl (hT b e), a.live⟩
end

/-- the i-th name holds v, that is a -/
def Sl (σ : L2.St) (ρ : Ev) (i : Nat) (v : V) (a : A) : Prop := σ[i]? = some (some v) ∧ ρ[i]? = some (some a)
structure Sk (K : PySem.W.Frag) (G : Tab) (F : Hp) (fp : Addr → Prop) (H : Hp) (σ : L2.St) (ρ : Ev) : Prop where
  sub : SubT G F H
  len : σ.length = ρ.length
  at_ : ∀ (i : Nat) (a : A), ρ[i]? = some (some a) → ∃ v, σ[i]? = some (some v) ∧ IsA K G F H v a
  own : ∀ i v a b, Sl σ ρ i v a → Own H v a b → fp b ∧ F b = none
  inj : ∀ i j v w a c b, i ≠ j → Sl σ ρ i v a → Sl σ ρ j w c → Own H v a b → Own H w c b → False
section
variable {K : PySem.W.Frag} {G : Tab} {F F' H H' : Hp} {fp fp' gp : Addr → Prop} {σ : L2.St} {ρ : Ev} {v : V} {a : A} {i : Nat}
theorem Sk.is (S : Sk K G F fp H σ ρ) (h : Sl σ ρ i v a) : IsA K G F H v a := by
  obtain ⟨w, h1, h2⟩ := S.at_ i a h.2
  rw [h.1] at h1; cases h1; exact h2
theorem Sk.get (S : Sk K G F fp H σ ρ) (h : ρ[i]? = some (some a)) : ∃ v, Sl σ ρ i v a ∧ IsA K G F H v a := by
  obtain ⟨w, h1, h2⟩ := S.at_ i a h
  exact ⟨w, ⟨h1, h⟩, h2⟩
theorem Sk.more (S : Sk K G F fp H σ ρ) (h : ∀ b, fp b → gp b) : Sk K G F gp H σ ρ :=
  ⟨S.sub, S.len, S.at_, fun i v a b s o => ⟨h b (S.own i v a b s o).1, (S.own i v a b s o).2⟩, S.inj⟩
/-- not touched -/
theorem Sk.later (S : Sk K G F fp H σ ρ) (e : Ex F gp H F' fp' H') (sub : SubT G F' H') (hg : ∀ i v a b, Sl σ ρ i v a → Own H v a b → ¬ gp b) {fq : Addr → Prop} (hq : ∀ i v a b, Sl σ ρ i v a → Own H v a b → fq b) : Sk K G F' fq H' σ ρ where
  sub := sub
  len := S.len
  at_ := fun i a h => by
    obtain ⟨v, s, q⟩ := S.get h
    exact ⟨v, s.1, q.frame e.fr fun b o ho hb => e.keep b o hb (hg i v a b s ho) (q.nt ho hb)⟩
  own := fun i v a b s ho => by
    replace ho := ((S.is s).own_iff fun b o ho hb => e.keep b o hb (hg i v a b s ho) ((S.is s).nt ho hb)).1 ho
    refine ⟨hq i v a b s ho, ?_⟩
    cases q : F' b with
    | none => rfl
    | some o =>
      rcases e.new b o q with z | z | z
      · rw [(S.own i v a b s ho).2] at z; cases z
      · exact absurd z ((S.is s).live ho)
      · exact absurd z (hg i v a b s ho)
  inj := fun i j v w a c b n s s' o o' => S.inj i j v w a c b n s s' (((S.is s).own_iff fun b o ho hb => e.keep b o hb (hg i v a b s ho) ((S.is s).nt ho hb)).1 o) (((S.is s').own_iff fun b o ho hb => e.keep b o hb (hg j w c b s' ho) ((S.is s').nt ho hb)).1 o')
/-- a name set -/
theorem Sk.set (S : Sk K G F fp H σ ρ) (h : IsA K G F H v a) (ho : ∀ b, Own H v a b → fp b ∧ F b = none ∧ ∀ j w c, j ≠ i → Sl σ ρ j w c → ¬ Own H w c b) : Sk K G F fp H (σ.set i (some v)) (ρ.set i (some a)) := by
  have key : ∀ j w c, Sl (σ.set i (some v)) (ρ.set i (some a)) j w c → (j = i ∧ w = v ∧ c = a) ∨ (j ≠ i ∧ Sl σ ρ j w c) := fun j w c s => by
    by_cases e : j = i
    · subst e
      obtain ⟨s1, s2⟩ := s
      have l1 : j < σ.length := by
        have := (List.getElem?_eq_some_iff.mp s1).1
        simpa using this
      have l2 : j < ρ.length := by rw [← S.len]; exact l1
      rw [List.getElem?_set_self l1] at s1
      rw [List.getElem?_set_self l2] at s2
      cases s1; cases s2
      exact .inl ⟨rfl, rfl, rfl⟩
    · obtain ⟨s1, s2⟩ := s
      rw [List.getElem?_set_ne (fun z => e z.symm)] at s1 s2
      exact .inr ⟨e, s1, s2⟩
  refine ⟨S.sub, by simp [S.len], fun j c hj => ?_, fun j w c b s o => ?_, fun j k w w' c c' b hne s s' o o' => ?_⟩
  · by_cases e : j = i
    · subst e
      have l2 : j < ρ.length := by
        have := (List.getElem?_eq_some_iff.mp hj).1
        simpa using this
      rw [List.getElem?_set_self l2] at hj
      cases hj
      exact ⟨v, List.getElem?_set_self (by rw [S.len]; exact l2), h⟩
    · rw [List.getElem?_set_ne (fun z => e z.symm)] at hj ⊢
      exact S.at_ j c hj
  · rcases key j w c s with ⟨rfl, rfl, rfl⟩ | ⟨e, s⟩
    · exact ⟨(ho b o).1, (ho b o).2.1⟩
    · exact S.own j w c b s o
  · rcases key j w c s with ⟨e1, e2, e3⟩ | ⟨e, t⟩
    · rcases key k w' c' s' with ⟨g1, g2, g3⟩ | ⟨e', t'⟩
      · exact hne (e1.trans g1.symm)
      · rw [e2, e3] at o
        exact (ho b o).2.2 k w' c' e' t' o'
    · rcases key k w' c' s' with ⟨g1, g2, g3⟩ | ⟨e', t'⟩
      · rw [g2, g3] at o'
        exact (ho b o').2.2 j w c e t o
      · exact S.inj j k w w' c c' b hne t t' o o'
/-- a name forgotten -/
theorem Sk.unset (S : Sk K G F fp H σ ρ) (i : Nat) : Sk K G F fp H σ (ρ.set i none) := by
  have key : ∀ j w c, Sl σ (ρ.set i none) j w c → Sl σ ρ j w c := fun j w c s => by
    refine ⟨s.1, ?_⟩
    by_cases e : j = i
    · subst e
      have := s.2
      have l2 : j < ρ.length := by
        have := (List.getElem?_eq_some_iff.mp this).1
        simpa using this
      rw [List.getElem?_set_self l2] at this
      cases this
    · have := s.2
      rwa [List.getElem?_set_ne (fun z => e z.symm)] at this
  refine ⟨S.sub, by simp [S.len], fun j c hj => ?_, fun j w c b s o => S.own j w c b (key _ _ _ s) o, fun j k w w' c c' b hne s s' o o' => S.inj j k w w' c c' b hne (key _ _ _ s) (key _ _ _ s') o o'⟩
  have : ρ[j]? = some (some c) := by
    by_cases e : j = i
    · subst e
      have l2 : j < ρ.length := by
        have := (List.getElem?_eq_some_iff.mp hj).1
        simpa using this
      rw [List.getElem?_set_self l2] at hj
      cases hj
    · rwa [List.getElem?_set_ne (fun z => e z.symm)] at hj
  exact S.at_ j c this
theorem Sk.unset2 (S : Sk K G F fp H σ ρ) (i : Nat) : Sk K G F fp H (σ.set i none) (ρ.set i none) := by
  have T := S.unset i
  have key : ∀ j w c, Sl (σ.set i none) (ρ.set i none) j w c → Sl σ (ρ.set i none) j w c := fun j w c s => by
    refine ⟨?_, s.2⟩
    by_cases e : j = i
    · subst e
      have := s.1
      have l2 : j < σ.length := by
        have := (List.getElem?_eq_some_iff.mp this).1
        simpa using this
      rw [List.getElem?_set_self l2] at this
      cases this
    · have := s.1
      rwa [List.getElem?_set_ne (fun z => e z.symm)] at this
  refine ⟨S.sub, by simp [S.len], fun j c hj => ?_, fun j w c b s o => T.own j w c b (key _ _ _ s) o, fun j k w w' c c' b hne s s' o o' => T.inj j k w w' c c' b hne (key _ _ _ s) (key _ _ _ s') o o'⟩
  by_cases e : j = i
  · subst e
    have l2 : j < ρ.length := by
      have := (List.getElem?_eq_some_iff.mp hj).1
      simpa using this
    rw [List.getElem?_set_self l2] at hj
    cases hj
  · obtain ⟨v, h1, h2⟩ := T.at_ j c hj
    exact ⟨v, by rwa [List.getElem?_set_ne (fun z => e z.symm)], h2⟩
end

/-! ### worths -/
def OwnU (H : Hp) (v : V) : U → Addr → Prop
  | .v a, b => Own H v a b
  | .s _, _ => False
/-- v is u: and what u has of its own is nobody else's -/
def RU (K : PySem.W.Frag) (G : Tab) (F : Hp) (fp : Addr → Prop) (H : Hp) (σ : L2.St) (ρ : Ev) (v : V) : U → Prop
  | .v a => IsA K G F H v a ∧ ∀ b, Own H v a b → fp b ∧ F b = none ∧ ∀ i w c, Sl σ ρ i w c → ¬ Own H w c b
  | .s i => σ[i]? = some (some v)
def OwnUs (H : Hp) : List V → List U → Addr → Prop
  | v :: vs, u :: us, b => OwnU H v u b ∨ OwnUs H vs us b
  | _, _, _ => False
inductive RUs (K : PySem.W.Frag) (G : Tab) (F : Hp) (fp : Addr → Prop) (H : Hp) (σ : L2.St) (ρ : Ev) : List V → List U → Prop
  | nil : RUs K G F fp H σ ρ [] []
  | cons {v : V} {vs : List V} {u : U} {us : List U} : RU K G F fp H σ ρ v u → RUs K G F fp H σ ρ vs us → (∀ b, OwnU H v u b → ¬ OwnUs H vs us b) → RUs K G F fp H σ ρ (v :: vs) (u :: us)
abbrev RelT (β α : Type) := Hp → (Addr → Prop) → Hp → L2.St → Ev → β → α → Prop
def RB : RelT Bool Bool := fun _ _ _ _ _ b a => b = a

/-- what an answer is worth -/
def IsX (K : PySem.W.Frag) (G : Tab) (F H : Hp) (cls : Value) (dd : Option Addr) (x : X1) : Prop :=
  cls = .ref (G.cls x.c) ∧ (x.fs = [] → dd = none) ∧ (x.fs ≠ [] → ∃ d fs, dd = some d ∧ H d = some (.xd fs) ∧ IsDs K G F (fs.map (·.2)) x.fs)
def Run {α β : Type} (K : PySem.W.Frag) (G : Tab) (W : WX) (σ : L2.St) (F : Hp) (fp : Addr → Prop) (H : Hp) (rel : RelT β α) (r : Out α) (Q : β → Hp → Prop) : Prop :=
  match r with
  | .ok a ρ' => ∀ b H' F' fp', Ex F fp H F' fp' H' → Sk K G F' fp' H' σ ρ' → rel F' fp' H' σ ρ' b a → Q b H'
  | .exc x ρ' => ∀ cls dd H' F' fp', Ex F fp H F' fp' H' → Sk K G F' fp' H' σ ρ' → IsX K G F' H' cls dd x → W cls dd σ H'
  | .bad => False
section
variable {α β γ δ : Type} {K : PySem.W.Frag} {G : Tab} {W : WX} {σ : L2.St} {F F' H H' : Hp} {fp fp' gp T : Addr → Prop} {ρ : Ev} {v : V} {u : U}
theorem Run.mono {rel : RelT β α} {r : Out α} {Q Q' : β → Hp → Prop} (h : Run K G W σ F fp H rel r Q) (q : ∀ b H', Q b H' → Q' b H') : Run K G W σ F fp H rel r Q' := by
  cases r with
  | ok a S => exact fun b H' F' fp' e S r => q _ _ (h b H' F' fp' e S r)
  | exc x S => exact h
  | bad => exact h
theorem Run.later {rel : RelT β α} {r : Out α} {Q : β → Hp → Prop} (e : Ex F fp H F' fp' H') (h : Run K G W σ F fp H rel r Q) : Run K G W σ F' fp' H' rel r Q := by
  cases r with
  | ok a S => exact fun b H2 F2 fp2 e2 S r => h b H2 F2 fp2 (e.trans e2) S r
  | exc x S => exact fun c d H2 F2 fp2 e2 S r => h c d H2 F2 fp2 (e.trans e2) S r
  | bad => exact h
/-- less may be changed -/
theorem Run.less {rel : RelT β α} {r : Out α} {Q : β → Hp → Prop} (h : Run K G W σ F fp H rel r Q) (hg : ∀ b, gp b → fp b) : Run K G W σ F gp H rel r Q := by
  cases r with
  | ok a S => exact fun b H2 F2 fp2 e2 S r => h b H2 F2 fp2 (e2.more hg) S r
  | exc x S => exact fun c d H2 F2 fp2 e2 S r => h c d H2 F2 fp2 (e2.more hg) S r
  | bad => exact h
/-- what stands beside: T -/
theorem Run.bindT {rel : RelT β α} {rel' : RelT δ γ} {x : Out α} {k : α → Ev → Out γ} {Q : δ → Hp → Prop} {Q' : β → Hp → Prop} (hT : ∀ b, T b → fp b) (h : Run K G W σ F fp H rel' (x.bind k) Q)
    (step : ∀ a ρ' b F' fp' H', x = .ok a ρ' → Ex F (fun b => fp b ∧ ¬ T b) H F' fp' H' → Sk K G F' fp' H' σ ρ' → rel F' fp' H' σ ρ' b a → Run K G W σ F' (fun b => fp' b ∨ T b) H' rel' (k a ρ') Q → Q' b H')
    : Run K G W σ F (fun b => fp b ∧ ¬ T b) H rel x Q' := by
  cases x with
  | ok a S => exact fun b H' F' fp' e S' r => step a S b F' fp' H' rfl e S' r (Run.later (e.beside hT) h)
  | exc x S => exact fun c d H' F' fp' e S' r => h c d H' F' _ (e.beside hT) (S'.more fun _ z => .inl z) r
  | bad => exact h
theorem Run.bind {rel : RelT β α} {rel' : RelT δ γ} {x : Out α} {k : α → Ev → Out γ} {Q : δ → Hp → Prop} {Q' : β → Hp → Prop} (h : Run K G W σ F fp H rel' (x.bind k) Q)
    (step : ∀ a ρ' b F' fp' H', x = .ok a ρ' → Ex F fp H F' fp' H' → Sk K G F' fp' H' σ ρ' → rel F' fp' H' σ ρ' b a → Run K G W σ F' fp' H' rel' (k a ρ') Q → Q' b H') : Run K G W σ F fp H rel x Q' := by
  cases x with
  | ok a S => exact fun b H' F' fp' e S' r => step a S b F' fp' H' rfl e S' r (Run.later e h)
  | exc x S => exact h
  | bad => exact h
/-- at once -/
theorem Run.now {rel : RelT β α} {a : α} {b : β} {Q : β → Hp → Prop} (h : Run K G W σ F fp H rel (.ok a ρ) Q) (S : Sk K G F fp H σ ρ) (r : rel F fp H σ ρ b a) : Q b H :=
  h b H F fp (Ex.refl _ _ _) S r
theorem RU.live (h : RU K G F fp H σ ρ v u) {b : Addr} (o : OwnU H v u b) : H b ≠ none := by
  cases u with
  | v a => exact h.1.live o
  | s i => cases o
theorem RU.own_fp (h : RU K G F fp H σ ρ v u) {b : Addr} (o : OwnU H v u b) : fp b := by
  cases u with
  | v a => exact (h.2 b o).1
  | s i => cases o
/-- beside what goes on -/
theorem RU.later {ρ' : Ev} (h : RU K G F fp H σ ρ v u) (hT : ∀ b, OwnU H v u b → T b) (e : Ex F (fun b => fp b ∧ ¬ T b) H F' fp' H') (S : Sk K G F' fp' H' σ ρ') : RU K G F' (fun b => fp' b ∨ T b) H' σ ρ' v u := by
  cases u with
  | s i => exact h
  | v a =>
    refine ⟨h.1.frame e.fr fun b o ho hb => e.keep b o hb (fun z => z.2 (hT b ho)) (h.1.nt ho hb), fun b ho => ?_⟩
    replace ho := (h.1.own_iff fun b o ho hb => e.keep b o hb (fun z => z.2 (hT b ho)) (h.1.nt ho hb)).1 ho
    refine ⟨.inr (hT b ho), ?_, fun i w c s ho' => ?_⟩
    · cases q : F' b with
      | none => rfl
      | some o =>
        rcases e.new b o q with z | z | z
        · rw [(h.2 b ho).2.1] at z; cases z
        · exact absurd z (h.1.live ho)
        · exact absurd (hT b ho) z.2
    · rcases e.nfp b (S.own i w c b s ho').1 with z | z
      · exact z.2 (hT b ho)
      · exact h.1.live ho z
theorem RU.own_iff (h : RU K G F fp H σ ρ v u) (hT : ∀ b, OwnU H v u b → T b) (e : Ex F (fun b => fp b ∧ ¬ T b) H F' fp' H') {b : Addr} : OwnU H' v u b ↔ OwnU H v u b := by
  cases u with
  | s i => exact Iff.rfl
  | v a => exact h.1.own_iff fun b o ho hb => e.keep b o hb (fun z => z.2 (hT b ho)) (h.1.nt ho hb)
theorem Sk.but (S : Sk K G F fp H σ ρ) (h : RU K G F fp H σ ρ v u) : Sk K G F (fun b => fp b ∧ ¬ OwnU H v u b) H σ ρ :=
  ⟨S.sub, S.len, S.at_, fun i w c b s o => ⟨⟨(S.own i w c b s o).1, fun z => by
    cases u with
    | v a => exact (h.2 b z).2.2 i w c s o
    | s i => cases z⟩, (S.own i w c b s o).2⟩, S.inj⟩
theorem Sk.own_iff (S : Sk K G F fp H σ ρ) (hH : Same H H') {i : Nat} {w : V} {c : A} {b : Addr} (s : Sl σ ρ i w c) : Own H' w c b ↔ Own H w c b :=
  (S.is s).own_iff fun b o _ e => hH b o e
/-- the same cells, more of the heap -/
theorem Sk.injS (S : Sk K G F fp H σ ρ) (hH : Same H H') : ∀ i j v w a c b, i ≠ j → Sl σ ρ i v a → Sl σ ρ j w c → Own H' v a b → Own H' w c b → False :=
  fun i j v w a c b n s s' o o' => S.inj i j v w a c b n s s' ((S.own_iff hH s).1 o) ((S.own_iff hH s').1 o')
theorem RUs.length {vs : List V} {us : List U} (h : RUs K G F fp H σ ρ vs us) : vs.length = us.length := by
  induction h with
  | nil => rfl
  | cons _ _ _ ih => simp [ih]
end
end Pv

namespace Pv
open PySem PySem.Spec PyProof.Rows L2

theorem lim_eq : (16777216 : Nat) = sizeLine := sizeLine_eq.symm

/-! ### what a head says -/
def starless : Expr → Bool
  | .Starred .. => false
  | _ => true
def compless : Expr → Bool
  | .ListComp .. => false | .SetComp .. => false | .DictComp .. => false
  | _ => true
def setless : Expr → Bool
  | .Set .. => false
  | _ => true
def sliceless : Expr → Bool
  | .Slice .. => false
  | _ => true
def plainT : Expr → Bool
  | .UnaryOp .Not _ _ => false | .BoolOp .. => false | .IfExp .. => false | .Compare .. => false
  | _ => true
theorem starEach_c {e : Expr} (h : starless e = true) (es : List Expr) (env : PySem.Env) : starEach (e :: es) env = (false, eval e env) :: starEach es env := by
  cases e <;> first | rfl | cases h
theorem assignEach_c {e : Expr} (h : starless e = true) (es : List Expr) (env : PySem.Env) : assignEach (e :: es) env = (false, assign e env) :: assignEach es env := by
  cases e <;> first | rfl | cases h
theorem swaps_c {e : Expr} (h : compless e = true) (t : Option Expr) (l : Nat) (env : PySem.Env) : swapsWith e t l env = pure false := by
  cases e <;> first | rfl | cases h
theorem folded_c {e : Expr} (h : setless e = true) (env : PySem.Env) (x : Value) : foldedSetIterable e env x = pure x := by
  cases e <;> first | rfl | cases h
theorem behind_c {e : Expr} (h : setless e = true) (op : CmpOp) : behindInMarks op e = false := by
  cases e <;> first | rfl | cases h
theorem sub_c {e : Expr} (h : sliceless e = true) : PlainIx e := fun o i => by
  cases e <;> first | rfl | cases h
theorem true_c {e : Expr} (h : plainT e = true) (env : PySem.Env) (whole : Sem Value) : isTrue e env whole = (do let v ← whole; standAt e.pos; holding [v] (truthy v)) := by
  cases e with
  | UnaryOp op a p => cases op <;> first | rfl | cases h
  | BoolOp => cases h
  | IfExp => cases h
  | Compare => cases h
  | _ => rfl
theorem starless_any {pos : Pos} {env : PySem.Env} : ∀ {es : List Expr}, es.all starless = true → (backTo pos (starEach es env)).any (·.1) = false
  | [], _ => rfl
  | e :: es, h => by
    simp only [List.all_cons, Bool.and_eq_true] at h
    rw [starEach_c h.1]
    have := starless_any (pos := pos) (env := env) h.2
    unfold backTo at this ⊢
    simpa using this

/-! ### new things -/
theorem same_new {H : Hp} {p : Addr} {o : HO} (h : H p = none) : Same H (upd H p o) := fun b x e => by
  rw [upd_ne (ne_of_none e h)]
  exact e
structure New (K : PySem.W.Frag) (G : Tab) (F H F' H' : Hp) (v : V) (a : A) : Prop where
  hk : Same H H'
  fr : Same F F'
  sub : Same F' H'
  new : ∀ b o, F' b = some o → F b = some o ∨ H b = none
  nt : ∀ b ps, F' b = some (.tbl ps) → F b = some (.tbl ps)
  is : IsA K G F' H' v a
  own : ∀ b, Own H' v a b → H b = none ∧ F' b = none
section
variable {K : PySem.W.Frag} {G : Tab} {W : WX} {σ : L2.St} {F F' H H' : Hp} {fp fp' gp : Addr → Prop} {ρ : Ev} {v : V} {u : U} {a : A} {x : D} {p : Addr}
theorem Same.fnone (s : Same F H) (h : H p = none) : F p = none := by
  cases e : F p with
  | none => rfl
  | some o => rw [s _ _ e] at h; cases h
theorem same_live (s : Same H H') {b : Addr} (h : H b ≠ none) : H' b ≠ none := by
  cases e : H b with
  | none => exact absurd e h
  | some o => rw [s _ _ e]; simp
theorem New.old (s : Same F H) (h : IsD K G F v x) : New K G F H F H v (.d x) :=
  ⟨Same.refl _, Same.refl _, s, fun _ _ e => .inl e, fun _ _ e => e, h, fun b o => by simp at o⟩
theorem New.tup {vs : List V} {ds : List D} (s : Same F H) (hp : H p = none) (h : IsDs K G F vs ds) : New K G F H (upd F p (.tup vs)) (upd H p (.tup vs)) (.ref p) (.d (.tup ds)) where
  hk := same_new hp
  fr := same_new (Same.fnone s hp)
  sub := fun b o e => by
    by_cases hb : b = p
    · subst hb; rw [upd_same] at e ⊢; exact e
    · rw [upd_ne hb] at e ⊢; exact s _ _ e
  new := fun b o e => by
    by_cases hb : b = p
    · subst hb; exact .inr hp
    · rw [upd_ne hb] at e; exact .inl e
  nt := fun b ps e => by
    by_cases hb : b = p
    · subst hb; rw [upd_same] at e; cases e
    · rwa [upd_ne hb] at e
  is := IsD.tup (SqT.of upd_same) (h.mono (same_new (Same.fnone s hp)))
  own := fun b o => by simp at o
theorem New.lst {vs : List V} {ds : List D} (s : Same F H) (hp : H p = none) (h : IsDs K G F vs ds) : New K G F H F (upd H p (.lst vs)) (.ref p) (.l ds) where
  hk := same_new hp
  fr := Same.refl _
  sub := fun b o e => same_new hp b o (s _ _ e)
  new := fun b o e => .inl e
  nt := fun _ _ e => e
  is := ⟨p, vs, rfl, upd_same, h⟩
  own := fun b o => by cases o; exact ⟨hp, Same.fnone s hp⟩
theorem New.dct {kws : List (Key × V)} {kvs : List (D × D)} (s : Same F H) (hp : H p = none) (h : KwIs K G F kws kvs) : New K G F H F (upd H p (.dK kws)) (.ref p) (.m kvs) where
  hk := same_new hp
  fr := Same.refl _
  sub := fun b o e => same_new hp b o (s _ _ e)
  new := fun b o e => .inl e
  nt := fun _ _ e => e
  is := ⟨p, kws, rfl, upd_same, h⟩
  own := fun b o => by cases o; exact ⟨hp, Same.fnone s hp⟩
theorem New.ex (n : New K G F H F' H' v a) : Ex F fp H F' (fun b => fp b ∨ Own H' v a b) H' :=
  ⟨n.fr, fun b o e _ _ => n.hk b o e, fun b o e => (n.new b o e).imp id .inl, fun b e => e.imp id fun o => (n.own b o).1, fun b h => same_live n.hk h⟩
theorem New.sk (n : New K G F H F' H' v a) (S : Sk K G F fp H σ ρ) : Sk K G F' (fun b => fp b ∨ Own H' v a b) H' σ ρ where
  sub := S.sub.go n.hk n.sub n.nt
  len := S.len
  at_ := fun i c h => by
    obtain ⟨w, s, q⟩ := S.get h
    exact ⟨w, s.1, q.frame n.fr fun b o _ e => n.hk b o e⟩
  own := fun i w c b s o => by
    replace o := ((S.is s).own_iff fun b o _ e => n.hk b o e).1 o
    refine ⟨.inl (S.own i w c b s o).1, ?_⟩
    cases e : F' b with
    | none => rfl
    | some z =>
      rcases n.new b z e with q | q
      · rw [(S.own i w c b s o).2] at q; cases q
      · exact absurd q ((S.is s).live o)
  inj := fun i j v w a c b k s s' o o' => S.inj i j v w a c b k s s' (((S.is s).own_iff fun b o _ e => n.hk b o e).1 o) (((S.is s').own_iff fun b o _ e => n.hk b o e).1 o')
theorem New.ru (n : New K G F H F' H' v a) (S : Sk K G F fp H σ ρ) : RU K G F' (fun b => fp b ∨ Own H' v a b) H' σ ρ v (.v a) :=
  ⟨n.is, fun b o => ⟨.inr o, (n.own b o).2, fun i w c s q => (S.is s).live (((S.is s).own_iff fun b o _ e => n.hk b o e).1 q) (n.own b o).1⟩⟩
/-- a new thing told -/
theorem Run.new {Q : V → Hp → Prop} (h : Run K G W σ F fp H (RU K G) (.ok (.v a) ρ) Q) (S : Sk K G F fp H σ ρ) (n : New K G F H F' H' v a) : Q v H' :=
  h v H' F' _ n.ex (n.sk S) (n.ru S)
theorem Run.nowD {Q : V → Hp → Prop} (h : Run K G W σ F fp H (RU K G) (.ok (.v (.d x)) ρ) Q) (S : Sk K G F fp H σ ρ) (r : IsD K G F v x) : Q v H :=
  Run.now (b := v) h S ⟨r, fun b o => by simp at o⟩
end

/-! ### a look at a thing -/
@[simp] def flatA : A → Option D
  | .d x => some x
  | .l ds => some (.lst ds)
  | .m kvs => some (.dct (kvs.map (·.1)) (kvs.map (·.2)))
  | .n _ _ => none
@[simp] def viewU (ρ : Ev) : U → Option D
  | .v a => flatA a
  | .s i => match ρ[i]? with
    | some (some a) => flatA a
    | _ => none
@[simp] def views (ρ : Ev) : List U → Option (List D)
  | [] => some []
  | u :: us => match viewU ρ u with
    | some x => match views ρ us with
      | some xs => some (x :: xs)
      | none => none
    | none => none
inductive Fl (K : PySem.W.Frag) (G : Tab) (F H : Hp) : V → D → Prop
  | d {v : V} {x : D} : IsD K G F v x → Fl K G F H v x
  | l {p : Addr} {vs : List V} {ds : List D} : H p = some (.lst vs) → IsDs K G F vs ds → Fl K G F H (.ref p) (.lst ds)
  | m {p : Addr} {kws : List (Key × V)} {ks ds : List D} : H p = some (.dK kws) → kws.map (fun p => kD p.1) = ks → IsDs K G F (kws.map (·.2)) ds → Fl K G F H (.ref p) (.dct ks ds)
inductive Fls (K : PySem.W.Frag) (G : Tab) (F H : Hp) : List V → List D → Prop
  | nil : Fls K G F H [] []
  | cons {v : V} {vs : List V} {d : D} {ds : List D} : Fl K G F H v d → Fls K G F H vs ds → Fls K G F H (v :: vs) (d :: ds)
section
variable {K : PySem.W.Frag} {G : Tab} {W : WX} {σ : L2.St} {F F' H H' : Hp} {fp fp' gp : Addr → Prop} {ρ : Ev} {v : V} {u : U} {a : A} {x : D} {p : Addr}
theorem fl_a (h : IsA K G F H v a) (e : flatA a = some x) : Fl K G F H v x := by
  cases a with
  | d y => cases e; exact .d h
  | l ds => cases e; obtain ⟨p, vs, rfl, h1, h2⟩ := h; exact .l h1 h2
  | m kvs => cases e; obtain ⟨p, kws, rfl, h1, h2, h3⟩ := h; exact .m h1 h2 h3
  | n os ds => cases e
theorem fl_of (S : Sk K G F fp H σ ρ) (r : RU K G F fp H σ ρ v u) (e : viewU ρ u = some x) : Fl K G F H v x := by
  cases u with
  | v a => exact fl_a r.1 e
  | s i =>
    simp only [viewU] at e
    split at e
    · rename_i a h
      obtain ⟨w, h1, h2⟩ := S.at_ i a h
      have r' : σ[i]? = some (some v) := r
      rw [r'] at h1; cases h1
      exact fl_a h2 e
    · cases e
theorem fls_of (S : Sk K G F fp H σ ρ) : ∀ {vs : List V} {us : List U} {xs : List D}, RUs K G F fp H σ ρ vs us → views ρ us = some xs → Fls K G F H vs xs
  | _, _, _, .nil, e => by cases e; exact .nil
  | _, _, _, .cons r t _, e => by
    simp only [views] at e
    split at e
    · rename_i x e1
      split at e
      · rename_i xs e2
        cases e
        exact .cons (fl_of S r e1) (fls_of S t e2)
      · cases e
    · cases e
theorem Fl.isD (s : Same F H) (h : Fl K G F H v x) : IsD K G H v x := by
  cases h with
  | d h => exact h.mono s
  | l h1 h2 => exact .lst h1 (h2.mono s)
  | m h1 h2 h3 => exact .dct (.inl h1) h2 (h3.mono s)
theorem Fl.int {i : Int} (h : Fl K G F H v (.int i)) : v = .int i := by cases h with | d h => cases h; rfl
theorem Fl.bl {i : Bool} (h : Fl K G F H v (.bl i)) : v = .bl i := by cases h with | d h => cases h; rfl
theorem Fl.str {i : Str} (h : Fl K G F H v (.str i)) : v = .str i := by cases h with | d h => cases h; rfl
theorem Fl.non (h : Fl K G F H v .non) : v = .non := by cases h with | d h => cases h; rfl
theorem Fl.tup {ds : List D} (h : Fl K G F H v (.tup ds)) : ∃ p vs, v = .ref p ∧ SqT K F p vs ∧ IsDs K G F vs ds := by
  cases h with | d h => cases h with | tup h1 h2 => exact ⟨_, _, rfl, h1, h2⟩
theorem Fl.lst {ds : List D} (s : Same F H) (h : Fl K G F H v (.lst ds)) : ∃ p vs, v = .ref p ∧ H p = some (.lst vs) ∧ IsDs K G F vs ds := by
  cases h with
  | d h => cases h with | lst h1 h2 => exact ⟨_, _, rfl, s _ _ h1, h2⟩
  | l h1 h2 => exact ⟨_, _, rfl, h1, h2⟩
theorem Fl.scr {ns : List Int} (h : Fl K G F H v (.scr ns)) : ∃ p, v = .ref p ∧ SqL K F p (ns.map V.int) := by
  cases h with | d h => cases h with | scr h1 => exact ⟨_, rfl, h1⟩
theorem Fl.dct {ks ds : List D} (s : Same F H) (h : Fl K G F H v (.dct ks ds)) : ∃ p kws, v = .ref p ∧ Rd H p (.dK kws) ∧ kws.map (fun p => kD p.1) = ks ∧ IsDs K G F (kws.map (·.2)) ds := by
  cases h with
  | d h => cases h with | dct h1 h2 h3 => exact ⟨_, _, rfl, s.rd h1, h2, h3⟩
  | m h1 h2 h3 => exact ⟨_, _, rfl, .inl h1, h2, h3⟩
theorem Fl.isT (s : SubT G F H) (h : Fl K G F H v x) : IsD K G (noT G H) v x := by
  cases h with
  | d h => exact IsD.mono s.inT h
  | l h1 h2 => exact .lst (noT_at h1 (plain_lst _).1) (h2.mono s.inT)
  | m h1 h2 h3 => exact .dct (.inl (noT_at h1 (plain_dK _).1)) h2 (h3.mono s.inT)
theorem Fls.length {vs : List V} {xs : List D} (h : Fls K G F H vs xs) : vs.length = xs.length := by
  induction h with
  | nil => rfl
  | cons _ _ ih => simp [ih]
end

/-! ### expressions -/
abbrev SemE := Ev → Out U
abbrev SemT := Ev → Out Bool
abbrev SemA := Ev → Out (List U)
structure EE (X : Cx) (G : Tab) (W : WX) (e : Expr) (f : SemE) : Prop where
  ex : ∃ t : TE, PE X e t ∧ ∀ σ H ρ F fp Q, Sk X.K G F fp H σ ρ → Run X.K G W σ F fp H (RU X.K G) (f ρ) Q → t σ H Q
structure ET (X : Cx) (G : Tab) (W : WX) (e : Expr) (f : SemT) : Prop where
  ex : ∃ t : TT, PT X e t ∧ ∀ σ H ρ F fp Q, Sk X.K G F fp H σ ρ → Run X.K G W σ F fp H RB (f ρ) Q → t σ H Q
structure EA (X : Cx) (G : Tab) (W : WX) (es : List Expr) (f : SemA) : Prop where
  ex : ∃ t : TA, PA X es t ∧ ∀ σ H ρ F fp Q, Sk X.K G F fp H σ ρ → Run X.K G W σ F fp H (RUs X.K G) (f ρ) Q → t σ H Q
@[simp] def outB (o : Option Bool) (ρ : Ev) : Out Bool := match o with
  | some k => .ok k ρ
  | none => .bad
@[simp] def outA (o : Option A) (ρ : Ev) : Out U := match o with
  | some a => .ok (.v a) ρ
  | none => .bad
section
variable {X : Cx} {G : Tab} {W : WX} {a b c e : Expr} {es : List Expr} {fa fb fc : SemE} {pos : Pos}
@[simp] def nmS (i : Nat) : SemE := fun ρ => match ρ[i]? with
  | some (some (.d x)) => .ok (.v (.d x)) ρ
  | some (some _) => .ok (.s i) ρ
  | _ => .bad
def kS (d : D) : SemE := fun ρ => .ok (.v (.d d)) ρ
@[simp] theorem kS_eq (d : D) (ρ : Ev) : kS d ρ = .ok (.v (.d d)) ρ := rfl
theorem ee_nm {i : Nat} {x : Str} (hN : X.N[i]? = some x) (hv : Vis X.env.scope x) (hd : (x == ("__debug__" : Str)) = false) (hc : (x == ("__classdict__" : Str)) = false) : EE X G W (.Name x pos) (nmS i) := by
  refine ⟨_, pe_var (i := i) hN hv hd hc, fun σ H ρ F fp Q S h => ?_⟩
  unfold nmS at h
  split at h
  · rename_i x e
    obtain ⟨v, s, q⟩ := S.get e
    exact ⟨v, s.1, h.nowD S q⟩
  · rename_i a _ e
    obtain ⟨v, s, q⟩ := S.get e
    exact ⟨v, s.1, Run.now (b := v) h S s.1⟩
  · exact h.elim
theorem ee_k {e : Expr} {v : V} {d : D} (h : PE X e (tC v)) (hv : ∀ F, IsD X.K G F v d) : EE X G W e (kS d) :=
  ⟨_, h, fun σ H ρ F fp Q S h => h.nowD S (hv F)⟩

/-! ### rules by values -/
/-- a rule r answers as g says -/
def RulOk (K : PySem.W.Frag) (G : Tab) (r : List V → Hp → VK → Prop) (g : List D → Option A) : Prop :=
  ∀ F H vs xs a Q, Same F H → Fls K G F H vs xs → g xs = some a → (∀ F' H' v, New K G F H F' H' v a → Q v H') → r vs H Q
def OpOk (K : PySem.W.Frag) (G : Tab) (r : R2) (g : D → D → Option A) : Prop :=
  ∀ F H v w x y a Q, Same F H → Fl K G F H v x → Fl K G F H w y → g x y = some a → (∀ F' H' v, New K G F H F' H' v a → Q v H') → r v w H Q
/-- a comparison's rule -/
def CmpOk (K : PySem.W.Frag) (G : Tab) (r : R2) (g : D → D → Option Bool) : Prop :=
  ∀ F H v w x y k (Q : VK), Same F H → Fl K G F H v x → Fl K G F H w y → g x y = some k → Q (.bl k) H → r v w H Q
@[simp] def appS (g : List D → Option A) (us : List U) (ρ : Ev) : Out U := match views ρ us with
  | some xs => outA (g xs) ρ
  | none => .bad
@[simp] def app2 (g : D → D → Option A) (u w : U) (ρ : Ev) : Out U := match viewU ρ u with
  | some x => match viewU ρ w with
    | some y => outA (g x y) ρ
    | none => .bad
  | none => .bad
@[simp] def app2B (g : D → D → Option Bool) (u w : U) (ρ : Ev) : Out Bool := match viewU ρ u with
  | some x => match viewU ρ w with
    | some y => outB (g x y) ρ
    | none => .bad
  | none => .bad
@[simp] def opS (g : D → D → Option A) (f h : SemE) : SemE := fun ρ => (f ρ).bind fun u ρ1 => (h ρ1).bind fun w ρ2 => app2 g u w ρ2
theorem RU.keep {K : PySem.W.Frag} {σ : L2.St} {F H F' H' : Hp} {fp fp' : Addr → Prop} {ρ ρ' : Ev} {v : V} {u : U} (r : RU K G F fp H σ ρ v u) (e : Ex F (fun b => fp b ∧ ¬ OwnU H v u b) H F' fp' H') (S : Sk K G F' fp' H' σ ρ') : RU K G F' (fun b => fp' b ∨ OwnU H v u b) H' σ ρ' v u :=
  r.later (fun _ z => z) e S
/-- two worths, one behind the other -/
theorem two_run {K : PySem.W.Frag} {ta tb : TE} {σ : L2.St} {H : Hp} {ρ : Ev} {F : Hp} {fp : Addr → Prop} {γ δ : Type} {rel : RelT δ γ} {k : U → U → Ev → Out γ} {Q' : δ → Hp → Prop} {Q : V → V → Hp → Prop}
    (qa : ∀ σ H ρ F fp Q, Sk K G F fp H σ ρ → Run K G W σ F fp H (RU K G) (fa ρ) Q → ta σ H Q) (qb : ∀ σ H ρ F fp Q, Sk K G F fp H σ ρ → Run K G W σ F fp H (RU K G) (fb ρ) Q → tb σ H Q)
    (S : Sk K G F fp H σ ρ) (h : Run K G W σ F fp H rel ((fa ρ).bind fun u ρ1 => (fb ρ1).bind fun w ρ2 => k u w ρ2) Q')
    (step : ∀ u w ρ' v z F' fp' H', Sk K G F' fp' H' σ ρ' → RU K G F' fp' H' σ ρ' v u → RU K G F' fp' H' σ ρ' z w → (∀ b, OwnU H' v u b → ¬ OwnU H' z w b) → Run K G W σ F' fp' H' rel (k u w ρ') Q' → Q v z H') : ta σ H fun v H1 => tb σ H1 fun z H2 => Q v z H2 := by
  refine qa σ H ρ F fp _ S (h.bind fun u ρ1 v F1 fp1 H1 _ e1 S1 r1 h1 => ?_)
  refine qb σ H1 ρ1 F1 _ _ (S1.but r1) (Run.bindT (T := OwnU H1 v u) (fun b z => RU.own_fp r1 z) h1 fun w ρ2 z F2 fp2 H2 _ e2 S2 r2 h2 => ?_)
  have r1' := r1.keep e2 S2
  refine step u w ρ2 v z F2 _ H2 (S2.more fun _ z => .inl z) r1' ?_ (fun b o o' => ?_) h2
  · cases w with
    | s i => exact r2
    | v a => exact ⟨r2.1, fun b o => ⟨.inl (r2.2 b o).1, (r2.2 b o).2⟩⟩
  · replace o := (r1.own_iff (fun _ z => z) e2).1 o
    rcases e2.nfp b (RU.own_fp r2 o') with q | q
    · exact q.2 o
    · exact r1.live o q
theorem ee_op {op : Operator} {r : R2} {g : D → D → Option A} (ho : OpR X (binaryOp op) r) (hg : OpOk X.K G r g) (ha : EE X G W a fa) (hb : EE X G W b fb) : EE X G W (.BinOp a op b pos) (opS g fa fb) := by
  obtain ⟨ta, pa, qa⟩ := ha.ex
  obtain ⟨tb, pb, qb⟩ := hb.ex
  refine ⟨_, pe_op ho pa pb, fun σ H ρ F fp Q S h => ?_⟩
  refine two_run (Q := fun v w H => r v w H Q) qa qb S h fun u w ρ' v z F' fp' H' S' r1 r2 _ h' => ?_
  simp only [app2] at h'
  split at h'
  · rename_i x e1
    split at h'
    · rename_i y e2
      cases q : g x y with
      | none => rw [q] at h'; exact h'.elim
      | some a => rw [q] at h'; exact hg F' H' v z x y a Q S'.sub (fl_of S' r1 e1) (fl_of S' r2 e2) q fun F2 H2 v' n => h'.new S' n
    · exact h'.elim
  · exact h'.elim
@[simp] def cmp2 (g : D → D → Option Bool) (f h : SemE) : SemT := fun ρ => (f ρ).bind fun u ρ1 => (h ρ1).bind fun w ρ2 => app2B g u w ρ2
@[simp] def bV (k : Bool) (ρ : Ev) : Out U := .ok (.v (.d (.bl k))) ρ
@[simp] def cmpV (t : SemT) : SemE := fun ρ => (t ρ).bind bV
theorem bind2 {α β γ δ : Type} (x : Out α) (f : α → Ev → Out β) (g : α → β → Ev → Out γ) (k : γ → Ev → Out δ) : (x.bind fun u ρ1 => (f u ρ1).bind fun w ρ2 => g u w ρ2).bind k = x.bind fun u ρ1 => (f u ρ1).bind fun w ρ2 => (g u w ρ2).bind k := by
  cases x with
  | ok u ρ1 => simp only [Out.bind_ok]; cases f u ρ1 <;> rfl
  | exc => rfl
  | bad => rfl
theorem ee_cmp {op : CmpOp} {r : R2} {g : D → D → Option Bool} (ho : OpR X (compareOp op) r) (hg : CmpOk X.K G r g) (ha : EE X G W a fa) (hb : EE X G W b fb) (hs : setless b = true) :
    EE X G W (.Compare a [op] [b] pos) (cmpV (cmp2 g fa fb)) := by
  obtain ⟨ta, pa, qa⟩ := ha.ex
  obtain ⟨tb, pb, qb⟩ := hb.ex
  refine ⟨_, pe_cmpR ho pa pb (behind_c hs op), fun σ H ρ F fp Q S h => ?_⟩
  simp only [cmpV, cmp2] at h
  rw [bind2] at h
  refine two_run (Q := fun v w H => r v w H Q) qa qb S h fun u w ρ' v z F' fp' H' S' r1 r2 _ h' => ?_
  simp only [app2B] at h'
  split at h'
  · rename_i x e1
    split at h'
    · rename_i y e2
      cases q : g x y with
      | none => rw [q] at h'; exact h'.elim
      | some k => rw [q] at h'; exact hg F' H' v z x y k Q S'.sub (fl_of S' r1 e1) (fl_of S' r2 e2) q (h'.nowD S' (.bl k))
    · exact h'.elim
  · exact h'.elim
theorem et_cmp {op : CmpOp} {r : R2} {g : D → D → Option Bool} (ho : OpR X (compareOp op) r) (hg : CmpOk X.K G r g) (ha : EE X G W a fa) (hb : EE X G W b fb) (hs : setless b = true) :
    ET X G W (.Compare a [op] [b] pos) (cmp2 g fa fb) := by
  obtain ⟨ta, pa, qa⟩ := ha.ex
  obtain ⟨tb, pb, qb⟩ := hb.ex
  refine ⟨_, pt_cmpR ho pa pb (behind_c hs op), fun σ H ρ F fp Q S h => ?_⟩
  refine two_run (Q := fun v w H => r v w H fun v H' => ∃ b, v = .bl b ∧ Q b H') qa qb S h fun u w ρ' v z F' fp' H' S' r1 r2 _ h' => ?_
  simp only [app2B] at h'
  split at h'
  · rename_i x e1
    split at h'
    · rename_i y e2
      cases q : g x y with
      | none => rw [q] at h'; exact h'.elim
      | some k => rw [q] at h'; exact hg F' H' v z x y k _ S'.sub (fl_of S' r1 e1) (fl_of S' r2 e2) q ⟨k, rfl, Run.now h' S' rfl⟩
    · exact h'.elim
  · exact h'.elim

/-! ### lists of arguments -/
@[simp] def nilA : SemA := fun ρ => .ok [] ρ
@[simp] def consA (f : SemE) (g : SemA) : SemA := fun ρ => (f ρ).bind fun u ρ1 => (g ρ1).bind fun us ρ2 => .ok (u :: us) ρ2
theorem ea_nil : EA X G W [] nilA := ⟨_, pa_nil, fun σ H ρ F fp Q S h => Run.now h S .nil⟩
theorem RUs.more {K : PySem.W.Frag} {σ : L2.St} {F H : Hp} {fp gp : Addr → Prop} {ρ : Ev} {vs : List V} {us : List U} (r : RUs K G F fp H σ ρ vs us) (hg : ∀ b, fp b → gp b) : RUs K G F gp H σ ρ vs us := by
  induction r with
  | nil => exact .nil
  | cons h t d ih =>
    refine .cons ?_ ih d
    cases ‹U› with
    | s i => exact h
    | v a => exact ⟨h.1, fun b o => ⟨hg b (h.2 b o).1, (h.2 b o).2⟩⟩
theorem RUs.own_fp {K : PySem.W.Frag} {σ : L2.St} {F H : Hp} {fp : Addr → Prop} {ρ : Ev} {vs : List V} {us : List U} (r : RUs K G F fp H σ ρ vs us) {b : Addr} (o : OwnUs H vs us b) : fp b := by
  induction r with
  | nil => exact o.elim
  | cons h t d ih => exact o.elim (fun o => RU.own_fp h o) ih
theorem ea_cons {g : SemA} (h : EE X G W e fa) (hs : starless e = true) (h' : EA X G W es g) : EA X G W (e :: es) (consA fa g) := by
  obtain ⟨t1, p1, q1⟩ := h.ex
  obtain ⟨t2, p2, q2⟩ := h'.ex
  refine ⟨_, pa_cons p1 p2 (starEach_c hs _ _), fun σ H ρ F fp Q S h => ?_⟩
  refine q1 σ H ρ F fp _ S (h.bind fun u ρ1 v F1 fp1 H1 _ e1 S1 r1 h1 => ?_)
  refine q2 σ H1 ρ1 F1 _ _ (S1.but r1) (Run.bindT (T := OwnU H1 v u) (fun b z => RU.own_fp r1 z) h1 fun us ρ2 vs F2 fp2 H2 _ e2 S2 r2 h2 => ?_)
  refine Run.now h2 (S2.more fun _ z => .inl z) (.cons (r1.keep e2 S2) (r2.more fun _ z => .inl z) fun b o o' => ?_)
  replace o := (r1.own_iff (fun _ z => z) e2).1 o
  rcases e2.nfp b (r2.own_fp o') with q | q
  · exact q.2 o
  · exact r1.live o q

/-! ### calls of what is built in -/
variable {x : Str} {p : Pos} {ga : SemA} {g : List D → Option A} {r : List V → Hp → VK → Prop} {id T : String}
@[simp] def primS (g : List D → Option A) (ga : SemA) : SemE := fun ρ => (ga ρ).bind fun us ρ1 => appS g us ρ1
theorem run_prim {K : PySem.W.Frag} {σ : L2.St} {F H : Hp} {fp : Addr → Prop} {ρ : Ev} {vs : List V} {us : List U} {Q : VK} (hg : RulOk K G r g) (S : Sk K G F fp H σ ρ) (r1 : RUs K G F fp H σ ρ vs us) (h : Run K G W σ F fp H (RU K G) (appS g us ρ) Q) : r vs H Q := by
  simp only [appS] at h
  split at h
  · rename_i xs e
    cases q : g xs with
    | none => rw [q] at h; exact h.elim
    | some a => rw [q] at h; exact hg F H vs xs a Q S.sub (fls_of S r1 e) q fun F' H' v n => h.new S n
  · exact h.elim
theorem ee_callB (hc : CallR X (.builtin id) r) (hg : RulOk X.K G r g) (hgl : Gl X x) (hm : X.mg x = none) (hv : bootBuiltins x = some (.builtin id)) (ha : EA X G W (e :: es) ga) (hs : (e :: es).all starless = true) (hn : x ≠ "__name__") (hdb : (x == ("__debug__" : Str)) = false) :
    EE X G W (.Call (.Name x p) (e :: es) [] pos) (primS g ga) := by
  obtain ⟨t, pa, qa⟩ := ha.ex
  simp only [List.all_cons, Bool.and_eq_true] at hs
  refine ⟨_, pe_callB hc hgl hm hv pa hn hdb (starEach_c hs.1 _ _) (starless_any (pos := pos) hs.2), fun σ H ρ F fp Q S h => ?_⟩
  exact qa σ H ρ F fp _ S (h.bind fun us ρ1 vs F1 fp1 H1 _ e1 S1 r1 h1 => run_prim hg S1 r1 h1)
theorem ee_callTy (hc : CallR X (.type T) r) (hg : RulOk X.K G r g) (hgl : Gl X x) (hm : X.mg x = none) (hv : bootBuiltins x = some (.type T)) (ha : EA X G W (e :: es) ga) (hs : (e :: es).all starless = true) (hn : x ≠ "__name__") (hdb : (x == ("__debug__" : Str)) = false) :
    EE X G W (.Call (.Name x p) (e :: es) [] pos) (primS g ga) := by
  obtain ⟨t, pa, qa⟩ := ha.ex
  simp only [List.all_cons, Bool.and_eq_true] at hs
  refine ⟨_, pe_callTy hc hgl hm hv pa hn hdb (starEach_c hs.1 _ _) (starless_any (pos := pos) hs.2), fun σ H ρ F fp Q S h => ?_⟩
  exact qa σ H ρ F fp _ S (h.bind fun us ρ1 vs F1 fp1 H1 _ e1 S1 r1 h1 => run_prim hg S1 r1 h1)
end
end Pv

namespace Pv
open PySem PySem.Spec PyProof.Rows L2

/-! ### standing for good -/
@[simp] def frz : U → Ev → Out D
  | .v a, ρ => match flatA a with
    | some x => .ok x ρ
    | none => .bad
  | .s i, ρ => match ρ[i]? with
    | some (some a) => match flatA a with
      | some x => .ok x (ρ.set i (some (.d x)))
      | none => .bad
    | _ => .bad
@[simp] def frzs : List U → Ev → Out (List D)
  | [], ρ => .ok [] ρ
  | u :: us, ρ => (frz u ρ).bind fun x ρ1 => (frzs us ρ1).bind fun xs ρ2 => .ok (x :: xs) ρ2
section
variable {K : PySem.W.Frag} {G : Tab} {W : WX} {σ : L2.St} {F F' H H' : Hp} {fp fp' gp : Addr → Prop} {ρ ρ' : Ev} {v : V} {vs : List V} {u : U} {us : List U} {a : A} {x : D} {xs : List D} {p : Addr}
theorem freeze_a (s : SubT G F H) (h : IsA K G F H v a) (e : flatA a = some x) (ho : ∀ b, Own H v a b → F b = none) :
    ∃ F', Same F F' ∧ SubT G F' H ∧ IsD K G F' v x ∧ ∀ b o, F' b = some o → F b = some o ∨ Own H v a b := by
  have sub : ∀ (p : Addr) (o : HO), H p = some o → (∀ ps, o ≠ .tbl ps) → SubT G (upd F p o) H := fun p o hp nt => ⟨fun b u e => by
    by_cases hb : b = p
    · subst hb; rw [upd_same] at e; rw [hp]; exact e
    · rw [upd_ne hb] at e; exact s _ _ e, s.t, fun b ps e => by
    by_cases hb : b = p
    · subst hb; rw [upd_same] at e; exact nt ps (Option.some.inj e)
    · rw [upd_ne hb] at e; exact s.n b ps e⟩
  cases a with
  | d y => cases e; exact ⟨F, Same.refl _, s, h, fun _ _ z => .inl z⟩
  | l ds =>
    cases e
    obtain ⟨p, vs, rfl, h1, h2⟩ := h
    have hF : F p = none := ho p rfl
    exact ⟨upd F p (.lst vs), same_new hF, sub _ _ h1 (plain_lst _).1, .lst upd_same (h2.mono (same_new hF)), fun b o e => by
      by_cases hb : b = p
      · exact .inr hb
      · rw [upd_ne hb] at e; exact .inl e⟩
  | m kvs =>
    cases e
    obtain ⟨p, kws, rfl, h1, h2, h3⟩ := h
    have hF : F p = none := ho p rfl
    exact ⟨upd F p (.dK kws), same_new hF, sub _ _ h1 (plain_dK _).1, .dct (.inl upd_same) h2 (h3.mono (same_new hF)), fun b o e => by
      by_cases hb : b = p
      · exact .inr hb
      · rw [upd_ne hb] at e; exact .inl e⟩
  | n os ds => cases e
theorem frz_ok (S : Sk K G F fp H σ ρ) (r : RU K G F fp H σ ρ v u) (e : frz u ρ = .ok x ρ') :
    ∃ F', Ex F fp H F' fp H ∧ Sk K G F' fp H σ ρ' ∧ IsD K G F' v x ∧ (∀ b o, F' b = some o → F b = some o ∨ OwnU H v u b ∨ ∃ i a, u = .s i ∧ Sl σ ρ i v a ∧ Own H v a b) ∧ ∀ i w c b, Sl σ ρ' i w c → Own H w c b → Sl σ ρ i w c := by
  cases u with
  | v a =>
    simp only [frz] at e
    split at e
    · rename_i y e1
      cases e
      obtain ⟨F', f1, f2, f3, f4⟩ := freeze_a S.sub r.1 e1 fun b o => (r.2 b o).2.1
      refine ⟨F', ⟨f1, fun _ _ z _ _ => z, fun b o z => ?_, fun _ z => .inl z, fun _ z => z⟩, ⟨f2, S.len, fun i c hc => ?_, fun i w c b s o => ⟨(S.own i w c b s o).1, ?_⟩, S.inj⟩, f3, fun b o z => (f4 b o z).imp id .inl, fun i w c b s _ => s⟩
      · rcases f4 b o z with q | q
        · exact .inl q
        · exact .inr (.inr (r.2 b q).1)
      · obtain ⟨w, s, q⟩ := S.get hc
        exact ⟨w, s.1, q.frame f1 fun _ _ _ z => z⟩
      · cases z : F' b with
        | none => rfl
        | some q =>
          rcases f4 b q z with q' | q'
          · rw [(S.own i w c b s o).2] at q'; cases q'
          · exact absurd o ((r.2 b q').2.2 i w c s)
    · cases e
  | s i =>
    simp only [frz] at e
    split at e
    · rename_i a ha
      split at e
      · rename_i y e1
        cases e
        have sl : Sl σ ρ i v a := ⟨r, ha⟩
        obtain ⟨F', f1, f2, f3, f4⟩ := freeze_a S.sub (S.is sl) e1 fun b o => (S.own i v a b sl o).2
        have back : ∀ j w c b, Sl σ (ρ.set i (some (.d x))) j w c → Own H w c b → j ≠ i ∧ Sl σ ρ j w c := fun j w c b s o => by
          by_cases hj : j = i
          · subst hj
            have l2 : j < ρ.length := by
              have := (List.getElem?_eq_some_iff.mp s.2).1
              simpa using this
            have := s.2
            rw [List.getElem?_set_self l2] at this
            cases this
            simp at o
          · refine ⟨hj, s.1, ?_⟩
            have := s.2
            rwa [List.getElem?_set_ne (fun z => hj z.symm)] at this
        refine ⟨F', ⟨f1, fun _ _ z _ _ => z, fun b o z => ?_, fun _ z => .inl z, fun _ z => z⟩, ⟨f2, by simp [S.len], fun j c hc => ?_, fun j w c b s o => ?_, fun j k w w' c c' b hne s s' o o' => S.inj j k w w' c c' b hne (back _ _ _ _ s o).2 (back _ _ _ _ s' o').2 o o'⟩, f3, fun b o z => (f4 b o z).imp id fun q => .inr ⟨i, a, rfl, sl, q⟩, fun j w c b s o => (back j w c b s o).2⟩
        · rcases f4 b o z with q | q
          · exact .inl q
          · exact .inr (.inr (S.own i v a b sl q).1)
        · by_cases hj : j = i
          · subst hj
            have l2 : j < ρ.length := by
              have := (List.getElem?_eq_some_iff.mp hc).1
              simpa using this
            rw [List.getElem?_set_self l2] at hc
            cases hc
            exact ⟨v, r, f3⟩
          · rw [List.getElem?_set_ne (fun z => hj z.symm)] at hc
            obtain ⟨w, s, q⟩ := S.get hc
            exact ⟨w, s.1, q.frame f1 fun _ _ _ z => z⟩
        · obtain ⟨hj, s'⟩ := back j w c b s o
          refine ⟨(S.own j w c b s' o).1, ?_⟩
          cases z : F' b with
          | none => rfl
          | some q =>
            rcases f4 b q z with q' | q'
            · rw [(S.own j w c b s' o).2] at q'; cases q'
            · exact (S.inj j i w v c a b hj s' sl o q').elim
      · cases e
    · cases e
theorem frz_nox {x : X1} : frz u ρ ≠ .exc x ρ' := by
  cases u with
  | v a => simp only [frz]; split <;> intro h <;> cases h
  | s i =>
    simp only [frz]
    split
    · split <;> intro h <;> cases h
    · intro h; cases h
theorem frzs_nox : ∀ {us : List U} {ρ ρ' : Ev} {x : X1}, frzs us ρ ≠ .exc x ρ'
  | [], ρ, ρ', x, h => by cases h
  | u :: us, ρ, ρ', x, h => by
    simp only [frzs] at h
    cases e : frz u ρ with
    | bad => rw [e] at h; cases h
    | exc y ρ1 => exact frz_nox e
    | ok y ρ1 =>
      rw [e] at h
      simp only [Out.bind_ok] at h
      cases e2 : frzs us ρ1 with
      | bad => rw [e2] at h; cases h
      | exc y ρ1 => exact frzs_nox e2
      | ok y ρ1 => rw [e2] at h; cases h
theorem Out.bind_inv {α β : Type} {o : Out α} {f : α → Ev → Out β} {b : β} {ρ : Ev} (h : o.bind f = .ok b ρ) : ∃ a ρ', o = .ok a ρ' ∧ f a ρ' = .ok b ρ := by
  cases o with
  | ok a ρ' => exact ⟨a, ρ', rfl, h⟩
  | exc _ _ => cases h
  | bad => cases h
/-- what is left of the rest when the first one is frozen -/
theorem RUs.frozen {w : V} {vs : List V} {us : List U} (S : Sk K G F fp H σ ρ) (r : RUs K G F fp H σ ρ vs us) (f1 : Same F F') (f4 : ∀ b o, F' b = some o → F b = some o ∨ OwnU H v u b ∨ ∃ i a, u = .s i ∧ Sl σ ρ i v a ∧ Own H v a b)
    (f5 : ∀ i w c b, Sl σ ρ' i w c → Own H w c b → Sl σ ρ i w c) (dj : ∀ b, OwnU H v u b → ¬ OwnUs H vs us b) : RUs K G F' fp H σ ρ' vs us := by
  induction r with
  | nil => exact .nil
  | @cons v1 vs1 u1 us1 h t d ih =>
    refine .cons ?_ (ih fun b o z => dj b o (.inr z)) d
    cases u1 with
    | s i => exact h
    | v a =>
      refine ⟨h.1.frame f1 fun _ _ _ z => z, fun b o => ⟨(h.2 b o).1, ?_, fun i w c s q => (h.2 b o).2.2 i w c (f5 i w c b s q) q⟩⟩
      cases z : F' b with
      | none => rfl
      | some q =>
        rcases f4 b q z with q' | q' | ⟨i, c, _, s, o'⟩
        · rw [(h.2 b o).2.1] at q'; cases q'
        · exact absurd (.inl o) (dj b q')
        · exact ((h.2 b o).2.2 i v c s o').elim
theorem frzs_ok : ∀ {vs : List V} {us : List U} {xs : List D} {F : Hp} {ρ : Ev}, Sk K G F fp H σ ρ → RUs K G F fp H σ ρ vs us → frzs us ρ = .ok xs ρ' → ∃ F', Ex F fp H F' fp H ∧ Sk K G F' fp H σ ρ' ∧ IsDs K G F' vs xs
  | _, _, _, F, ρ, S, .nil, e => by cases e; exact ⟨F, Ex.refl _ _ _, S, .nil⟩
  | _, u :: us, _, F, ρ, S, .cons r t d, e => by
    simp only [frzs] at e
    obtain ⟨x, ρ1, e1, e⟩ := Out.bind_inv e
    obtain ⟨ys, ρ2, e2, e⟩ := Out.bind_inv e
    cases e
    obtain ⟨F1, x1, S1, d1, f4, f5⟩ := frz_ok S r e1
    obtain ⟨F2, x2, S2, d2⟩ := frzs_ok S1 (RUs.frozen (w := .non) S t x1.fr f4 f5 d) e2
    exact ⟨F2, x1.trans x2, S2, .cons (d1.mono x2.fr) d2⟩
end

section
variable {X : Cx} {G : Tab} {W : WX} {a b c e : Expr} {es : List Expr} {fa fb fc : SemE} {pos : Pos}
@[simp] def dE (f : SemE) : Ev → Out D := fun ρ => (f ρ).bind frz
/-- a worth, frozen -/
theorem run_dE {K : PySem.W.Frag} {ta : TE} {σ : L2.St} {H : Hp} {ρ : Ev} {F : Hp} {fp : Addr → Prop} {γ δ : Type} {rel : RelT δ γ} {k : D → Ev → Out γ} {Q' : δ → Hp → Prop} {Q : VK}
    (qa : ∀ σ H ρ F fp Q, Sk K G F fp H σ ρ → Run K G W σ F fp H (RU K G) (fa ρ) Q → ta σ H Q)
    (S : Sk K G F fp H σ ρ) (h : Run K G W σ F fp H rel ((dE fa ρ).bind k) Q')
    (step : ∀ x ρ' v F' fp' H', dE fa ρ = .ok x ρ' → Ex F fp H F' fp' H' → Sk K G F' fp' H' σ ρ' → IsD K G F' v x → Run K G W σ F' fp' H' rel (k x ρ') Q' → Q v H') : ta σ H Q := by
  have h : Run K G W σ F fp H rel ((fa ρ).bind fun u ρ1 => (frz u ρ1).bind k) Q' := by
    simp only [dE] at h
    cases q : fa ρ <;> rw [q] at h <;> exact h
  refine qa σ H ρ F fp _ S (h.bind fun u ρ1 v F1 fp1 H1 z1 e1 S1 r1 h1 => ?_)
  cases q : frz u ρ1 with
  | bad => rw [q] at h1; exact h1.elim
  | exc x ρ' => exact absurd q frz_nox
  | ok x ρ' =>
    rw [q] at h1
    obtain ⟨F2, x2, S2, d2, _, _⟩ := frz_ok S1 r1 q
    refine step x ρ' v F2 fp1 H1 (by simp only [dE, z1, Out.bind_ok, q]) (e1.trans x2) S2 d2 (Run.later x2 h1)
@[simp] def frzA (k : List D → Option A) (us : List U) (ρ : Ev) : Out U := (frzs us ρ).bind fun xs ρ1 => outA (k xs) ρ1
@[simp] def tupV (xs : List D) : Option A := if xs.length ≤ 16777216 then some (.d (.tup xs)) else none
@[simp] def lstV (xs : List D) : Option A := if xs.length ≤ 16777216 then some (.l xs) else none
@[simp] def dispS (k : List D → Option A) (ga : SemA) : SemE := fun ρ => (ga ρ).bind fun us ρ1 => frzA k us ρ1
theorem run_frz {K : PySem.W.Frag} {σ : L2.St} {F H : Hp} {fp : Addr → Prop} {ρ : Ev} {vs : List V} {us : List U} {γ δ : Type} {rel : RelT δ γ} {k : List D → Ev → Out γ} {Q' : δ → Hp → Prop} {P : Prop} (S : Sk K G F fp H σ ρ) (r : RUs K G F fp H σ ρ vs us) (h : Run K G W σ F fp H rel ((frzs us ρ).bind k) Q')
    (step : ∀ xs ρ' F', Ex F fp H F' fp H → Sk K G F' fp H σ ρ' → IsDs K G F' vs xs → Run K G W σ F' fp H rel (k xs ρ') Q' → P) : P := by
  cases q : frzs us ρ with
  | bad => rw [q] at h; exact h.elim
  | exc x ρ' => exact absurd q frzs_nox
  | ok xs ρ' =>
    rw [q] at h
    obtain ⟨F2, x2, S2, d2⟩ := frzs_ok S r q
    exact step xs ρ' F2 x2 S2 d2 (Run.later x2 h)
theorem ee_tup {g : SemA} {x1 : Nat} (h : EA X G W es g) : EE X G W (.Tuple es x1 pos) (dispS tupV g) := by
  obtain ⟨t1, p1, q1⟩ := h.ex
  refine ⟨_, pe_tup p1, fun σ H ρ F fp Q S h => ?_⟩
  refine q1 σ H ρ F fp _ S (h.bind fun us ρ1 vs F1 fp1 H1 _ e1 S1 r1 h1 => ?_)
  refine run_frz S1 r1 h1 fun xs ρ2 F2 e2 S2 d2 h2 => ?_
  simp only [tupV] at h2
  split at h2
  · rename_i hl
    exact ⟨by rw [d2.length, ← lim_eq]; exact hl, fun p hp => h2.new S2 (New.tup S2.sub hp d2)⟩
  · exact h2.elim
theorem ee_lst {g : SemA} (h : EA X G W es g) : EE X G W (.List es pos) (dispS lstV g) := by
  obtain ⟨t1, p1, q1⟩ := h.ex
  refine ⟨_, pe_lst p1, fun σ H ρ F fp Q S h => ?_⟩
  refine q1 σ H ρ F fp _ S (h.bind fun us ρ1 vs F1 fp1 H1 _ e1 S1 r1 h1 => ?_)
  refine run_frz S1 r1 h1 fun xs ρ2 F2 e2 S2 d2 h2 => ?_
  simp only [lstV] at h2
  split at h2
  · rename_i hl
    exact ⟨by rw [d2.length, ← lim_eq]; exact hl, fun p hp => h2.new S2 (New.lst S2.sub hp d2)⟩
  · exact h2.elim

/-! ### truths, and, or, not, if -/
@[simp] def boolD : D → Option Bool
  | .bl b => some b
  | .non => some false
  | .int i => some (i != 0)
  | .str x => if x.length ≤ 16777216 then some ((x.length : Int) != 0) else none
  | .lst xs => some (!xs.isEmpty)
  | .tup xs => some (!xs.isEmpty)
  | _ => none
theorem IsDs.emp {K : PySem.W.Frag} {F : Hp} {vs : List V} {ds : List D} (h : IsDs K G F vs ds) : vs.isEmpty = ds.isEmpty := by
  cases h <;> rfl
theorem tru_of {F H : Hp} {v : V} {x : D} {k : Bool} (s : Same F H) (r : Fl X.K G F H v x) (h : boolD x = some k) : TruV X.K v H k := by
  unfold boolD at h
  split at h
  · rename_i b; obtain rfl := r.bl; cases h; rfl
  · obtain rfl := r.non; cases h; rfl
  · rename_i b; obtain rfl := r.int; cases h; rfl
  · rename_i x
    obtain rfl := r.str
    split at h
    · rename_i hl; cases h; exact ⟨by rw [← lim_eq]; exact hl, rfl⟩
    · cases h
  · rename_i xs
    obtain ⟨p, vs, rfl, hp, hs⟩ := r.lst s
    cases h
    exact .inl ⟨vs, SqL.of hp, by rw [hs.emp]⟩
  · rename_i xs
    obtain ⟨p, vs, rfl, hp, hs⟩ := r.tup
    cases h
    exact .inr (.inl ⟨vs, s.seqT hp, by rw [hs.emp]⟩)
  · cases h
@[simp] def truS (u : U) (ρ : Ev) : Out Bool := match viewU ρ u with
  | some x => outB (boolD x) ρ
  | none => .bad
@[simp] def valT (f : SemE) : SemT := fun ρ => (f ρ).bind truS
theorem et_val (he : EE X G W e fa) (hp : plainT e = true) : ET X G W e (valT fa) := by
  obtain ⟨t, p, q⟩ := he.ex
  refine ⟨_, pt_truth p (true_c hp _), fun σ H ρ F fp Q S h => ?_⟩
  refine q σ H ρ F fp _ S (h.bind fun u ρ1 v F1 fp1 H1 _ e1 S1 r1 h1 => ?_)
  simp only [truS] at h1
  split at h1
  · rename_i x e2
    cases k : boolD x with
    | none => rw [k] at h1; exact h1.elim
    | some b => rw [k] at h1; exact ⟨b, tru_of S1.sub (fl_of S1 r1 e2) k, Run.now h1 S1 rfl⟩
  · exact h1.elim
@[simp] def notT (t : SemT) : SemT := fun ρ => (t ρ).bind fun k ρ1 => .ok (!k) ρ1
theorem et_not {t : SemT} (h : ET X G W a t) : ET X G W (.UnaryOp .Not a pos) (notT t) := by
  obtain ⟨t, p, q⟩ := h.ex
  refine ⟨_, pt_not p, fun σ H ρ F fp Q S h => ?_⟩
  exact q σ H ρ F fp _ S (h.bind fun k ρ1 b F1 fp1 H1 _ e1 S1 r1 h1 => by cases r1; exact Run.now h1 S1 rfl)
/-- a chain of and, of or: from the left -/
structure EW (X : Cx) (G : Tab) (W : WX) (e : Expr) (f : SemT) : Prop where
  ex : ∃ t : TT, PW X e t ∧ ∀ σ H ρ F fp Q, Sk X.K G F fp H σ ρ → Run X.K G W σ F fp H RB (f ρ) Q → t σ H Q
theorem EW.et {f : SemT} (h : EW X G W e f) : ET X G W e f := by
  obtain ⟨t, p, q⟩ := h.ex
  exact ⟨_, p.pt, q⟩
@[simp] def andT (s t : SemT) : SemT := fun ρ => (s ρ).bind fun k ρ1 => if k = true then t ρ1 else .ok false ρ1
@[simp] def orT (s t : SemT) : SemT := fun ρ => (s ρ).bind fun k ρ1 => if k = true then .ok true ρ1 else t ρ1
variable {rest : List Expr} {s t : SemT}
theorem ew_and1 (h : ET X G W a t) : EW X G W (.BoolOp .And [a] pos) t := by
  obtain ⟨t, p, q⟩ := h.ex
  exact ⟨_, pw_and1 p, q⟩
theorem ew_or1 (h : ET X G W a t) : EW X G W (.BoolOp .Or [a] pos) t := by
  obtain ⟨t, p, q⟩ := h.ex
  exact ⟨_, pw_or1 p, q⟩
theorem ew_and (h : ET X G W a s) (h' : EW X G W (.BoolOp .And (b :: rest) pos) t) : EW X G W (.BoolOp .And (a :: b :: rest) pos) (andT s t) := by
  obtain ⟨t1, p1, q1⟩ := h.ex
  obtain ⟨t2, p2, q2⟩ := h'.ex
  refine ⟨_, pw_and p1 p2, fun σ H ρ F fp Q S h => ?_⟩
  refine q1 σ H ρ F fp _ S (Run.bind h fun k ρ1 b F1 fp1 H1 _ e1 S1 r1 h1 => ?_)
  cases r1
  cases k with
  | true => rw [if_pos rfl]; exact q2 σ H1 ρ1 F1 fp1 _ S1 h1
  | false => rw [if_neg Bool.false_ne_true]; exact Run.now h1 S1 rfl
theorem ew_or (h : ET X G W a s) (h' : EW X G W (.BoolOp .Or (b :: rest) pos) t) : EW X G W (.BoolOp .Or (a :: b :: rest) pos) (orT s t) := by
  obtain ⟨t1, p1, q1⟩ := h.ex
  obtain ⟨t2, p2, q2⟩ := h'.ex
  refine ⟨_, pw_or p1 p2, fun σ H ρ F fp Q S h => ?_⟩
  refine q1 σ H ρ F fp _ S (Run.bind h fun k ρ1 b F1 fp1 H1 _ e1 S1 r1 h1 => ?_)
  cases r1
  cases k with
  | false => rw [if_neg Bool.false_ne_true]; exact q2 σ H1 ρ1 F1 fp1 _ S1 h1
  | true => rw [if_pos rfl]; exact Run.now h1 S1 rfl
/-- as values: all but the last are truths -/
@[simp] def isBl (u : U) (ρ : Ev) : Out Bool := match u with
  | .v (.d (.bl b)) => .ok b ρ
  | _ => .bad
@[simp] def andV (f g : SemE) : SemE := fun ρ => (f ρ).bind fun u ρ1 => (isBl u ρ1).bind fun k ρ2 => if k = true then g ρ2 else bV false ρ2
@[simp] def orV (f g : SemE) : SemE := fun ρ => (f ρ).bind fun u ρ1 => (isBl u ρ1).bind fun k ρ2 => if k = true then bV true ρ2 else g ρ2
@[simp] def notV (f : SemE) : SemE := fun ρ => (f ρ).bind fun u ρ1 => (isBl u ρ1).bind fun k ρ2 => bV (!k) ρ2
theorem isBl_of {K : PySem.W.Frag} {σ : L2.St} {F H : Hp} {fp : Addr → Prop} {ρ : Ev} {v : V} {u : U} {γ δ : Type} {rel : RelT δ γ} {k : Bool → Ev → Out γ} {Q' : δ → Hp → Prop} (r : RU K G F fp H σ ρ v u) (h : Run K G W σ F fp H rel ((isBl u ρ).bind k) Q') : ∃ b, v = .bl b ∧ Run K G W σ F fp H rel (k b ρ) Q' := by
  unfold isBl at h
  split at h
  · rename_i b
    have q : IsD K G F v (.bl b) := r.1
    cases q
    exact ⟨b, rfl, h⟩
  · exact h.elim
theorem ee_one {op : BoolOp} (h : EE X G W a fa) : EE X G W (.BoolOp op [a] pos) fa := by
  obtain ⟨t, p, q⟩ := h.ex
  exact ⟨_, pe_one p, q⟩
theorem ee_and (h : EE X G W a fa) (h' : EE X G W (.BoolOp .And (b :: rest) pos) fb) : EE X G W (.BoolOp .And (a :: b :: rest) pos) (andV fa fb) := by
  obtain ⟨t1, p1, q1⟩ := h.ex
  obtain ⟨t2, p2, q2⟩ := h'.ex
  refine ⟨_, pe_and p1 p2, fun σ H ρ F fp Q S h => ?_⟩
  refine q1 σ H ρ F fp _ S (Run.bind h fun u ρ1 v F1 fp1 H1 _ e1 S1 r1 h1 => ?_)
  obtain ⟨b, e2, h2⟩ := isBl_of r1 h1
  refine ⟨b, e2, ?_⟩
  cases b with
  | true => rw [if_pos rfl]; exact q2 σ H1 ρ1 F1 fp1 _ S1 h2
  | false => rw [if_neg Bool.false_ne_true]; exact Run.nowD h2 S1 (IsD.bl false)
theorem ee_or (h : EE X G W a fa) (h' : EE X G W (.BoolOp .Or (b :: rest) pos) fb) : EE X G W (.BoolOp .Or (a :: b :: rest) pos) (orV fa fb) := by
  obtain ⟨t1, p1, q1⟩ := h.ex
  obtain ⟨t2, p2, q2⟩ := h'.ex
  refine ⟨_, pe_or p1 p2, fun σ H ρ F fp Q S h => ?_⟩
  refine q1 σ H ρ F fp _ S (Run.bind h fun u ρ1 v F1 fp1 H1 _ e1 S1 r1 h1 => ?_)
  obtain ⟨b, e2, h2⟩ := isBl_of r1 h1
  refine ⟨b, e2, ?_⟩
  cases b with
  | false => rw [if_neg Bool.false_ne_true]; exact q2 σ H1 ρ1 F1 fp1 _ S1 h2
  | true => rw [if_pos rfl]; exact Run.nowD h2 S1 (IsD.bl true)
theorem ee_not (h : EE X G W a fa) : EE X G W (.UnaryOp .Not a pos) (notV fa) := by
  obtain ⟨t1, p1, q1⟩ := h.ex
  refine ⟨_, pe_not p1, fun σ H ρ F fp Q S h => ?_⟩
  refine q1 σ H ρ F fp _ S (Run.bind h fun u ρ1 v F1 fp1 H1 _ e1 S1 r1 h1 => ?_)
  obtain ⟨b, e2, h2⟩ := isBl_of r1 h1
  exact ⟨b, e2, Run.nowD h2 S1 (IsD.bl _)⟩
/-- not of anything -/
@[simp] def notW (t : SemT) : SemE := fun ρ => (t ρ).bind fun k ρ1 => bV (!k) ρ1
@[simp] def ifV (t : SemT) (f g : SemE) : SemE := fun ρ => (t ρ).bind fun k ρ1 => if k = true then f ρ1 else g ρ1
theorem ee_if (hc : ET X G W c t) (ha : EE X G W a fa) (hb : EE X G W b fb) : EE X G W (.IfExp c a b pos) (ifV t fa fb) := by
  obtain ⟨t0, p0, q0⟩ := hc.ex
  obtain ⟨t1, p1, q1⟩ := ha.ex
  obtain ⟨t2, p2, q2⟩ := hb.ex
  refine ⟨_, pe_ifExp p0 p1 p2, fun σ H ρ F fp Q S h => ?_⟩
  refine q0 σ H ρ F fp _ S (Run.bind h fun k ρ1 b F1 fp1 H1 _ e1 S1 r1 h1 => ?_)
  cases r1
  cases k with
  | true => rw [if_pos rfl]; exact q1 σ H1 ρ1 F1 fp1 _ S1 h1
  | false => rw [if_neg Bool.false_ne_true]; exact q2 σ H1 ρ1 F1 fp1 _ S1 h1
end
end Pv

namespace Pv
open PySem PySem.Spec PyProof.Rows L2

/-! ### statements -/
/-- how a statement ends -/
inductive Fw where
  | nx | rt (a : A) | bk | ct
abbrev SemS := Ev → Out Fw
/-- the names J stay -/
def Jk (J : List Nat) (σ σ' : L2.St) : Prop := σ'.length = σ.length ∧ ∀ j ∈ J, σ'[j]? = σ[j]?
theorem Jk.refl (J : List Nat) (σ : L2.St) : Jk J σ σ := ⟨rfl, fun _ _ => rfl⟩
theorem Jk.trans {J : List Nat} {σ σ' σ'' : L2.St} (a : Jk J σ σ') (b : Jk J σ' σ'') : Jk J σ σ'' := ⟨b.1.trans a.1, fun j h => (b.2 j h).trans (a.2 j h)⟩
theorem Jk.set {J : List Nat} {σ : L2.St} {i : Nat} {v : Option V} (h : i ∉ J) : Jk J σ (σ.set i v) := ⟨by simp, fun j hj =>
  List.getElem?_set_ne (fun z : i = j => h (by rw [z]; exact hj))⟩
def SRun (K : PySem.W.Frag) (G : Tab) (W : WX) (J : List Nat) (σ : L2.St) (F : Hp) (fp : Addr → Prop) (H : Hp) (r : Out Fw) (D : Ends) : Prop :=
  match r with
  | .ok .nx ρ => ∀ σ' H' F' fp', Ex F fp H F' fp' H' → Sk K G F' fp' H' σ' ρ → Jk J σ σ' → D.nx σ' H'
  | .ok (.rt a) ρ => ∀ v σ' H' F' fp', Ex F fp H F' fp' H' → Sk K G F' fp' H' σ' ρ → Jk J σ σ' → RU K G F' fp' H' σ' ρ v (.v a) → D.rt v H'
  | .ok .bk ρ => ∀ σ' H' F' fp', Ex F fp H F' fp' H' → Sk K G F' fp' H' σ' ρ → Jk J σ σ' → D.bk σ' H'
  | .ok .ct ρ => ∀ σ' H' F' fp', Ex F fp H F' fp' H' → Sk K G F' fp' H' σ' ρ → Jk J σ σ' → D.ct σ' H'
  | .exc x ρ => ∀ cls dd σ' H' F' fp', Ex F fp H F' fp' H' → Sk K G F' fp' H' σ' ρ → Jk J σ σ' → IsX K G F' H' cls dd x → W cls dd σ' H'
  | .bad => False
section
variable {K : PySem.W.Frag} {G : Tab} {W : WX} {J : List Nat} {F F' H H' : Hp} {fp fp' : Addr → Prop} {σ σ' : L2.St} {ρ : Ev}
theorem SRun.later {r : Out Fw} {D : Ends} (e : Ex F fp H F' fp' H') (j : Jk J σ σ') (h : SRun K G W J σ F fp H r D) : SRun K G W J σ' F' fp' H' r D := by
  cases r with
  | ok f S =>
    cases f with
    | nx => exact fun s2 H2 F2 f2 e2 S2 j2 => h s2 H2 F2 f2 (e.trans e2) S2 (j.trans j2)
    | rt a => exact fun v s2 H2 F2 f2 e2 S2 j2 r => h v s2 H2 F2 f2 (e.trans e2) S2 (j.trans j2) r
    | bk => exact fun s2 H2 F2 f2 e2 S2 j2 => h s2 H2 F2 f2 (e.trans e2) S2 (j.trans j2)
    | ct => exact fun s2 H2 F2 f2 e2 S2 j2 => h s2 H2 F2 f2 (e.trans e2) S2 (j.trans j2)
  | exc x S => exact fun c d s2 H2 F2 f2 e2 S2 j2 r => h c d s2 H2 F2 f2 (e.trans e2) S2 (j.trans j2) r
  | bad => exact h
/-- an expression ahead -/
theorem SRun.bindE {α β : Type} {rel : RelT β α} {x : Out α} {k : α → Ev → Out Fw} {D : Ends} {Q' : β → Hp → Prop} (h : SRun K G W J σ F fp H (x.bind k) D)
    (step : ∀ a ρ' b F' fp' H', x = .ok a ρ' → Ex F fp H F' fp' H' → Sk K G F' fp' H' σ ρ' → rel F' fp' H' σ ρ' b a → SRun K G W J σ F' fp' H' (k a ρ') D → Q' b H') : Run K G W σ F fp H rel x Q' := by
  cases x with
  | ok a S => exact fun b H' F' fp' e S' r => step a S b F' fp' H' rfl e S' r (SRun.later e (Jk.refl _ _) h)
  | exc x S => exact fun c d H' F' fp' e S' r => h c d σ H' F' fp' e S' (Jk.refl _ _) r
  | bad => exact h
end
structure SS (X : Cx) (G : Tab) (W : WX) (J : List Nat) (st : Stmt) (f : SemS) : Prop where
  ex : ∃ t : TS, PS X st t ∧ ∀ σ H ρ F fp D, Sk X.K G F fp H σ ρ → SRun X.K G W J σ F fp H (f ρ) D → t D σ H
structure SSs (X : Cx) (G : Tab) (W : WX) (J : List Nat) (st : List Stmt) (f : SemS) : Prop where
  ex : ∃ t : TS, PSs X st t ∧ ∀ σ H ρ F fp D, Sk X.K G F fp H σ ρ → SRun X.K G W J σ F fp H (f ρ) D → t D σ H
@[simp] def nilS : SemS := fun ρ => .ok .nx ρ
/-- g behind f -/
def thenS (o : Out Fw) (g : SemS) : Out Fw := match o with
  | .ok .nx ρ => g ρ
  | o => o
@[simp] theorem thenS_nx (ρ : Ev) (g : SemS) : thenS (.ok .nx ρ) g = g ρ := rfl
@[simp] theorem thenS_rt (a : A) (ρ : Ev) (g : SemS) : thenS (.ok (.rt a) ρ) g = .ok (.rt a) ρ := rfl
@[simp] theorem thenS_bk (ρ : Ev) (g : SemS) : thenS (.ok .bk ρ) g = .ok .bk ρ := rfl
@[simp] theorem thenS_ct (ρ : Ev) (g : SemS) : thenS (.ok .ct ρ) g = .ok .ct ρ := rfl
@[simp] theorem thenS_exc (x : X1) (ρ : Ev) (g : SemS) : thenS (.exc x ρ) g = .exc x ρ := rfl
@[simp] theorem thenS_bad (g : SemS) : thenS .bad g = .bad := rfl
@[simp] def seqS (f g : SemS) : SemS := fun ρ => thenS (f ρ) g
section
variable {X : Cx} {G : Tab} {W : WX} {J : List Nat} {st : Stmt} {sts : List Stmt} {f g : SemS} {a b c e : Expr} {es : List Expr} {fa fb fc : SemE} {pos : Pos}
theorem SRun.then {K : PySem.W.Frag} {F H : Hp} {fp : Addr → Prop} {σ : L2.St} {o : Out Fw} {D : Ends} {N : L2.St → Hp → Prop} (h : SRun K G W J σ F fp H (thenS o g) D)
    (step : ∀ ρ' σ' H' F' fp', Ex F fp H F' fp' H' → Sk K G F' fp' H' σ' ρ' → SRun K G W J σ' F' fp' H' (g ρ') D → N σ' H') : SRun K G W J σ F fp H o { D with nx := N } := by
  cases o with
  | ok fl S =>
    cases fl with
    | nx => exact fun σ' H' F' fp' e S' j => step S σ' H' F' fp' e S' (SRun.later e j h)
    | rt u => exact h
    | bk => exact h
    | ct => exact h
  | exc x S => exact h
  | bad => exact h
theorem sss_nil : SSs X G W J [] nilS := ⟨_, pss_nil, fun σ H ρ F fp D S h => h σ H F fp (Ex.refl _ _ _) S (Jk.refl _ _)⟩
theorem sss_cons (h1 : SS X G W J st f) (h2 : SSs X G W J sts g) : SSs X G W J (st :: sts) (seqS f g) := by
  obtain ⟨t1, p1, q1⟩ := h1.ex
  obtain ⟨t2, p2, q2⟩ := h2.ex
  refine ⟨_, pss_cons p1 p2, fun σ H ρ F fp D S h => ?_⟩
  exact q1 σ H ρ F fp _ S (SRun.then h fun ρ' σ' H' F' fp' e S' h' => q2 σ' H' ρ' F' fp' D S' h')
theorem ss_pass : SS X G W J (.Pass pos) nilS := ⟨_, ps_pass, fun σ H ρ F fp D S h => h σ H F fp (Ex.refl _ _ _) S (Jk.refl _ _)⟩
theorem ss_break : SS X G W J (.Break pos) (fun ρ => .ok .bk ρ) := ⟨_, ps_break, fun σ H ρ F fp D S h => h σ H F fp (Ex.refl _ _ _) S (Jk.refl _ _)⟩
theorem ss_cont : SS X G W J (.Continue pos) (fun ρ => .ok .ct ρ) := ⟨_, ps_continue, fun σ H ρ F fp D S h => h σ H F fp (Ex.refl _ _ _) S (Jk.refl _ _)⟩
/-- told: what is one's own goes along -/
@[simp] def giveU (J : List Nat) (u : U) (ρ : Ev) : Out Fw := match u with
  | .v a => .ok (.rt a) ρ
  | .s i => if i ∈ J then .bad else match ρ[i]? with
    | some (some a) => .ok (.rt a) (ρ.set i none)
    | _ => .bad
@[simp] def retS (J : List Nat) (f : SemE) : SemS := fun ρ => (f ρ).bind (giveU J)
theorem Sk.give {K : PySem.W.Frag} {F H : Hp} {fp : Addr → Prop} {σ : L2.St} {ρ : Ev} {i : Nat} {v : V} {a : A} (S : Sk K G F fp H σ ρ) (s : Sl σ ρ i v a) : RU K G F fp H σ (ρ.set i none) v (.v a) := by
  refine ⟨S.is s, fun b o => ⟨(S.own i v a b s o).1, (S.own i v a b s o).2, fun j w c t o' => ?_⟩⟩
  by_cases e : j = i
  · subst e
    have l2 : j < ρ.length := (List.getElem?_eq_some_iff.mp s.2).1
    have := t.2
    rw [List.getElem?_set_self l2] at this
    cases this
  · have := t.2
    rw [List.getElem?_set_ne (fun z => e z.symm)] at this
    exact S.inj j i w v c a b e ⟨t.1, this⟩ s o' o
theorem ss_ret (h : EE X G W e fa) : SS X G W J (.Return (some e) pos) (retS J fa) := by
  obtain ⟨t, p, q⟩ := h.ex
  refine ⟨_, ps_ret p, fun σ H ρ F fp D S h => ?_⟩
  refine q σ H ρ F fp _ S (SRun.bindE h fun u ρ1 v F1 fp1 H1 _ e1 S1 r1 h1 => ?_)
  cases u with
  | v a => exact h1 v σ H1 F1 fp1 (Ex.refl _ _ _) S1 (Jk.refl _ _) r1
  | s i =>
    simp only [giveU] at h1
    split at h1
    · exact h1.elim
    · split at h1
      · rename_i a ha
        exact h1 v σ H1 F1 fp1 (Ex.refl _ _ _) (S1.unset i) (Jk.refl _ _) (S1.give ⟨r1, ha⟩)
      · exact h1.elim
theorem ss_retN : SS X G W J (.Return none pos) (fun ρ => .ok (.rt (.d .non)) ρ) :=
  ⟨_, ps_retN, fun σ H ρ F fp D S h => h .non σ H F fp (Ex.refl _ _ _) S (Jk.refl _ _) ⟨IsD.non, fun b o => by simp at o⟩⟩
/-- what a name is to hold: a thing of its own, or a datum -/
@[simp] def toA : U → Ev → Out A
  | .v a, ρ => .ok a ρ
  | .s i, ρ => (frz (.s i) ρ).bind fun x ρ1 => .ok (.d x) ρ1
@[simp] def toAs : List U → Ev → Out (List A)
  | [], ρ => .ok [] ρ
  | u :: us, ρ => (toA u ρ).bind fun a ρ1 => (toAs us ρ1).bind fun as ρ2 => .ok (a :: as) ρ2
theorem toA_ok {K : PySem.W.Frag} {F H : Hp} {fp : Addr → Prop} {σ : L2.St} {ρ ρ' : Ev} {v : V} {u : U} {a : A} (S : Sk K G F fp H σ ρ) (r : RU K G F fp H σ ρ v u) (e : toA u ρ = .ok a ρ') :
    ∃ F', Ex F fp H F' fp H ∧ Sk K G F' fp H σ ρ' ∧ RU K G F' fp H σ ρ' v (.v a) ∧ (∀ b o, F' b = some o → F b = some o ∨ ∃ i c, u = .s i ∧ Sl σ ρ i v c ∧ Own H v c b) ∧ (∀ i w c b, Sl σ ρ' i w c → Own H w c b → Sl σ ρ i w c) ∧ ∀ b, Own H v a b → OwnU H v u b := by
  cases u with
  | v c => cases e; exact ⟨F, Ex.refl _ _ _, S, r, fun _ _ z => .inl z, fun _ _ _ _ s _ => s, fun _ z => z⟩
  | s i =>
    simp only [toA] at e
    obtain ⟨x, ρ1, e1, e⟩ := Out.bind_inv e
    cases e
    obtain ⟨F', x1, S1, d1, f4, f5⟩ := frz_ok S r e1
    refine ⟨F', x1, S1, ⟨d1, fun b o => by simp at o⟩, fun b o z => ?_, f5, fun b o => by simp at o⟩
    rcases f4 b o z with q | q | q
    · exact .inl q
    · exact q.elim
    · exact .inr q
theorem toA_nox {u : U} {ρ ρ' : Ev} {x : X1} : toA u ρ ≠ .exc x ρ' := by
  cases u with
  | v a => intro h; cases h
  | s i =>
    intro h
    simp only [toA] at h
    cases e : frz (.s i) ρ with
    | bad => rw [e] at h; cases h
    | exc y ρ1 => exact frz_nox e
    | ok y ρ1 => rw [e] at h; cases h
theorem RUs.frozen2 {K : PySem.W.Frag} {F F' H : Hp} {fp : Addr → Prop} {σ : L2.St} {ρ ρ' : Ev} {v : V} {u : U} {vs : List V} {us : List U} (r : RUs K G F fp H σ ρ vs us) (f1 : Same F F') (f4 : ∀ b o, F' b = some o → F b = some o ∨ ∃ i a, u = .s i ∧ Sl σ ρ i v a ∧ Own H v a b)
    (f5 : ∀ i w c b, Sl σ ρ' i w c → Own H w c b → Sl σ ρ i w c) : RUs K G F' fp H σ ρ' vs us := by
  induction r with
  | nil => exact .nil
  | @cons v1 vs1 u1 us1 h t d ih =>
    refine .cons ?_ ih d
    cases u1 with
    | s i => exact h
    | v a =>
      refine ⟨h.1.frame f1 fun _ _ _ z => z, fun b o => ⟨(h.2 b o).1, ?_, fun i w c s q => (h.2 b o).2.2 i w c (f5 i w c b s q) q⟩⟩
      cases z : F' b with
      | none => rfl
      | some q =>
        rcases f4 b q z with q' | ⟨i, c, _, s, o'⟩
        · rw [(h.2 b o).2.1] at q'; cases q'
        · exact ((h.2 b o).2.2 i v c s o').elim
theorem toAs_nox : ∀ {us : List U} {ρ ρ' : Ev} {x : X1}, toAs us ρ ≠ .exc x ρ'
  | [], ρ, ρ', x, h => by cases h
  | u :: us, ρ, ρ', x, h => by
    simp only [toAs] at h
    cases e : toA u ρ with
    | bad => rw [e] at h; cases h
    | exc y ρ1 => exact toA_nox e
    | ok y ρ1 =>
      rw [e] at h
      simp only [Out.bind_ok] at h
      cases e2 : toAs us ρ1 with
      | bad => rw [e2] at h; cases h
      | exc y ρ1 => exact toAs_nox e2
      | ok y ρ1 => rw [e2] at h; cases h
theorem toAs_ok {K : PySem.W.Frag} {H : Hp} {fp : Addr → Prop} {σ : L2.St} {ρ' : Ev} : ∀ {vs : List V} {us : List U} {as : List A} {F : Hp} {ρ : Ev}, Sk K G F fp H σ ρ → RUs K G F fp H σ ρ vs us → toAs us ρ = .ok as ρ' → ∃ F', Ex F fp H F' fp H ∧ Sk K G F' fp H σ ρ' ∧ RUs K G F' fp H σ ρ' vs (as.map .v) ∧
    (∀ b o, F' b = some o → F b = some o ∨ ∃ i w c, Sl σ ρ i w c ∧ Own H w c b) ∧ (∀ i w c b, Sl σ ρ' i w c → Own H w c b → Sl σ ρ i w c) ∧ ∀ b, OwnUs H vs (as.map .v) b → OwnUs H vs us b
  | _, _, _, F, ρ, S, .nil, e => by cases e; exact ⟨F, Ex.refl _ _ _, S, .nil, fun _ _ z => .inl z, fun _ _ _ _ s _ => s, fun _ z => z⟩
  | v :: vs, u :: us, _, F, ρ, S, .cons r t d, e => by
    simp only [toAs] at e
    obtain ⟨x, ρ1, e1, e⟩ := Out.bind_inv e
    obtain ⟨ys, ρ2, e2, e⟩ := Out.bind_inv e
    cases e
    obtain ⟨F1, x1, S1, d1, f4, f5, f6⟩ := toA_ok S r e1
    obtain ⟨F2, x2, S2, d2, g4, g5, g6⟩ := toAs_ok S1 (RUs.frozen2 t x1.fr f4 f5) e2
    refine ⟨F2, x1.trans x2, S2, .cons ⟨d1.1.frame x2.fr fun _ _ _ z => z, fun b o => ⟨(d1.2 b o).1, ?_, fun i w c s q => (d1.2 b o).2.2 i w c (g5 i w c b s q) q⟩⟩ d2 fun b o o' => d b (f6 b o) (g6 b o'), fun b o z => ?_, fun i w c b s o => f5 i w c b (g5 i w c b s o) o, fun b o => o.imp (f6 b) (g6 b)⟩
    · cases z : F2 b with
      | none => rfl
      | some q =>
        rcases g4 b q z with q' | ⟨i, w, c, s, o'⟩
        · rw [(d1.2 b o).2.1] at q'; cases q'
        · exact ((d1.2 b o).2.2 i w c s o').elim
    · rcases g4 b o z with q | ⟨i, w, c, s, o'⟩
      · rcases f4 b o q with q | ⟨i, c, _, s, o'⟩
        · exact .inl q
        · exact .inr ⟨i, v, c, s, o'⟩
      · exact .inr ⟨i, w, c, f5 i w c b s o', o'⟩
@[simp] def setS (i : Nat) (f : SemE) : SemS := fun ρ => (f ρ).bind fun u ρ1 => (toA u ρ1).bind fun a ρ2 => .ok .nx (ρ2.set i (some a))
theorem Sk.setU {K : PySem.W.Frag} {F H : Hp} {fp : Addr → Prop} {σ : L2.St} {ρ : Ev} {i : Nat} {v : V} {a : A} (S : Sk K G F fp H σ ρ) (r : RU K G F fp H σ ρ v (.v a)) : Sk K G F fp H (σ.set i (some v)) (ρ.set i (some a)) :=
  S.set r.1 fun b o => ⟨(r.2 b o).1, (r.2 b o).2.1, fun j w c _ s => (r.2 b o).2.2 j w c s⟩
/-- how a set statement goes on -/
theorem run_set {K : PySem.W.Frag} {F H : Hp} {fp : Addr → Prop} {σ : L2.St} {ρ : Ev} {i : Nat} {v : V} {u : U} {D : Ends} (hJ : i ∉ J) (S : Sk K G F fp H σ ρ) (r : RU K G F fp H σ ρ v u) (h : SRun K G W J σ F fp H ((toA u ρ).bind fun a ρ2 => .ok .nx (ρ2.set i (some a))) D) : D.nx (σ.set i (some v)) H := by
  cases e : toA u ρ with
  | bad => rw [e] at h; exact h.elim
  | exc y ρ1 => exact absurd e toA_nox
  | ok a ρ1 =>
    rw [e] at h
    obtain ⟨F1, x1, S1, d1, _, _, _⟩ := toA_ok S r e
    exact h _ H F1 fp x1 (S1.setU d1) (Jk.set hJ)
theorem ss_set {i : Nat} {x : Str} {p' : Pos} (hJ : i ∉ J) (hN : X.N.Nodup) (hi : X.N[i]? = some x) (hx : Loc X.env.scope x) (hf : X.fn x = true ∨ X.env.scope.names.lookup x = some .local) (hs : compless e = true) (h : EE X G W e fa) :
    SS X G W J (.Assign [.Name x p'] e pos) (setS i fa) := by
  obtain ⟨t, p, q⟩ := h.ex
  refine ⟨_, ps_set hN hi hx p (swaps_c hs _ _ _) hf, fun σ H ρ F fp D S h => ?_⟩
  exact q σ H ρ F fp _ S (SRun.bindE h fun u ρ1 v F1 fp1 H1 _ e1 S1 r1 h1 => run_set hJ S1 r1 h1)
@[simp] def dropS (f : SemE) : SemS := fun ρ => (f ρ).bind fun _ ρ1 => .ok .nx ρ1
theorem ss_expr (hs : compless e = true) (h : EE X G W e fa) : SS X G W J (.Expr e pos) (dropS fa) := by
  obtain ⟨t, p, q⟩ := h.ex
  refine ⟨_, ps_expr p (swaps_c hs _ _ _), fun σ H ρ F fp D S h => ?_⟩
  exact q σ H ρ F fp _ S (SRun.bindE h fun u ρ1 v F1 fp1 H1 _ e1 S1 r1 h1 => h1 _ H1 F1 fp1 (Ex.refl _ _ _) S1 (Jk.refl _ _))
@[simp] def ifS (t : SemT) (f g : SemS) : SemS := fun ρ => (t ρ).bind fun k ρ1 => if k = true then f ρ1 else g ρ1
theorem ss_if {t : SemT} {sa sb : List Stmt} (hc : ET X G W c t) (ha : SSs X G W J sa f) (hb : SSs X G W J sb g) : SS X G W J (.If c sa sb pos) (ifS t f g) := by
  obtain ⟨t0, p0, q0⟩ := hc.ex
  obtain ⟨t1, p1, q1⟩ := ha.ex
  obtain ⟨t2, p2, q2⟩ := hb.ex
  refine ⟨_, ps_if p0 p1 p2, fun σ H ρ F fp D S h => ?_⟩
  refine q0 σ H ρ F fp _ S (SRun.bindE h fun k ρ1 b F1 fp1 H1 _ e1 S1 r1 h1 => ?_)
  cases r1
  cases k with
  | true => rw [if_pos rfl]; exact q1 σ H1 ρ1 F1 fp1 _ S1 h1
  | false => rw [if_neg Bool.false_ne_true]; exact q2 σ H1 ρ1 F1 fp1 _ S1 h1

/-! ### targets -/
abbrev SemG := D → Ev → Option Ev
/-- σ' is σ but for the slots sl -/
def But (sl : List Nat) (σ σ' : L2.St) : Prop := (∀ vs : List Nat, (∀ i ∈ sl, i ∈ vs) → wipe σ' vs = wipe σ vs) ∧ (∀ j, j ∉ sl → σ'[j]? = σ[j]?) ∧ σ'.length = σ.length
theorem But.refl (sl : List Nat) (σ : L2.St) : But sl σ σ := ⟨fun _ _ => rfl, fun _ _ => rfl, rfl⟩
theorem But.trans {s1 s2 : List Nat} {σ σ' σ'' : L2.St} (a : But s1 σ σ') (b : But s2 σ' σ'') : But (s1 ++ s2) σ σ'' := ⟨fun vs h =>
  (b.1 vs fun i hi => h i (List.mem_append_right _ hi)).trans (a.1 vs fun i hi => h i (List.mem_append_left _ hi)), fun j h => (b.2.1 j fun z => h (List.mem_append_right _ z)).trans (a.2.1 j fun z => h (List.mem_append_left _ z)), b.2.2.trans a.2.2⟩
theorem But.jk {sl : List Nat} {σ σ' : L2.St} (b : But sl σ σ') (h : ∀ i ∈ sl, i ∉ J) : Jk J σ σ' := ⟨b.2.2, fun j hj => b.2.1 j fun z => h j z hj⟩
theorem wipe_set {σ : L2.St} {v : Option V} : ∀ {vs : List Nat} {i : Nat}, i ∈ vs → wipe (σ.set i v) vs = wipe σ vs
  | j :: vs, i, h => by
    unfold wipe
    by_cases e : i ∈ vs
    · rw [wipe_set e]
    · have e' : i = j := by
        rcases List.mem_cons.mp h with h | h
        · exact h
        · exact absurd h e
      subst e'
      have comm : ∀ vs : List Nat, i ∉ vs → wipe (σ.set i v) vs = (wipe σ vs).set i v := by
        intro vs
        induction vs with
        | nil => intro _; rfl
        | cons k ks ih =>
          intro hn
          unfold wipe
          rw [ih (fun z => hn (List.mem_cons_of_mem _ z)), List.set_comm _ _ (fun z => hn (by rw [z]; exact List.mem_cons_self))]
      rw [comm vs e, List.set_set]
structure EG (X : Cx) (G : Tab) (target : Expr) (g : SemG) (sl : List Nat) : Prop where
  ex : ∃ t : TG, PG X target t ∧ ∀ v x σ H ρ ρ' F fp (Q : L2.St → Hp → Prop), Sk X.K G F fp H σ ρ → IsD X.K G F v x → g x ρ = some ρ' → (∀ σ', Sk X.K G F fp H σ' ρ' → But sl σ σ' → Q σ' H) → t v σ H Q
abbrev SemGs := List D → Ev → Option Ev
structure EGs (X : Cx) (G : Tab) (ts : List Expr) (g : SemGs) (sl : List Nat) : Prop where
  ex : ∃ t : TGs, PGs X ts t ∧ ∀ vs ds σ H ρ ρ' F fp (Q : L2.St → Hp → Prop), Sk X.K G F fp H σ ρ → IsDs X.K G F vs ds → g ds ρ = some ρ' → (∀ σ', Sk X.K G F fp H σ' ρ' → But sl σ σ' → Q σ' H) → t vs σ H Q
@[simp] def nmG (i : Nat) : SemG := fun x ρ => some (ρ.set i (some (.d x)))
theorem eg_name {i : Nat} {x : Str} (hN : X.N.Nodup) (hi : X.N[i]? = some x) (hx : Loc X.env.scope x) (hf : X.fn x = true ∨ X.env.scope.names.lookup x = some .local) : EG X G (.Name x pos) (nmG i) [i] :=
  ⟨_, pg_name hN hi hx hf, fun v u σ H ρ ρ' F fp Q S r e q => by cases e; exact q _ (S.setU ⟨r, fun b o => by simp at o⟩) ⟨fun vs h => wipe_set (h i (by simp)), fun j hj => List.getElem?_set_ne (fun z => hj (by simp [z])), by simp⟩⟩
@[simp] def nilG : SemGs := fun ds ρ => match ds with
  | [] => some ρ
  | _ => none
@[simp] def consG (g : SemG) (gs : SemGs) : SemGs := fun ds ρ => match ds with
  | d :: ds => (g d ρ).bind fun ρ1 => gs ds ρ1
  | [] => none
theorem egs_nil : EGs X G [] nilG [] := ⟨_, pgs_nil, fun vs ds σ H ρ ρ' F fp Q S r e q => by
  cases r with
  | nil => cases e; exact ⟨rfl, q _ S (But.refl _ _)⟩
  | cons _ _ => cases e⟩
theorem egs_cons {g : SemG} {gs : SemGs} {s1 s2 : List Nat} (h : EG X G e g s1) (hs : starless e = true) (h' : EGs X G es gs s2) : EGs X G (e :: es) (consG g gs) (s1 ++ s2) := by
  obtain ⟨t, p, q⟩ := h.ex
  obtain ⟨t', p', q'⟩ := h'.ex
  refine ⟨_, pgs_cons p p' (by rw [assignEach_c hs]; rfl), fun vs ds σ H ρ ρ' F fp Q S r e k => ?_⟩
  cases r with
  | nil => cases e
  | cons r1 rr =>
    simp only [consG, Option.bind_eq_some_iff] at e
    obtain ⟨ρ1, e1, e2⟩ := e
    exact ⟨_, _, rfl, q _ _ σ H ρ ρ1 F fp _ S r1 e1 fun σ1 S1 b1 => q' _ _ σ1 H ρ1 ρ' F fp Q S1 rr e2 fun σ2 S2 b2 => k σ2 S2 (b1.trans b2)⟩
theorem assignEach_star {env : PySem.Env} : ∀ {es : List Expr}, es.all starless = true → (assignEach es env).length = es.length ∧ (assignEach es env).findIdx? (·.1) = none
  | [], _ => ⟨rfl, rfl⟩
  | e :: es, h => by
    simp only [List.all_cons, Bool.and_eq_true] at h
    obtain ⟨h1, h2⟩ := assignEach_star (env := env) h.2
    rw [assignEach_c h.1]
    exact ⟨by simp [h1], by rw [List.findIdx?_cons]; simp [h2]⟩
@[simp] def tupG (n : Nat) (gs : SemGs) : SemG := fun x ρ => match x with
  | .tup ds => if ds.length = n then gs ds ρ else none
  | .lst ds => if ds.length = n then gs ds ρ else none
  | _ => none
theorem PG.or {target : Expr} {t t' : TG} (h : PG X target t) (h' : PG X target t') : PG X target (fun v σ H Q => t v σ H Q ∨ t' v σ H Q) :=
  ⟨fun pins s σ H v u Q I r q => q.elim (fun q => h.run pins s σ H v u Q I r q) fun q => h'.run pins s σ H v u Q I r q⟩
theorem eg_tup {k : Nat} {gs : SemGs} (hc : X.calm = true) {sl : List Nat} (h : EGs X G es gs sl) (hs : es.all starless = true) : EG X G (.Tuple es k pos) (tupG es.length gs) sl := by
  obtain ⟨t, p, q⟩ := h.ex
  obtain ⟨z1, z2⟩ := assignEach_star (env := X.env) hs
  refine ⟨_, PG.or (pg_tup hc p z1 z2) (pg_lst hc p z1 z2), fun v x σ H ρ ρ' F fp Q S r e k => ?_⟩
  unfold tupG at e
  split at e
  · rename_i ds
    split at e
    · rename_i hl
      cases r with
      | tup hq hs => exact .inl ⟨_, _, rfl, S.sub.seqT hq, by rw [hs.length]; exact hl, q _ _ σ H ρ ρ' F fp Q S hs e k⟩
    · cases e
  · rename_i ds
    split at e
    · rename_i hl
      cases r with
      | lst hq hs => exact .inr ⟨_, _, rfl, SqL.of (S.sub _ _ hq), by rw [hs.length]; exact hl, q _ _ σ H ρ ρ' F fp Q S hs e k⟩
    · cases e
  · cases e
def tupless : Expr → Bool
  | .Tuple .. => false
  | _ => true
theorem swapped_c {tg e : Expr} (h : tupless e = true) (env : PySem.Env) : swappedStores [tg] e env = pure none := by
  cases e <;> first | (cases h; done) | (cases tg <;> rfl)
@[simp] def asgS (f : SemE) (g : SemG) : SemS := fun ρ => (dE f ρ).bind fun x ρ1 => match g x ρ1 with
  | some ρ' => .ok .nx ρ'
  | none => .bad
theorem srun_dE {K : PySem.W.Frag} {ta : TE} {σ : L2.St} {H : Hp} {ρ : Ev} {F : Hp} {fp : Addr → Prop} {k : D → Ev → Out Fw} {Z : Ends} {Q : VK}
    (qa : ∀ σ H ρ F fp Q, Sk K G F fp H σ ρ → Run K G W σ F fp H (RU K G) (fa ρ) Q → ta σ H Q)
    (S : Sk K G F fp H σ ρ) (h : SRun K G W J σ F fp H ((dE fa ρ).bind k) Z)
    (step : ∀ x ρ' v F' fp' H', dE fa ρ = .ok x ρ' → Ex F fp H F' fp' H' → Sk K G F' fp' H' σ ρ' → IsD K G F' v x → SRun K G W J σ F' fp' H' (k x ρ') Z → Q v H') : ta σ H Q := by
  have h : SRun K G W J σ F fp H ((fa ρ).bind fun u ρ1 => (frz u ρ1).bind k) Z := by
    simp only [dE] at h
    cases q : fa ρ <;> rw [q] at h <;> exact h
  refine qa σ H ρ F fp _ S (h.bindE fun u ρ1 v F1 fp1 H1 z1 e1 S1 r1 h1 => ?_)
  cases q : frz u ρ1 with
  | bad => rw [q] at h1; exact h1.elim
  | exc x ρ' => exact absurd q frz_nox
  | ok x ρ' =>
    rw [q] at h1
    obtain ⟨F2, x2, S2, d2, _, _⟩ := frz_ok S1 r1 q
    exact step x ρ' v F2 fp1 H1 (by simp only [dE, z1, Out.bind_ok, q]) (e1.trans x2) S2 d2 (SRun.later x2 (Jk.refl _ _) h1)
theorem ss_asg {tg : Expr} {g : SemG} {sl : List Nat} (hJ : ∀ i ∈ sl, i ∉ J) (h : EE X G W e fa) (hg : EG X G tg g sl) (hs : compless e = true) (ht : tupless e = true) (hst : starless tg = true) : SS X G W J (.Assign [tg] e pos) (asgS fa g) := by
  obtain ⟨t, p, q⟩ := h.ex
  obtain ⟨t', p', q'⟩ := hg.ex
  refine ⟨_, ps_asg p p' (swaps_c hs _ _ _) (swapped_c ht _) (by rw [assignEach_c hst]; rfl), fun σ H ρ F fp D S h => ?_⟩
  refine srun_dE q S h fun x ρ1 v F1 fp1 H1 _ e1 S1 r1 h1 => ?_
  split at h1
  · rename_i ρ' e2
    exact q' v x σ H1 ρ1 ρ' F1 fp1 _ S1 r1 e2 fun σ' S' b => h1 σ' H1 F1 fp1 (Ex.refl _ _ _) S' (b.jk hJ)
  · exact h1.elim
/-- a, b = x, y -/
@[simp] def par2S (i j : Nat) (g : SemA) : SemS := fun ρ => (g ρ).bind fun us ρ1 => (toAs us ρ1).bind fun as ρ2 => match as with
  | [a, b] => .ok .nx ((ρ2.set i (some a)).set j (some b))
  | _ => .bad
@[simp] def par3S (i j l : Nat) (g : SemA) : SemS := fun ρ => (g ρ).bind fun us ρ1 => (toAs us ρ1).bind fun as ρ2 => match as with
  | [a, b, c] => .ok .nx (((ρ2.set i (some a)).set j (some b)).set l (some c))
  | _ => .bad
/-- a name set: what else there is stays -/
theorem RU.set {K : PySem.W.Frag} {F H : Hp} {fp : Addr → Prop} {σ : L2.St} {ρ : Ev} {i : Nat} {v w : V} {a c : A} (r : RU K G F fp H σ ρ v (.v a)) (d : ∀ b, Own H w c b → ¬ Own H v a b) : RU K G F fp H (σ.set i (some w)) (ρ.set i (some c)) v (.v a) := by
  refine ⟨r.1, fun b o => ⟨(r.2 b o).1, (r.2 b o).2.1, fun j z e s o' => ?_⟩⟩
  by_cases hj : j = i
  · subst hj
    obtain ⟨s1, s2⟩ := s
    have l1 : j < σ.length := by
      have := (List.getElem?_eq_some_iff.mp s1).1
      simpa using this
    have l2 : j < ρ.length := by
      have := (List.getElem?_eq_some_iff.mp s2).1
      simpa using this
    rw [List.getElem?_set_self l1] at s1
    rw [List.getElem?_set_self l2] at s2
    cases s1; cases s2
    exact d b o' o
  · obtain ⟨s1, s2⟩ := s
    rw [List.getElem?_set_ne (fun z => hj z.symm)] at s1 s2
    exact (r.2 b o).2.2 j z e ⟨s1, s2⟩ o'
theorem srun_toAs {K : PySem.W.Frag} {σ : L2.St} {F H : Hp} {fp : Addr → Prop} {ρ : Ev} {vs : List V} {us : List U} {k : List A → Ev → Out Fw} {Z : Ends} {P : Prop} (S : Sk K G F fp H σ ρ) (r : RUs K G F fp H σ ρ vs us) (h : SRun K G W J σ F fp H ((toAs us ρ).bind k) Z)
    (step : ∀ as ρ' F', Ex F fp H F' fp H → Sk K G F' fp H σ ρ' → RUs K G F' fp H σ ρ' vs (as.map .v) → SRun K G W J σ F' fp H (k as ρ') Z → P) : P := by
  cases q : toAs us ρ with
  | bad => rw [q] at h; exact h.elim
  | exc x ρ' => exact absurd q toAs_nox
  | ok as ρ' =>
    rw [q] at h
    obtain ⟨F2, x2, S2, d2, _⟩ := toAs_ok S r q
    exact step as ρ' F2 x2 S2 d2 (SRun.later x2 (Jk.refl _ _) h)
theorem ss_par2 {i j : Nat} {x y : Str} {px py pt : Pos} {kt k2 : Nat} {pt2 : Pos} {ga : SemA} (hJi : i ∉ J) (hJj : j ∉ J) (hc : X.calm = true) (hN : X.N.Nodup) (hi : X.N[i]? = some x) (hj : X.N[j]? = some y) (hij : i ≠ j)
    (hx : X.env.scope.names.lookup x = some .local) (hy : X.env.scope.names.lookup y = some .local) (ha : EA X G W [a, b] ga)
    (hw : swappedStores [.Tuple [.Name x px, .Name y py] kt pt] (.Tuple [a, b] k2 pt2) X.env = pure (some [x, y])) : SS X G W J (.Assign [.Tuple [.Name x px, .Name y py] kt pt] (.Tuple [a, b] k2 pt2) pos) (par2S i j ga) := by
  obtain ⟨t, p, q⟩ := ha.ex
  refine ⟨_, ps_par hc hN hi hj hij hx hy p hw rfl, fun σ H ρ F fp D S h => ?_⟩
  refine q σ H ρ F fp _ S (SRun.bindE h fun us ρ1 vs F1 fp1 H1 _ e1 S1 r1 h1 => ?_)
  refine srun_toAs S1 r1 h1 fun as ρ2 F2 e2 S2 r2 h2 => ?_
  split at h2
  · cases r2 with
    | cons ra r2 da =>
      cases r2 with
      | cons rb r2 db =>
        cases r2
        refine ⟨_, _, rfl, h2 _ H1 F2 fp1 (Ex.refl _ _ _) ((S2.setU ra).setU (rb.set fun b o o' => da b o (.inl o'))) ((Jk.set hJi).trans (Jk.set hJj))⟩
  · exact h2.elim
theorem ss_par3 {i j l : Nat} {x y z : Str} {px py pz pt : Pos} {kt k2 : Nat} {pt2 : Pos} {ga : SemA} (hJi : i ∉ J) (hJj : j ∉ J) (hJl : l ∉ J) (hc : X.calm = true) (hN : X.N.Nodup) (hi : X.N[i]? = some x) (hj : X.N[j]? = some y) (hl : X.N[l]? = some z) (hij : i ≠ j) (hil : i ≠ l) (hjl : j ≠ l)
    (hx : X.env.scope.names.lookup x = some .local) (hy : X.env.scope.names.lookup y = some .local) (hz : X.env.scope.names.lookup z = some .local) (ha : EA X G W [a, b, c] ga)
    (hw : swappedStores [.Tuple [.Name x px, .Name y py, .Name z pz] kt pt] (.Tuple [a, b, c] k2 pt2) X.env = pure (some [x, y, z])) :
    SS X G W J (.Assign [.Tuple [.Name x px, .Name y py, .Name z pz] kt pt] (.Tuple [a, b, c] k2 pt2) pos) (par3S i j l ga) := by
  obtain ⟨t, p, q⟩ := ha.ex
  refine ⟨_, ps_par3 hc hN hi hj hl hij hil hjl hx hy hz p hw rfl, fun σ H ρ F fp D S h => ?_⟩
  refine q σ H ρ F fp _ S (SRun.bindE h fun us ρ1 vs F1 fp1 H1 _ e1 S1 r1 h1 => ?_)
  refine srun_toAs S1 r1 h1 fun as ρ2 F2 e2 S2 r2 h2 => ?_
  split at h2
  · cases r2 with
    | cons ra r2 da =>
      cases r2 with
      | cons rb r2 db =>
        cases r2 with
        | cons rc r2 dc =>
          cases r2
          refine ⟨_, _, _, rfl, h2 _ H1 F2 fp1 (Ex.refl _ _ _) (((S2.setU ra).setU (rb.set fun b o o' => da b o (.inl o'))).setU ((rc.set fun b o o' => da b o (.inr (.inl o'))).set fun b o o' => db b o (.inl o'))) (((Jk.set hJi).trans (Jk.set hJj)).trans (Jk.set hJl))⟩
  · exact h2.elim
end
end Pv

namespace Pv
open PySem PySem.Spec PyProof.Rows L2

section
variable {K : PySem.W.Frag} {G : Tab} {F F' H H' : Hp} {fp fp' : Addr → Prop} {σ : L2.St} {ρ : Ev} {p : Addr} {o : HO}
/-- a new thing, never changed -/
theorem Sk.anew (S : Sk K G F fp H σ ρ) (hp : H p = none) (nt : ∀ ps, o ≠ .tbl ps) : Sk K G (upd F p o) fp (upd H p o) σ ρ where
  sub := S.sub.go (same_new hp) (fun b u e => by
    by_cases hb : b = p
    · subst hb; rw [upd_same] at e ⊢; exact e
    · rw [upd_ne hb] at e ⊢; exact S.sub _ _ e) fun b ps e => by
      by_cases hb : b = p
      · subst hb; rw [upd_same] at e; exact absurd (Option.some.inj e) (nt ps)
      · rwa [upd_ne hb] at e
  len := S.len
  at_ := fun i c h => by
    obtain ⟨w, s, q⟩ := S.get h
    exact ⟨w, s.1, q.frame (same_new (Same.fnone S.sub hp)) fun b o _ e => same_new hp b o e⟩
  own := fun i w c b s q => by
    replace q := (S.own_iff (same_new hp) s).1 q
    exact ⟨(S.own i w c b s q).1, by
      rw [upd_ne (fun z => (S.is s).live q (by rw [z]; exact hp))]
      exact (S.own i w c b s q).2⟩
  inj := S.injS (same_new hp)
theorem Ex.anew (S : Sk K G F fp H σ ρ) (hp : H p = none) : Ex F fp H (upd F p o) fp (upd H p o) where
  fr := same_new (Same.fnone S.sub hp)
  keep := fun b u e _ _ => same_new hp b u e
  new := fun b u e => by
    by_cases hb : b = p
    · subst hb; exact .inr (.inl hp)
    · rw [upd_ne hb] at e; exact .inl e
  nfp := fun b e => .inl e
  live := fun b e => same_live (same_new hp) e
/-- a new thing of nobody's -/
theorem Sk.newH (S : Sk K G F fp H σ ρ) (hp : H p = none) : Sk K G F fp (upd H p o) σ ρ where
  sub := S.sub.ext (same_new hp)
  len := S.len
  at_ := fun i c h => by
    obtain ⟨w, s, q⟩ := S.get h
    exact ⟨w, s.1, q.frame (Same.refl _) fun b o _ e => same_new hp b o e⟩
  own := fun i w c b s q => S.own i w c b s ((S.own_iff (same_new hp) s).1 q)
  inj := S.injS (same_new hp)
theorem Ex.newH (hp : H p = none) : Ex F fp H F fp (upd H p o) :=
  ⟨Same.refl _, fun b u e _ _ => same_new hp b u e, fun _ _ e => .inl e, fun _ e => .inl e, fun b e => same_live (same_new hp) e⟩
end

/-! ### what is walked -/
/-- J walks the data ds, as long as what stood for good stands -/
structure ItIs (K : PySem.W.Frag) (G : Tab) (F : Hp) (J : It) (ds : List D) : Prop where
  go : ∀ i F2 H2, Same F F2 → Same F2 H2 → i < ds.length → J.go i H2
  stop : ∀ i F2 H2, Same F F2 → Same F2 H2 → ds.length ≤ i → J.stop i H2
  yld : ∀ i F2 H2 x H3 d, Same F F2 → Same F2 H2 → ds[i]? = some d → J.yld i H2 x H3 → (H3 = H2 ∧ IsD K G F2 x d) ∨ ∃ p o, H2 p = none ∧ H3 = upd H2 p o ∧ (∀ ps, o ≠ .tbl ps) ∧ IsD K G (upd F2 p o) x d
def RI (K : PySem.W.Frag) (G : Tab) : RelT It (List D) := fun F _ _ _ _ J ds => ItIs K G F J ds
abbrev SemI := Ev → Out (List D)
structure EI (X : Cx) (G : Tab) (W : WX) (tg e : Expr) (f : SemI) : Prop where
  ex : ∃ wi : TI, PI X tg e wi ∧ ∀ σ H ρ F fp R, Sk X.K G F fp H σ ρ → Run X.K G W σ F fp H (RI X.K G) (f ρ) R → wi σ H R
section
variable {X : Cx} {G : Tab} {W : WX} {J : List Nat} {tg a b c e : Expr} {es : List Expr} {fa fb fc : SemE} {pos : Pos}
theorem PI.or {w w' : TI} (h : PI X tg e w) (h' : PI X tg e w') : PI X tg e (fun σ H R => w σ H R ∨ w' σ H R) :=
  ⟨fun pins s σ H R I q => q.elim (fun q => h.run pins s σ H R I q) fun q => h'.run pins s σ H R I q⟩
theorem it_list {K : PySem.W.Frag} {F : Hp} {p : Addr} {vs : List V} {ds : List D} (h : F p = some (.lst vs)) (hs : IsDs K G F vs ds) : ItIs K G F (Itl K p) ds where
  go := fun i F2 H2 a b c => by
    have hl := hs.length
    exact ⟨vs, vs[i]'(by omega), SqL.of (b _ _ (a _ _ h)), List.getElem?_eq_getElem _⟩
  stop := fun i F2 H2 a b c => ⟨vs, SqL.of (b _ _ (a _ _ h)), by rw [hs.length]; exact c⟩
  yld := fun i F2 H2 x H3 d a b c y => by
    obtain ⟨e, y⟩ := y
    obtain ⟨v, h1, h2⟩ := hs.get c
    have := y vs (SqL.of (b _ _ (a _ _ h)))
    rw [h1] at this
    cases this
    exact .inl ⟨e, h2.mono a⟩
theorem it_tup {K : PySem.W.Frag} {F : Hp} {p : Addr} {vs : List V} {ds : List D} (h : SqT K F p vs) (hs : IsDs K G F vs ds) : ItIs K G F (Itt K p) ds where
  go := fun i F2 H2 a b c => by
    have hl := hs.length
    exact ⟨vs, vs[i]'(by omega), b.seqT (a.seqT h), List.getElem?_eq_getElem _⟩
  stop := fun i F2 H2 a b c => ⟨vs, b.seqT (a.seqT h), by rw [hs.length]; exact c⟩
  yld := fun i F2 H2 x H3 d a b c y => by
    obtain ⟨e, y⟩ := y
    obtain ⟨v, h1, h2⟩ := hs.get c
    have := y vs (b.seqT (a.seqT h))
    rw [h1] at this
    cases this
    exact .inl ⟨e, h2.mono a⟩
theorem it_scr {K : PySem.W.Frag} {F : Hp} {p : Addr} {ns : List Int} (h : SqL K F p (ns.map V.int)) : ItIs K G F (Itl K p) (ns.map D.int) where
  go := fun i F2 H2 a b c => by
    rw [List.length_map] at c
    exact ⟨_, .int ns[i], b.seq (a.seq h), by rw [List.getElem?_map, List.getElem?_eq_getElem c]; rfl⟩
  stop := fun i F2 H2 a b c => ⟨_, b.seq (a.seq h), by rw [List.length_map] at c ⊢; exact c⟩
  yld := fun i F2 H2 x H3 d a b c y => by
    obtain ⟨e, y⟩ := y
    have := y _ (b.seq (a.seq h))
    rw [List.getElem?_map] at this c
    cases q : ns[i]? with
    | none => rw [q] at c; cases c
    | some n =>
      rw [q] at this c
      cases this; cases c
      exact .inl ⟨e, .int n⟩
@[simp] def seqD (x : D) (ρ : Ev) : Out (List D) := match x with
  | .lst ds => .ok ds ρ
  | .tup ds => .ok ds ρ
  | .scr ns => .ok (ns.map .int) ρ
  | _ => .bad
@[simp] def seqI (f : SemE) : SemI := fun ρ => (dE f ρ).bind seqD
theorem ei_seq (h : EE X G W e fa) : EI X G W tg e (seqI fa) := by
  obtain ⟨t, p, q⟩ := h.ex
  refine ⟨_, PI.or (pi_list p) (pi_tup p), fun σ H ρ F fp R S h => ?_⟩
  -- which of the two: by what the value is
  cases ev : dE fa ρ with
  | bad => simp only [seqI] at h; rw [ev] at h; exact h.elim
  | exc x ρ1 =>
    simp only [seqI] at h
    exact .inl (run_dE q S h fun x ρ' v F' fp' H' z => by rw [ev] at z; cases z)
  | ok x ρ1 =>
    simp only [seqI] at h
    by_cases ht : ∃ ds, x = .tup ds
    · obtain ⟨ds, rfl⟩ := ht
      refine .inr (run_dE q S h fun x ρ' v F' fp' H' z e1 S1 r1 h1 => ?_)
      rw [ev] at z; cases z
      cases r1 with
      | tup hp hs => exact ⟨_, rfl, ⟨_, S1.sub.seqT hp⟩, Run.now h1 S1 (it_tup hp hs)⟩
    · refine .inl (run_dE q S h fun x ρ' v F' fp' H' z e1 S1 r1 h1 => ?_)
      rw [ev] at z; cases z
      simp only [seqD] at h1
      split at h1
      · cases r1 with
        | lst hp hs => exact ⟨_, rfl, ⟨_, SqL.of (S1.sub _ _ hp)⟩, Run.now h1 S1 (it_list hp hs)⟩
      · exact absurd ⟨_, rfl⟩ ht
      · cases r1 with
        | scr hp => exact ⟨_, rfl, ⟨_, S1.sub.seq hp⟩, Run.now h1 S1 (it_scr hp)⟩
      · exact h1.elim
/-- lo, lo + 1, .. -/
def upD (lo : Int) (n : Nat) : List D := (List.range n).map fun i => .int (lo + (i : Nat))
theorem it_range {K : PySem.W.Frag} {F : Hp} (lo : Int) (n : Nat) : ItIs K G F (Itr lo n) (upD lo n) where
  go := fun i F2 H2 a b c => (show i < n by simpa [upD] using c)
  stop := fun i F2 H2 a b c => (show n ≤ i by simpa [upD] using c)
  yld := fun i F2 H2 x H3 d a b c y => by
    obtain ⟨e, rfl⟩ := y
    have hi : i < n := by
      have := (List.getElem?_eq_some_iff.mp c).1
      simpa [upD] using this
    simp only [upD, List.getElem?_map, List.getElem?_range hi, Option.map_some, Option.some.injEq] at c
    subst c
    exact .inl ⟨e, .int _⟩
def okR (i : Int) : Bool := decide (-1000000000000 < i ∧ i < 1000000000000)
@[simp] def range1I (g : SemA) : SemI := fun ρ => (g ρ).bind fun us ρ1 => match us with
  | [.v (.d (.int j))] => if okR j = true then .ok (upD 0 j.toNat) ρ1 else .bad
  | _ => .bad
@[simp] def range2I (g : SemA) : SemI := fun ρ => (g ρ).bind fun us ρ1 => match us with
  | [.v (.d (.int i)), .v (.d (.int j))] => if okR i = true ∧ okR j = true then .ok (upD i (j - i).toNat) ρ1 else .bad
  | _ => .bad
theorem okR_b {i : Int} (h : okR i = true) : -(2 ^ 62) ≤ i ∧ i < 2 ^ 62 := by
  have := of_decide_eq_true h
  omega
theorem ei_range1 {p : Pos} {ga : SemA} (hg : Gl X "range") (hm : X.mg "range" = none) (ha : EA X G W [a] ga) (hs : starless a = true) : EI X G W tg (.Call (.Name "range" p) [a] [] pos) (range1I ga) := by
  obtain ⟨t, pa, q⟩ := ha.ex
  refine ⟨_, pi_range1 hg hm pa (by rw [starEach_c hs]; rfl), fun σ H ρ F fp R S h => ?_⟩
  refine q σ H ρ F fp _ S (Run.bind h fun us ρ1 vs F1 fp1 H1 zz e1 S1 r1 h1 => ?_)
  split at h1
  · rename_i j
    cases r1 with
    | cons r r1 =>
      cases r1
      have r : IsD X.K G F1 _ (.int j) := r.1
      cases r
      split at h1
      · rename_i hj
        obtain ⟨b1, b2⟩ := okR_b hj
        exact ⟨j, rfl, b1, b2, Run.now h1 S1 (it_range 0 j.toNat)⟩
      · exact h1.elim
  · exact h1.elim
theorem ei_range2 {p : Pos} {ga : SemA} (hg : Gl X "range") (hm : X.mg "range" = none) (ha : EA X G W [a, b] ga) (hs : starless a = true) (hs2 : starless b = true) : EI X G W tg (.Call (.Name "range" p) [a, b] [] pos) (range2I ga) := by
  obtain ⟨t, pa, q⟩ := ha.ex
  refine ⟨_, pi_range2 hg hm pa (by rw [starEach_c hs, starEach_c hs2]; rfl) (by rw [starEach_c hs2]; rfl), fun σ H ρ F fp R S h => ?_⟩
  refine q σ H ρ F fp _ S (Run.bind h fun us ρ1 vs F1 fp1 H1 zz e1 S1 r1 h1 => ?_)
  split at h1
  · rename_i i j
    cases r1 with
    | cons r r1 =>
      cases r1 with
      | cons r' r1 =>
        cases r1
        have r : IsD X.K G F1 _ (.int i) := r.1
        have r' : IsD X.K G F1 _ (.int j) := r'.1
        cases r; cases r'
        split at h1
        · rename_i hj
          obtain ⟨b1, b2⟩ := okR_b hj.1
          obtain ⟨b3, b4⟩ := okR_b hj.2
          exact ⟨i, j, rfl, ⟨b1, b2, b3, b4⟩, Run.now h1 S1 (it_range i _)⟩
        · exact h1.elim
  · exact h1.elim
/-- pairs, item by item -/
def zipD (xs ys : List D) : List D := List.zipWith (fun x y => .tup [x, y]) xs ys
theorem zipD_get {xs ys : List D} {i : Nat} {d : D} (h : (zipD xs ys)[i]? = some d) : ∃ x y, xs[i]? = some x ∧ ys[i]? = some y ∧ d = .tup [x, y] := by
  unfold zipD at h
  rw [List.getElem?_zipWith] at h
  cases e1 : xs[i]? <;> cases e2 : ys[i]? <;> rw [e1, e2] at h <;> simp at h
  exact ⟨_, _, rfl, rfl, h.symm⟩
theorem pair_new {K : PySem.W.Frag} {F2 H2 : Hp} {T : Addr} {v w : V} {x y : D} (b : Same F2 H2) (hT : H2 T = none) (h1 : IsD K G F2 v x) (h2 : IsD K G F2 w y) : IsD K G (upd F2 T (.tup [v, w])) (.ref T) (.tup [x, y]) := by
  have hF : F2 T = none := Same.fnone b hT
  exact .tup (SqT.of upd_same) (.cons (h1.mono (same_new hF)) (.cons (h2.mono (same_new hF)) .nil))
theorem it_zipL {K : PySem.W.Frag} {F : Hp} {p q : Addr} {vs ws : List V} {xs ys : List D} (h : F p = some (.lst vs)) (hs : IsDs K G F vs xs) (h' : F q = some (.lst ws)) (hs' : IsDs K G F ws ys) : ItIs K G F (Itz K p q) (zipD xs ys) where
  go := fun i F2 H2 a b c => by
    have l1 := hs.length
    have l2 := hs'.length
    simp only [zipD, List.length_zipWith] at c
    exact ⟨vs, ws, vs[i]'(by omega), ws[i]'(by omega), SqL.of (b _ _ (a _ _ h)), SqL.of (b _ _ (a _ _ h')), List.getElem?_eq_getElem _, List.getElem?_eq_getElem _⟩
  stop := fun i F2 H2 a b c => by
    have l1 := hs.length
    have l2 := hs'.length
    simp only [zipD, List.length_zipWith] at c
    exact ⟨vs, ws, SqL.of (b _ _ (a _ _ h)), SqL.of (b _ _ (a _ _ h')), by omega⟩
  yld := fun i F2 H2 x H3 d a b c y => by
    obtain ⟨T, v, w, rfl, hT, rfl, y1, y2⟩ := y
    obtain ⟨x, y, c1, c2, rfl⟩ := zipD_get c
    obtain ⟨v', g1, g2⟩ := hs.get c1
    obtain ⟨w', g3, g4⟩ := hs'.get c2
    have z1 := y1 _ (SqL.of (b _ _ (a _ _ h)))
    have z2 := y2 _ (SqL.of (b _ _ (a _ _ h')))
    rw [g1] at z1; rw [g3] at z2
    cases z1; cases z2
    exact .inr ⟨T, _, hT, rfl, (fun _ z => by cases z), pair_new b hT (g2.mono a) (g4.mono a)⟩
theorem it_zipT {K : PySem.W.Frag} {F : Hp} {p q : Addr} {vs ws : List V} {xs ys : List D} (h : SqT K F p vs) (hs : IsDs K G F vs xs) (h' : SqT K F q ws) (hs' : IsDs K G F ws ys) : ItIs K G F (RZ.ItzT K p q) (zipD xs ys) where
  go := fun i F2 H2 a b c => by
    have l1 := hs.length
    have l2 := hs'.length
    simp only [zipD, List.length_zipWith] at c
    exact ⟨vs, ws, vs[i]'(by omega), ws[i]'(by omega), b.seqT (a.seqT h), b.seqT (a.seqT h'), List.getElem?_eq_getElem _, List.getElem?_eq_getElem _⟩
  stop := fun i F2 H2 a b c => by
    have l1 := hs.length
    have l2 := hs'.length
    simp only [zipD, List.length_zipWith] at c
    exact ⟨vs, ws, b.seqT (a.seqT h), b.seqT (a.seqT h'), by omega⟩
  yld := fun i F2 H2 x H3 d a b c y => by
    obtain ⟨T, v, w, rfl, hT, rfl, y1, y2⟩ := y
    obtain ⟨x, y, c1, c2, rfl⟩ := zipD_get c
    obtain ⟨v', g1, g2⟩ := hs.get c1
    obtain ⟨w', g3, g4⟩ := hs'.get c2
    have z1 := y1 _ (b.seqT (a.seqT h))
    have z2 := y2 _ (b.seqT (a.seqT h'))
    rw [g1] at z1; rw [g3] at z2
    cases z1; cases z2
    exact .inr ⟨T, _, hT, rfl, (fun _ z => by cases z), pair_new b hT (g2.mono a) (g4.mono a)⟩
@[simp] def zipI (g : SemA) : SemI := fun ρ => (g ρ).bind fun us ρ1 => (frzs us ρ1).bind fun xs ρ2 => match xs with
  | [.lst xs, .lst ys] => .ok (zipD xs ys) ρ2
  | [.tup xs, .tup ys] => .ok (zipD xs ys) ρ2
  | _ => .bad
theorem ei_zip {p tpos : Pos} {ga : SemA} {elts : List Expr} {kk : Nat} (hg : Gl X "zip") (hm : X.mg "zip" = none) (ha : EA X G W [a, b] ga) (hs : starless a = true) (hs2 : starless b = true) : EI X G W (.Tuple elts kk tpos) (.Call (.Name "zip" p) [a, b] [] pos) (zipI ga) := by
  obtain ⟨t, pa, q⟩ := ha.ex
  refine ⟨_, RZ.pi_zipA hg hm pa (by rw [starEach_c hs]) (starless_any (by simp [hs2])), fun σ H ρ F fp R S h => ?_⟩
  refine q σ H ρ F fp _ S (Run.bind h fun us ρ1 vs F1 fp1 H1 _ e1 S1 r1 h1 => ?_)
  refine run_frz S1 r1 h1 fun xs ρ2 F2 e2 S2 d2 h2 => ?_
  split at h2
  · cases d2 with
    | cons r r1 =>
      cases r1 with
      | cons r' r1 =>
        cases r1
        cases r with
        | lst hp hs =>
          cases r' with
          | lst hp' hs' => exact ⟨_, _, _, _, rfl, .inl ⟨SqL.of (S2.sub _ _ hp), SqL.of (S2.sub _ _ hp'), Run.now h2 S2 (it_zipL hp hs hp' hs')⟩⟩
  · cases d2 with
    | cons r r1 =>
      cases r1 with
      | cons r' r1 =>
        cases r1
        cases r with
        | tup hp hs =>
          cases r' with
          | tup hp' hs' => exact ⟨_, _, _, _, rfl, .inr ⟨S2.sub.seqT hp, S2.sub.seqT hp', Run.now h2 S2 (it_zipT hp hs hp' hs')⟩⟩
  · exact h2.elim

/-! ### for -/
def forL (tg : SemG) (body : SemS) : List D → SemS
  | [] => nilS
  | d :: ds => fun ρ => match tg d ρ with
    | none => .bad
    | some ρ1 => match body ρ1 with
      | .ok .nx ρ2 => forL tg body ds ρ2
      | .ok .ct ρ2 => forL tg body ds ρ2
      | .ok .bk ρ2 => .ok .nx ρ2
      | o => o
def forS (it : SemI) (tg : SemG) (body : SemS) : SemS := fun ρ => (it ρ).bind fun ds ρ1 => forL tg body ds ρ1
theorem ss_for {sl : List Nat} {body : List Stmt} {f : SemI} {g : SemG} {fb : SemS} (hJ : ∀ i ∈ sl, i ∉ J) (hp : PassesOwn (model X.prog X.w) X.A X.env X.xe) (hc : X.calm = true) (hi : EI X G W tg e f) (hg : EG X G tg g sl) (hb : SSs X G W J body fb) (hs : setless e = true) :
    SS X G W J (.For tg e body [] pos) (forS f g fb) := by
  obtain ⟨wi, pi, qi⟩ := hi.ex
  obtain ⟨tg', pg, qg⟩ := hg.ex
  obtain ⟨tb, pb, qb⟩ := hb.ex
  refine ⟨_, ps_for hp hc pi pg pb (folded_c hs _), fun σ H ρ F fp D S h => ?_⟩
  refine qi σ H ρ F fp _ S (SRun.bindE h fun ds ρ1 Jt F1 fp1 H1 _ e1 S1 it h1 => ?_)
  refine ⟨fun i m σ H => m = ds.length - i ∧ i ≤ ds.length ∧ ∃ ρ F fp, Same F1 F ∧ Sk X.K G F fp H σ ρ ∧ SRun X.K G W J σ F fp H (forL g fb (ds.drop i) ρ) D,
    ⟨ds.length, by simp, Nat.zero_le _, ρ1, F1, fp1, Same.refl _, S1, h1⟩, ?_⟩
  rintro i m σ2 H2 ⟨rfl, hi, ρ2, F2, fp2, sF, S2, h2⟩
  by_cases hlt : i < ds.length
  · refine .inr ⟨it.go i F2 H2 sF S2.sub hlt, fun σ' H' => ∃ ρ F fp, Same F1 F ∧ Sk X.K G F fp H' σ' ρ ∧ SRun X.K G W J σ' F fp H' (forL g fb (ds.drop (i + 1)) ρ) D,
      fun σ' H' q => ⟨ds.length - (i + 1), by omega, rfl, hlt, q⟩, fun x H3 hy => ?_⟩
    have hd : ds[i]? = some ds[i] := List.getElem?_eq_getElem hlt
    rw [List.drop_eq_getElem_cons hlt] at h2
    obtain ⟨F3, e3, S3, r3⟩ : ∃ F3, Ex F2 fp2 H2 F3 fp2 H3 ∧ Sk X.K G F3 fp2 H3 σ2 ρ2 ∧ IsD X.K G F3 x ds[i] := by
      rcases it.yld i F2 H2 x H3 ds[i] sF S2.sub hd hy with ⟨rfl, r⟩ | ⟨p, o, hp, rfl, nt, r⟩
      · exact ⟨F2, Ex.refl _ _ _, S2, r⟩
      · exact ⟨_, Ex.anew S2 hp, S2.anew hp nt, r⟩
    have h3 := SRun.later e3 (Jk.refl _ _) h2
    unfold forL at h3
    cases q1 : g ds[i] ρ2 with
    | none => rw [q1] at h3; exact h3.elim
    | some ρ3 =>
      rw [q1] at h3
      refine qg x ds[i] σ2 H3 ρ2 ρ3 F3 fp2 _ S3 r3 q1 fun σ3 S4 bt => ?_
      refine qb σ3 H3 ρ3 F3 fp2 _ S4 ?_
      have h3 := SRun.later (Ex.refl _ _ _) (bt.jk hJ) h3
      dsimp only at h3
      cases q2 : fb ρ3 with
      | ok fl ρ4 =>
        rw [q2] at h3
        cases fl with
        | nx => exact fun σ5 H5 F5 fp5 e5 S5 j5 => ⟨ρ4, F5, fp5, (sF.trans e3.fr).trans e5.fr, S5, SRun.later e5 j5 h3⟩
        | ct => exact fun σ5 H5 F5 fp5 e5 S5 j5 => ⟨ρ4, F5, fp5, (sF.trans e3.fr).trans e5.fr, S5, SRun.later e5 j5 h3⟩
        | bk => exact fun σ5 H5 F5 fp5 e5 S5 j5 => h3 σ5 H5 F5 fp5 e5 S5 j5
        | rt u => exact h3
      | exc x S4 => rw [q2] at h3; exact h3
      | bad => rw [q2] at h3; exact h3
  · have hi' : i = ds.length := by omega
    subst hi'
    refine .inl ⟨it.stop _ F2 H2 sF S2.sub (Nat.le_refl _), ?_⟩
    rw [List.drop_length] at h2
    exact h2 σ2 H2 F2 fp2 (Ex.refl _ _ _) S2 (Jk.refl _ _)

/-! ### while -/
def whileL (t : SemT) (body : SemS) : Nat → SemS
  | 0 => fun _ => .bad
  | m + 1 => fun ρ => (t ρ).bind fun k ρ1 => if k = true then (match body ρ1 with
      | .ok .nx ρ2 => whileL t body m ρ2
      | .ok .ct ρ2 => whileL t body m ρ2
      | .ok .bk ρ2 => .ok .nx ρ2
      | o => o) else .ok .nx ρ1
theorem ss_while (m : Nat) {body : List Stmt} {t : SemT} {fb : SemS} (hp : PassesOwn (model X.prog X.w) X.A X.env X.xe) (hc : ET X G W c t) (hb : SSs X G W J body fb) : SS X G W J (.While c body [] pos) (whileL t fb m) := by
  obtain ⟨tc, pc, qc⟩ := hc.ex
  obtain ⟨tb, pb, qb⟩ := hb.ex
  refine ⟨_, ps_while hp pc pb, fun σ H ρ F fp D S h => ?_⟩
  refine ⟨fun m σ H => ∃ ρ F fp, Sk X.K G F fp H σ ρ ∧ SRun X.K G W J σ F fp H (whileL t fb m ρ) D, ⟨m, ρ, F, fp, S, h⟩, ?_⟩
  rintro m σ2 H2 ⟨ρ2, F2, fp2, S2, h2⟩
  cases m with
  | zero => exact h2.elim
  | succ m =>
    refine qc σ2 H2 ρ2 F2 fp2 _ S2 (SRun.bindE h2 fun k ρ3 b F3 fp3 H3 _ e3 S3 r3 h3 => ?_)
    cases r3
    cases k with
    | false => rw [if_neg Bool.false_ne_true]; exact h3 σ2 H3 F3 fp3 (Ex.refl _ _ _) S3 (Jk.refl _ _)
    | true =>
      rw [if_pos rfl]
      refine ⟨fun σ' H' => ∃ ρ F fp, Sk X.K G F fp H' σ' ρ ∧ SRun X.K G W J σ' F fp H' (whileL t fb m ρ) D, fun σ' H' q => ⟨m, Nat.lt_succ_self _, q⟩, ?_⟩
      refine qb σ2 H3 ρ3 F3 fp3 _ S3 ?_
      rw [if_pos rfl] at h3
      cases q2 : fb ρ3 with
      | ok fl ρ4 =>
        rw [q2] at h3
        cases fl with
        | nx => exact fun σ5 H5 F5 fp5 e5 S5 j5 => ⟨ρ4, F5, fp5, S5, SRun.later e5 j5 h3⟩
        | ct => exact fun σ5 H5 F5 fp5 e5 S5 j5 => ⟨ρ4, F5, fp5, S5, SRun.later e5 j5 h3⟩
        | bk => exact fun σ5 H5 F5 fp5 e5 S5 j5 => h3 σ5 H5 F5 fp5 e5 S5 j5
        | rt u => exact h3
      | exc x S4 => rw [q2] at h3; exact h3
      | bad => rw [q2] at h3; exact h3
end
end Pv

namespace Pv
open PySem PySem.Spec PyProof.Rows L2

/-! ### comprehensions -/
@[simp] def wipeE (ρ : Ev) : List Nat → Ev
  | [] => ρ
  | v :: vs => (wipeE ρ vs).set v none
section
variable {K : PySem.W.Frag} {G : Tab} {F F' H H' : Hp} {fp fp' : Addr → Prop} {σ σ' : L2.St} {ρ ρ' : Ev} {p : Addr} {o : HO}
theorem Sk.wipe (S : Sk K G F fp H σ ρ) : ∀ vs : List Nat, Sk K G F fp H (L2.wipe σ vs) (wipeE ρ vs)
  | [] => S
  | v :: vs => (Sk.wipe S vs).unset2 v
/-- fewer names -/
theorem Sk.sub_of (S : Sk K G F fp H σ ρ) (hl : σ'.length = ρ'.length) (h : ∀ (i : Nat) (a : A), ρ'[i]? = some (some a) → ∃ v, σ'[i]? = some (some v)) (hs : ∀ i v a, Sl σ' ρ' i v a → Sl σ ρ i v a) : Sk K G F fp H σ' ρ' where
  sub := S.sub
  len := hl
  at_ := fun i a e => by
    obtain ⟨v, hv⟩ := h i a e
    exact ⟨v, hv, S.is (hs i v a ⟨hv, e⟩)⟩
  own := fun i v a b s q => S.own i v a b (hs _ _ _ s) q
  inj := fun i j v w a c b hne s s' q q' => S.inj i j v w a c b hne (hs _ _ _ s) (hs _ _ _ s') q q'
theorem wipe_len : ∀ {vs : List Nat}, (L2.wipe σ vs).length = σ.length
  | [] => rfl
  | v :: vs => by show ((L2.wipe σ vs).set v none).length = _; rw [List.length_set, wipe_len]
theorem wipe_at {j : Nat} : ∀ {vs : List Nat}, j ∉ vs → (L2.wipe σ vs)[j]? = σ[j]?
  | [], _ => rfl
  | v :: vs, h => by
    show ((L2.wipe σ vs).set v none)[j]? = _
    rw [List.getElem?_set_ne (fun z => h (by simp [z]))]
    exact wipe_at fun z => h (List.mem_cons_of_mem _ z)
theorem wipeE_none {j : Nat} : ∀ {vs : List Nat}, j ∈ vs → ∀ a, (wipeE ρ vs)[j]? ≠ some (some a)
  | v :: vs, h, a, e => by
    simp only [wipeE] at e
    by_cases hj : v = j
    · subst hj
      have hl := (List.getElem?_eq_some_iff.mp e).1
      rw [List.length_set] at hl
      rw [List.getElem?_set_self hl] at e
      cases e
    · rw [List.getElem?_set_ne hj] at e
      rcases List.mem_cons.mp h with z | z
      · exact hj z.symm
      · exact wipeE_none z a e
theorem Sk.unwipe {vs : List Nat} (S : Sk K G F fp H (L2.wipe σ vs) (wipeE ρ vs)) : Sk K G F fp H σ (wipeE ρ vs) := by
  have key : ∀ i a, (wipeE ρ vs)[i]? = some (some a) → (L2.wipe σ vs)[i]? = σ[i]? := fun i a e => by
    by_cases hi : i ∈ vs
    · exact absurd e (wipeE_none hi a)
    · exact wipe_at hi
  refine S.sub_of (by rw [← S.len, wipe_len]) (fun i a e => ?_) fun i v a s => ⟨?_, s.2⟩
  · obtain ⟨v, h1, _⟩ := S.at_ i a e
    exact ⟨v, by rw [← key i a e]; exact h1⟩
  · rw [key i a s.2]; exact s.1
end

/-- the tests of a clause -/
inductive EIf (X : Cx) (G : Tab) : List Expr → Option SemT → Prop
  | none : EIf X G [] none
  | some {c : Expr} {t : SemT} (h : ET X G (fun _ _ _ _ => False) c t) : EIf X G [c] (some t)
@[simp] def ifsS (t : Option SemT) (ρ : Ev) : Out Bool := match t with
  | .none => .ok true ρ
  | .some t => t ρ
/-- nothing is raised -/
@[simp] def Out.nox {α : Type} (o : Out α) : Out α := match o with
  | .ok a ρ => .ok a ρ
  | _ => .bad
def compL (tg : SemG) (t : Option SemT) (f : SemE) (vs : List Nat) : List D → Ev → Out (List D)
  | [], ρ => .ok [] ρ
  | d :: ds, ρ => match tg d ρ with
    | .none => .bad
    | .some ρ1 => (ifsS t ρ1).nox.bind fun k ρ2 => if k = true then (dE f ρ2).nox.bind fun y ρ3 => (compL tg t f vs ds (wipeE ρ3 vs)).bind fun ys ρ4 => .ok (y :: ys) ρ4 else compL tg t f vs ds (wipeE ρ2 vs)
def compS (it : SemI) (tg : SemG) (t : Option SemT) (f : SemE) (vs : List Nat) : SemI := fun ρ =>
  (it ρ).bind fun ds ρ1 => if ds.length ≤ 16777216 then compL tg t f vs ds (wipeE ρ1 vs) else .bad
section
variable {X : Cx} {G : Tab} {W : WX} {J : List Nat} {tg a b c e o elt iter : Expr} {ifs : List Expr} {es : List Expr} {pos : Pos}
theorem wipe_wipe {σ : L2.St} {vs : List Nat} : ∀ {ws : List Nat}, (∀ i ∈ ws, i ∈ vs) → L2.wipe (L2.wipe σ ws) vs = L2.wipe σ vs
  | [], _ => rfl
  | w :: ws, h => by
    show L2.wipe ((L2.wipe σ ws).set w none) vs = _
    rw [wipe_set (h w List.mem_cons_self)]
    exact wipe_wipe fun i hi => h i (List.mem_cons_of_mem _ hi)
theorem Out.nox_ok {α : Type} {o : Out α} {a : α} {ρ : Ev} (h : o.nox = .ok a ρ) : o = .ok a ρ := by
  cases o with
  | ok _ _ => exact h
  | exc _ _ => cases h
  | bad => cases h
theorem Out.nox_nox {α : Type} {o : Out α} {x : X1} {ρ : Ev} : o.nox ≠ .exc x ρ := by
  cases o <;> intro h <;> cases h
/-- how a list in the making stands: at D, of nobody -/
structure Mk1 (K : PySem.W.Frag) (G : Tab) (F1 : Hp) (fp1 : Addr → Prop) (H1 : Hp) (D : Addr) (acc : List V) (F : Hp) (fp : Addr → Prop) (H : Hp) (σ : L2.St) (ρ : Ev) : Prop where
  ex : Ex F1 fp1 H1 F fp H
  sk : Sk K G F fp H σ ρ
  at_ : H D = some (.lst acc)
  nF : F D = none
  nμ : ¬ fp D
theorem Mk1.later {K : PySem.W.Frag} {F1 H1 F H F' H' : Hp} {fp1 fp fp' : Addr → Prop} {D : Addr} {acc : List V} {σ σ' : L2.St} {ρ ρ' : Ev} (m : Mk1 K G F1 fp1 H1 D acc F fp H σ ρ) (e : Ex F fp H F' fp' H') (S : Sk K G F' fp' H' σ' ρ') : Mk1 K G F1 fp1 H1 D acc F' fp' H' σ' ρ' where
  ex := m.ex.trans e
  sk := S
  at_ := e.keep D _ m.at_ m.nμ (plain_lst _).1
  nF := by
    cases q : F' D with
    | none => rfl
    | some o =>
      rcases e.new D o q with z | z | z
      · rw [m.nF] at z; cases z
      · rw [m.at_] at z; cases z
      · exact absurd z m.nμ
  nμ := fun h => by
    rcases e.nfp D h with z | z
    · exact m.nμ z
    · rw [m.at_] at z; cases z
theorem Mk1.push {K : PySem.W.Frag} {F1 H1 F H : Hp} {fp1 fp : Addr → Prop} {D : Addr} {acc acc' : List V} {σ : L2.St} {ρ : Ev} (m : Mk1 K G F1 fp1 H1 D acc F fp H σ ρ) (h1 : H1 D = none) : Mk1 K G F1 fp1 H1 D acc' F fp (upd H D (.lst acc')) σ ρ where
  ex := ⟨m.ex.fr, fun b u h hn nt => by rw [upd_ne (ne_of_none h h1)]; exact m.ex.keep b u h hn nt, m.ex.new, m.ex.nfp, fun b h => by
    by_cases hb : b = D
    · subst hb; rw [upd_same]; simp
    · rw [upd_ne hb]; exact m.ex.live b h⟩
  sk :=
    have keep : ∀ i w c b, Sl σ ρ i w c → (Own (upd H D (.lst acc')) w c b ↔ Own H w c b) := fun i w c b s => (m.sk.is s).own_iff fun b o' ho e => by
      rw [upd_ne (fun z => m.nμ (by rw [← z]; exact (m.sk.own i w c b s ho).1))]
      exact e
    { sub := m.sk.sub.poke m.nF m.at_ (plain_lst _)
      len := m.sk.len
      at_ := fun i a e => by
        obtain ⟨v, s, q⟩ := m.sk.get e
        refine ⟨v, s.1, q.frame (Same.refl _) fun b o' ho e => ?_⟩
        rw [upd_ne (fun z => m.nμ (by rw [← z]; exact (m.sk.own i v a b s ho).1))]
        exact e
      own := fun i w c b s q => m.sk.own i w c b s ((keep i w c b s).1 q)
      inj := fun i j v w a c b n s s' q q' => m.sk.inj i j v w a c b n s s' ((keep i v a b s).1 q) ((keep j w c b s').1 q') }
  at_ := upd_same
  nF := m.nF
  nμ := m.nμ
theorem compL_inv {g : SemG} {t : Option SemT} {f : SemE} {vs : List Nat} {ρ : Ev} {d : D} {ds : List D} {ρ' : Ev} {ys : List D} (h : compL g t f vs (d :: ds) ρ = .ok ys ρ') :
    ∃ ρ1 k ρ2, g d ρ = some ρ1 ∧ ifsS t ρ1 = .ok k ρ2 ∧ ((k = true ∧ ∃ y ρ3 ys', dE f ρ2 = .ok y ρ3 ∧ compL g t f vs ds (wipeE ρ3 vs) = .ok ys' ρ' ∧ ys = y :: ys') ∨ (k = false ∧ compL g t f vs ds (wipeE ρ2 vs) = .ok ys ρ')) := by
  unfold compL at h
  cases e1 : g d ρ with
  | none => rw [e1] at h; cases h
  | some ρ1 =>
    rw [e1] at h
    obtain ⟨k, ρ2, e2, h⟩ := Out.bind_inv h
    refine ⟨ρ1, k, ρ2, rfl, Out.nox_ok e2, ?_⟩
    cases k with
    | false => exact .inr ⟨rfl, h⟩
    | true =>
      rw [if_pos rfl] at h
      obtain ⟨y, ρ3, e3, h⟩ := Out.bind_inv h
      obtain ⟨ys', ρ4, e4, h⟩ := Out.bind_inv h
      cases h
      exact .inl ⟨rfl, y, ρ3, ys', Out.nox_ok e3, e4, rfl⟩
theorem compL_nox {g : SemG} {t : Option SemT} {f : SemE} {vs : List Nat} : ∀ {ds : List D} {ρ : Ev} {x : X1} {ρ' : Ev}, compL g t f vs ds ρ ≠ .exc x ρ'
  | [], ρ, x, ρ', h => by cases h
  | d :: ds, ρ, x, ρ', h => by
    unfold compL at h
    cases e1 : g d ρ with
    | none => rw [e1] at h; cases h
    | some ρ1 =>
      rw [e1] at h
      cases e2 : (ifsS t ρ1).nox with
      | bad => simp only [e2] at h; cases h
      | exc _ _ => exact absurd e2 Out.nox_nox
      | ok k ρ2 =>
        simp only [e2, Out.bind_ok] at h
        cases k with
        | false => exact compL_nox h
        | true =>
          rw [if_pos rfl] at h
          cases e3 : (dE f ρ2).nox with
          | bad => simp only [e3] at h; cases h
          | exc _ _ => exact absurd e3 Out.nox_nox
          | ok y ρ3 =>
            simp only [e3, Out.bind_ok] at h
            cases e4 : compL g t f vs ds (wipeE ρ3 vs) with
            | bad => rw [e4] at h; cases h
            | exc _ _ => exact compL_nox e4
            | ok ys ρ4 => rw [e4] at h; cases h
/-- the reading of a comprehension over J -/
theorem comp_run {K : PySem.W.Frag} {Jt : It} {ds : List D} {g : SemG} {sl vs : List Nat} {t : Option SemT} {f : SemE} {tg' : TG} {tt : TT} {te : TE} {σ : L2.St} {ρ1 : Ev} {F1 H1 : Hp} {fp1 : Addr → Prop} {Dn : Addr} {Qd : Hp → Prop}
    (qg : ∀ v x σ H ρ ρ' F fp (Q : L2.St → Hp → Prop), Sk K G F fp H σ ρ → IsD K G F v x → g x ρ = some ρ' → (∀ σ', Sk K G F fp H σ' ρ' → But sl σ σ' → Q σ' H) → tg' v σ H Q)
    (qt : ∀ σ H ρ F fp Q, Sk K G F fp H σ ρ → Run K G (fun _ _ _ _ => False) σ F fp H RB (ifsS t ρ) Q → tt σ H Q)
    (qe : ∀ σ H ρ F fp Q, Sk K G F fp H σ ρ → Run K G (fun _ _ _ _ => False) σ F fp H (RU K G) (f ρ) Q → te σ H Q)
    (hsl : ∀ i ∈ sl, i ∈ vs) (it : ItIs K G F1 Jt ds) (hl : ds.length ≤ 16777216) (S1 : Sk K G F1 fp1 H1 (L2.wipe σ vs) ρ1) (hD : H1 Dn = none) (hfp : ¬ fp1 Dn)
    {all : List D} {ρz : Ev} (h : compL g t f vs ds ρ1 = .ok all ρz) (hP : ∀ acc F fp H, Mk1 K G F1 fp1 H1 Dn acc F fp H (L2.wipe σ vs) ρz → IsDs K G F acc all → Qd H) :
    ∃ Wi : Nat → Nat → Hp → Prop, (∃ m, Wi 0 m (upd H1 Dn (.lst []))) ∧ ∀ i m H, Wi i m H →
      (Jt.stop i H ∧ Qd H) ∨ (Jt.go i H ∧ ∃ Nx : Hp → Prop, (∀ H', Nx H' → ∃ m', m' < m ∧ Wi (i + 1) m' H') ∧ ∀ x H', Jt.yld i H x H' → tg' x (L2.wipe σ vs) H' fun σ2 H2 => L2.wipe σ2 vs = L2.wipe σ vs ∧ tt σ2 H2 fun b H3 =>
        if b = true then te σ2 H3 fun y H4 => ∃ acc, H4 Dn = some (.lst acc) ∧ acc.length < sizeLine ∧ Nx (upd H4 Dn (.lst (acc ++ [y]))) else Nx H3) := by
  refine ⟨fun i m H => m = ds.length - i ∧ i ≤ ds.length ∧ ∃ acc zs F fp ρ, Mk1 K G F1 fp1 H1 Dn acc F fp H (L2.wipe σ vs) ρ ∧ IsDs K G F acc zs ∧ acc.length ≤ i ∧ ∃ ys, compL g t f vs (ds.drop i) ρ = .ok ys ρz ∧ zs ++ ys = all, ⟨ds.length, by simp, Nat.zero_le _, ?_⟩, ?_⟩
  · exact ⟨[], [], F1, fp1, ρ1, ⟨Ex.newH hD, S1.newH hD, upd_same, Same.fnone S1.sub hD, hfp⟩, .nil, Nat.le_refl _, all, by simpa using h, rfl⟩
  · rintro i m H ⟨rfl, hi, acc, zs, F, fp, ρ, m1, hz, hai, ys, hy, hall⟩
    by_cases hlt : i < ds.length
    · refine .inr ⟨it.go i F H m1.ex.fr m1.sk.sub hlt, fun H' => ∃ acc zs F fp ρ, Mk1 K G F1 fp1 H1 Dn acc F fp H' (L2.wipe σ vs) ρ ∧ IsDs K G F acc zs ∧ acc.length ≤ i + 1 ∧ ∃ ys, compL g t f vs (ds.drop (i + 1)) ρ = .ok ys ρz ∧ zs ++ ys = all,
        fun H' q => ⟨ds.length - (i + 1), by omega, rfl, hlt, q⟩, fun x H' hyl => ?_⟩
      have hd : ds[i]? = some ds[i] := List.getElem?_eq_getElem hlt
      rw [List.drop_eq_getElem_cons hlt] at hy
      obtain ⟨F3, e3, S3, r3⟩ : ∃ F3, Ex F fp H F3 fp H' ∧ Sk K G F3 fp H' (L2.wipe σ vs) ρ ∧ IsD K G F3 x ds[i] := by
        rcases it.yld i F H x H' ds[i] m1.ex.fr m1.sk.sub hd hyl with ⟨rfl, r⟩ | ⟨p, o, hp, rfl, nt, r⟩
        · exact ⟨F, Ex.refl _ _ _, m1.sk, r⟩
        · exact ⟨_, Ex.anew m1.sk hp, m1.sk.anew hp nt, r⟩
      have m3 := m1.later e3 S3
      have hz3 := hz.mono e3.fr
      obtain ⟨ρ1, k, ρ2, g1, g2, g3⟩ := compL_inv hy
      refine qg x ds[i] (L2.wipe σ vs) H' ρ ρ1 F3 fp _ S3 r3 g1 fun σ2 S2 b2 => ?_
      have ew := (b2.1 vs hsl).trans (wipe_wipe fun _ z => z)
      refine ⟨ew, ?_⟩
      refine qt σ2 H' ρ1 F3 fp _ S2 ?_
      rw [g2]
      intro b H4 F4 fp4 e4 S4 rb
      cases rb
      have m4 := m3.later e4 S4
      have hz4 := hz3.mono e4.fr
      rcases g3 with ⟨rfl, y, ρ3, ys', g4, g5, rfl⟩ | ⟨rfl, g4⟩
      · rw [if_pos rfl]
        refine run_dE (rel := fun F _ _ _ _ v x => IsD K G F v x) (k := fun y ρ => .ok y ρ) (Q' := fun _ _ => True) qe S4 (by rw [g4]; exact fun _ _ _ _ _ _ _ => trivial) fun y' ρ3' v F5 fp5 H5 g4' e5 S5 r5 _ => ?_
        rw [g4] at g4'; cases g4'
        have m5 := m4.later e5 S5
        have S6 := S5.wipe vs
        rw [ew] at S6
        have m6 := m4.later e5 S6
        exact ⟨acc, m5.at_, by rw [← lim_eq]; omega, acc ++ [v], zs ++ [y], F5, fp5, _, m6.push hD, (hz4.mono e5.fr).append (.cons r5 .nil), by rw [List.length_append, List.length_singleton]; omega, ys', g5, by rw [List.append_assoc]; exact hall⟩
      · rw [if_neg Bool.false_ne_true]
        have S6 := S4.wipe vs
        rw [ew] at S6
        exact ⟨acc, zs, F4, fp4, _, m3.later e4 S6, hz4, by omega, ys, g4, hall⟩
    · have hi' : i = ds.length := by omega
      subst hi'
      rw [List.drop_length] at hy
      cases hy
      rw [List.append_nil] at hall
      subst hall
      exact .inl ⟨it.stop _ F H m1.ex.fr m1.sk.sub (Nat.le_refl _), hP acc F fp H m1 hz⟩
theorem compL_wiped {g : SemG} {t : Option SemT} {f : SemE} {vs : List Nat} : ∀ {ds : List D} {ρ ρ' : Ev} {ys : List D}, compL g t f vs ds (wipeE ρ vs) = .ok ys ρ' → ∃ ρ'', ρ' = wipeE ρ'' vs
  | [], ρ, ρ', ys, h => by cases h; exact ⟨ρ, rfl⟩
  | d :: ds, ρ, ρ', ys, h => by
    obtain ⟨ρ1, k, ρ2, _, _, h⟩ := compL_inv h
    rcases h with ⟨_, y, ρ3, ys', _, h, _⟩ | ⟨_, h⟩
    · exact compL_wiped h
    · exact compL_wiped h
/-- what a comprehension tells: a new list -/
theorem comp_read {wi : TI} {it : SemI} {g : SemG} {sl vs : List Nat} {t : Option SemT} {f : SemE} {tg' : TG} {tt : TT} {te : TE} {σ : L2.St} {H : Hp} {ρ : Ev} {F : Hp} {fp : Addr → Prop} {Q : VK}
    (qi : ∀ σ H ρ F fp R, Sk X.K G F fp H σ ρ → Run X.K G W σ F fp H (RI X.K G) (it ρ) R → wi σ H R)
    (qg : ∀ v x σ H ρ ρ' F fp (Q : L2.St → Hp → Prop), Sk X.K G F fp H σ ρ → IsD X.K G F v x → g x ρ = some ρ' → (∀ σ', Sk X.K G F fp H σ' ρ' → But sl σ σ' → Q σ' H) → tg' v σ H Q)
    (qt : ∀ σ H ρ F fp Q, Sk X.K G F fp H σ ρ → Run X.K G (fun _ _ _ _ => False) σ F fp H RB (ifsS t ρ) Q → tt σ H Q)
    (qe : ∀ σ H ρ F fp Q, Sk X.K G F fp H σ ρ → Run X.K G (fun _ _ _ _ => False) σ F fp H (RU X.K G) (f ρ) Q → te σ H Q)
    (hsl : ∀ i ∈ sl, i ∈ vs) (S : Sk X.K G F fp H σ ρ)
    (h : Run X.K G W σ F fp H (RU X.K G) ((compS it g t f vs ρ).bind fun ys ρ1 => .ok (.v (.l ys)) ρ1) Q) : tLc wi tg' tt te vs σ H Q := by
  have h : Run X.K G W σ F fp H (RU X.K G) ((it ρ).bind fun ds ρ1 => (if ds.length ≤ 16777216 then compL g t f vs ds (wipeE ρ1 vs) else .bad).bind fun ys ρ2 => .ok (.v (.l ys)) ρ2) Q := by
    unfold compS at h
    cases q : it ρ <;> rw [q] at h <;> exact h
  refine qi σ H ρ F fp _ S (Run.bind h fun ds ρ1 Jt F1 fp1 H1 zq1 e1 S1 it1 h1 => fun Dn hDn => ?_)
  by_cases hl : ds.length ≤ 16777216
  · rw [if_pos hl] at h1
    cases q : compL g t f vs ds (wipeE ρ1 vs) with
    | bad => rw [q] at h1; exact h1.elim
    | exc x S' => exact absurd q compL_nox
    | ok all ρz =>
      rw [q] at h1
      simp only [Out.bind_ok] at h1
      have S2 : Sk X.K G F1 (fun b => fp1 b ∧ b ≠ Dn) H1 σ ρ1 := ⟨S1.sub, S1.len, S1.at_, fun i v a b s o => ⟨⟨(S1.own i v a b s o).1, fun z => (S1.is s).live o (by rw [z]; exact hDn)⟩, (S1.own i v a b s o).2⟩, S1.inj⟩
      refine comp_run qg qt qe hsl it1 hl (S2.wipe vs) hDn (fun z => z.2 rfl) q fun acc F2 fp2 H2 m2 hz => ?_
      obtain ⟨ρy, rfl⟩ := compL_wiped q
      have S3 := m2.sk.unwipe
      refine h1 (.ref Dn) H2 F2 (fun b => fp2 b ∨ b = Dn) ⟨m2.ex.fr, fun b o z hn nt => m2.ex.keep b o z (fun y => hn y.1) nt, fun b o z => (m2.ex.new b o z).imp id (.imp id (·.1)), fun b z => ?_, m2.ex.live⟩ (S3.more fun _ z => .inl z) ⟨⟨Dn, acc, rfl, m2.at_, hz⟩, fun b o => ?_⟩
      · rcases z with z | rfl
        · exact (m2.ex.nfp b z).imp (·.1) id
        · exact .inr hDn
      · cases o
        exact ⟨.inr rfl, m2.nF, fun i w c s o => m2.nμ (S3.own i w c _ s o).1⟩
  · rw [if_neg hl] at h1
    exact h1.elim

/-! ### readings that hang on the meaning alone -/
def canE (K : PySem.W.Frag) (G : Tab) (W : WX) (f : SemE) : TE := fun σ H Q => ∃ ρ F fp, Sk K G F fp H σ ρ ∧ Run K G W σ F fp H (RU K G) (f ρ) Q
def canT (K : PySem.W.Frag) (G : Tab) (W : WX) (f : SemT) : TT := fun σ H Q => ∃ ρ F fp, Sk K G F fp H σ ρ ∧ Run K G W σ F fp H RB (f ρ) Q
def canG (K : PySem.W.Frag) (G : Tab) (g : SemG) (sl : List Nat) : TG := fun v σ H Q => ∃ x ρ ρ' F fp, Sk K G F fp H σ ρ ∧ IsD K G F v x ∧ g x ρ = some ρ' ∧ ∀ σ', Sk K G F fp H σ' ρ' → But sl σ σ' → Q σ' H
theorem EE.can {f : SemE} (h : EE X G W e f) : PE X e (canE X.K G W f) := by
  obtain ⟨t, p, q⟩ := h.ex
  exact ⟨fun pins s σ H Q I ⟨ρ, F, fp, S, r⟩ => p.run pins s σ H Q I (q σ H ρ F fp Q S r)⟩
theorem ET.can {f : SemT} (h : ET X G W e f) : PT X e (canT X.K G W f) := by
  obtain ⟨t, p, q⟩ := h.ex
  exact ⟨fun pins s σ H Q I ⟨ρ, F, fp, S, r⟩ => p.run pins s σ H Q I (q σ H ρ F fp Q S r)⟩
theorem EG.can {g : SemG} {sl : List Nat} (h : EG X G e g sl) : PG X e (canG X.K G g sl) := by
  obtain ⟨t, p, q⟩ := h.ex
  exact ⟨fun pins s σ H v u Q I r ⟨x, ρ, ρ', F, fp, S, rx, hg, k⟩ => p.run pins s σ H v u Q I r (q v x σ H ρ ρ' F fp Q S rx hg k)⟩
inductive EIfB (X : Cx) (G : Tab) (scope : Scope) : List Expr → Option SemT → Prop
  | none : EIfB X G scope [] none
  | some {c : Expr} {t : SemT} (h : ∀ (s : Shared) (H : Hp) (C : Addr) (cl : List (Str × Addr)) (fp : List Addr), ET (X.blk s H scope (compEnvC scope cl C X.env) fp) G (fun _ _ _ _ => False) c t) : EIfB X G scope [c] (some t)
theorem EIfB.can {scope : Scope} {t : Option SemT} (ht : EIfB X G scope ifs t) : ∃ tt : TT, (∀ (s : Shared) (H : Hp) (C : Addr) (cl : List (Str × Addr)) (fp : List Addr), PTs (X.blk s H scope (compEnvC scope cl C X.env) fp) ifs tt) ∧ ∀ σ H ρ F fp Q, Sk X.K G F fp H σ ρ → Run X.K G (fun _ _ _ _ => False) σ F fp H RB (ifsS t ρ) Q → tt σ H Q := by
  cases ht with
  | none => exact ⟨tYes, fun s H C cl fp => pts_nil, fun σ H ρ F fp Q S h => Run.now h S rfl⟩
  | some h => exact ⟨canT X.K G (fun _ _ _ _ => False) _, fun s H C cl fp => pts_one (h s H C cl fp).can, fun σ H ρ F fp Q S h => ⟨ρ, F, fp, S, h⟩⟩
@[simp] def compE (c : SemI) : SemE := fun ρ => (c ρ).bind fun ys ρ1 => .ok (.v (.l ys)) ρ1
theorem ee_comp {scope : Scope} {own : List (Str × Nat)} {it : SemI} {g : SemG} {sl : List Nat} {t : Option SemT} {f : SemE} (hc : X.calm = true) (hN : X.N.Nodup) (hi : EI X G W tg iter it) (ok : BlkOk X.N X.env.scope scope own)
    (hg : ∀ (s : Shared) (H : Hp) (C : Addr) (cl : List (Str × Addr)) (fp : List Addr), EG (X.blk s H scope (compEnvC scope cl C X.env) fp) G tg g sl)
    (ht : EIfB X G scope ifs t)
    (he : ∀ (s : Shared) (H : Hp) (C : Addr) (cl : List (Str × Addr)) (fp : List Addr), EE (X.blk s H scope (compEnvC scope cl C X.env) fp) G (fun _ _ _ _ => False) elt f)
    (hsl : ∀ i ∈ sl, i ∈ own.map (·.2)) (hs : setless iter = true) : EE X G W (.ListComp elt [⟨tg, iter, ifs, 0⟩] scope pos) (compE (compS it g t f (own.map (·.2)))) := by
  obtain ⟨wi, pi, qi⟩ := hi.ex
  obtain ⟨tt, pt, qt⟩ := ht.can
  have pg : ∀ (s : Shared) (H : Hp) (C : Addr) (cl : List (Str × Addr)) (fp : List Addr), PG (X.blk s H scope (compEnvC scope cl C X.env) fp) tg (canG X.K G g sl) := fun s H C cl fp => (hg s H C cl fp).can
  have pe : ∀ (s : Shared) (H : Hp) (C : Addr) (cl : List (Str × Addr)) (fp : List Addr), PE (X.blk s H scope (compEnvC scope cl C X.env) fp) elt (canE X.K G (fun _ _ _ _ => False) f) := fun s H C cl fp => (he s H C cl fp).can
  exact ⟨_, pe_lc hc hN pi ok pg pt pe (folded_c hs _), fun σ H ρ F fp Q S h => comp_read qi (fun v x σ H ρ ρ' F fp Q S r e k => ⟨x, ρ, ρ', F, fp, S, r, e, k⟩) qt (fun σ H ρ F fp Q S h => ⟨ρ, F, fp, S, h⟩) hsl S h⟩
theorem ss_setComp {scope : Scope} {own : List (Str × Nat)} {it : SemI} {g : SemG} {sl : List Nat} {t : Option SemT} {f : SemE} {i : Nat} {y : Str} {py spos : Pos} (hJ : i ∉ J) (hc : X.calm = true) (hN : X.N.Nodup)
    (hy : X.N[i]? = some y) (hyl : X.env.scope.names.lookup y = some .local) (hsw : swapsWith (.ListComp elt [⟨tg, iter, ifs, 0⟩] scope pos) (some (.Name y py)) spos.line X.env = pure true)
    (hi : EI X G W tg iter it) (ok : BlkOk X.N X.env.scope scope own)
    (hg : ∀ (s : Shared) (H : Hp) (C : Addr) (cl : List (Str × Addr)) (fp : List Addr), EG (X.blk s H scope (compEnvC scope cl C X.env) fp) G tg g sl)
    (ht : EIfB X G scope ifs t)
    (he : ∀ (s : Shared) (H : Hp) (C : Addr) (cl : List (Str × Addr)) (fp : List Addr), EE (X.blk s H scope (compEnvC scope cl C X.env) fp) G (fun _ _ _ _ => False) elt f)
    (hsl : ∀ i ∈ sl, i ∈ own.map (·.2)) (hs : setless iter = true) :
    SS X G W J (.Assign [.Name y py] (.ListComp elt [⟨tg, iter, ifs, 0⟩] scope pos) spos) (setS i (compE (compS it g t f (own.map (·.2))))) := by
  obtain ⟨wi, pi, qi⟩ := hi.ex
  obtain ⟨tt, pt, qt⟩ := ht.can
  have pg : ∀ (s : Shared) (H : Hp) (C : Addr) (cl : List (Str × Addr)) (fp : List Addr), PG (X.blk s H scope (compEnvC scope cl C X.env) fp) tg (canG X.K G g sl) := fun s H C cl fp => (hg s H C cl fp).can
  have pe : ∀ (s : Shared) (H : Hp) (C : Addr) (cl : List (Str × Addr)) (fp : List Addr), PE (X.blk s H scope (compEnvC scope cl C X.env) fp) elt (canE X.K G (fun _ _ _ _ => False) f) := fun s H C cl fp => (he s H C cl fp).can
  refine ⟨_, ps_setLc hc hN hy hyl hsw pi ok pg pt pe (folded_c hs _), fun σ H ρ F fp Z S h => ?_⟩
  refine comp_read qi (fun v x σ H ρ ρ' F fp Q S r e k => ⟨x, ρ, ρ', F, fp, S, r, e, k⟩) qt (fun σ H ρ F fp Q S h => ⟨ρ, F, fp, S, h⟩) hsl S ?_
  exact SRun.bindE (x := compE (compS it g t f (own.map (·.2))) ρ) h fun u ρ1 v F1 fp1 H1 zq1 e1 S1 r1 h1 => run_set hJ S1 r1 h1
end
end Pv

namespace Pv
open PySem PySem.Spec PyProof.Rows L2

/-! ### what a def promises -/
inductive OutF where
  | ok (a : A) (ws : List (Option A))
  | exc (x : X1) (ws : List (Option A))
  | bad
abbrev SemF := List A → OutF
/-- what the names J hold at the end, of the first n -/
@[simp] def keepJ (J : List Nat) (i : Nat) : Nat → Ev → List (Option A)
  | 0, _ => []
  | _ + 1, [] => []
  | n + 1, a :: ρ => (if i ∈ J then a else none) :: keepJ J (i + 1) n ρ
def exitV (J : List Nat) (ar : Nat) (o : Out Fw) : OutF := match o with
  | .ok (.rt a) ρ => .ok a (keepJ J 0 ar ρ)
  | .ok .nx ρ => .ok (.d .non) (keepJ J 0 ar ρ)
  | .exc x ρ => .exc x (keepJ J 0 ar ρ)
  | _ => .bad
@[simp] theorem exitV_rt (J : List Nat) (ar : Nat) (a : A) (ρ : Ev) : exitV J ar (.ok (.rt a) ρ) = .ok a (keepJ J 0 ar ρ) := rfl
@[simp] theorem exitV_nx (J : List Nat) (ar : Nat) (ρ : Ev) : exitV J ar (.ok .nx ρ) = .ok (.d .non) (keepJ J 0 ar ρ) := rfl
@[simp] theorem exitV_exc (J : List Nat) (ar : Nat) (x : X1) (ρ : Ev) : exitV J ar (.exc x ρ) = .exc x (keepJ J 0 ar ρ) := rfl
def fnV (ar nloc : Nat) (J : List Nat) (body : SemS) : SemF := fun as => if as.length = ar then exitV J ar (body (as.map some ++ List.replicate (nloc - ar) none)) else .bad
def RunF (K : PySem.W.Frag) (G : Tab) (σ : L2.St) (F : Hp) (fp : Addr → Prop) (H : Hp) (r : OutF) (Q : VK) (E : XK) : Prop :=
  match r with
  | .ok a ws => ∀ v H' F' fp', Ex F fp H F' fp' H' → Sk K G F' fp' H' σ ws → RU K G F' fp' H' σ ws v (.v a) → Q v H'
  | .exc x ws => ∀ cls dd H' F' fp', Ex F fp H F' fp' H' → Sk K G F' fp' H' σ ws → IsX K G F' H' cls dd x → E cls dd H'
  | .bad => False
def spF (K : PySem.W.Frag) (G : Tab) (ar : Nat) (f : SemF) : Sp := fun vs H Q E => vs.length = ar ∧ ∃ F fp as, Sk K G F fp H (vs.map some) (as.map some) ∧ RunF K G (vs.map some) F fp H (f as) Q E
section
variable {K : PySem.W.Frag} {G : Tab} {F H F' H' : Hp} {fp fp' : Addr → Prop} {σ : L2.St} {ρ : Ev}
theorem keepJ_len (J : List Nat) : ∀ (n i : Nat) (ρ : Ev), n ≤ ρ.length → (keepJ J i n ρ).length = n
  | 0, _, _, _ => rfl
  | n + 1, i, [], h => by simp at h
  | n + 1, i, a :: ρ, h => by
    simp only [keepJ, List.length_cons]
    rw [keepJ_len J n (i + 1) ρ (by simpa using h)]
theorem keepJ_at (J : List Nat) : ∀ (n i : Nat) (ρ : Ev) (k : Nat) (a : A), (keepJ J i n ρ)[k]? = some (some a) → k < n ∧ i + k ∈ J ∧ ρ[k]? = some (some a)
  | 0, _, _, k, a, h => by simp at h
  | n + 1, i, [], k, a, h => by simp at h
  | n + 1, i, b :: ρ, 0, a, h => by
    simp only [keepJ, List.getElem?_cons_zero, Option.some.injEq] at h
    split at h
    · rename_i hj; exact ⟨Nat.succ_pos _, hj, by simp [h]⟩
    · cases h
  | n + 1, i, b :: ρ, k + 1, a, h => by
    simp only [keepJ, List.getElem?_cons_succ] at h
    obtain ⟨h1, h2, h3⟩ := keepJ_at J n (i + 1) ρ k a h
    exact ⟨Nat.succ_lt_succ h1, by rw [show i + (k + 1) = i + 1 + k by omega]; exact h2, by simpa using h3⟩
theorem start_sk {N : List Str} {vs : List V} {as : List A} (S : Sk K G F fp H (vs.map some) (as.map some)) (hl : vs.length ≤ N.length) : Sk K G F fp H (L2.start N vs) (as.map some ++ List.replicate (N.length - as.length) none) := by
  have hv : vs.length = as.length := by have := S.len; simpa using this
  have key : ∀ (i : Nat) (a : A), (as.map some ++ List.replicate (N.length - as.length) none)[i]? = some (some a) → i < as.length ∧ (as.map some)[i]? = some (some a) := fun i a h => by
    by_cases hi : i < as.length
    · rw [List.getElem?_append_left (by simpa using hi)] at h
      exact ⟨hi, h⟩
    · rw [List.getElem?_append_right (by simp; omega), List.getElem?_replicate] at h
      split at h <;> cases h
  refine S.sub_of (by unfold L2.start; simp [hv]) (fun i a h => ?_) fun i v a s => ?_
  · obtain ⟨hi, h1⟩ := key i a h
    refine ⟨vs[i]'(by omega), ?_⟩
    unfold L2.start
    rw [List.getElem?_append_left (by simp; omega), List.getElem?_map, List.getElem?_eq_getElem (by omega)]
    rfl
  · obtain ⟨hi, h1⟩ := key i a s.2
    refine ⟨?_, h1⟩
    have := s.1
    unfold L2.start at this
    rwa [List.getElem?_append_left (by simp; omega)] at this
theorem exit_sk {N : List Str} {vs : List V} {J : List Nat} {ar : Nat} (har : vs.length = ar) (hl : vs.length ≤ N.length) (S : Sk K G F fp H σ ρ) (j : Jk J (L2.start N vs) σ) :
    Sk K G F fp H (vs.map some) (keepJ J 0 ar ρ) ∧ ∀ (i : Nat) (v : V) (a : A), Sl (vs.map some) (keepJ J 0 ar ρ) i v a → Sl σ ρ i v a := by
  have h1 : ∀ (i : Nat) (a : A), (keepJ J 0 ar ρ)[i]? = some (some a) → i < vs.length ∧ σ[i]? = (vs.map some)[i]? ∧ ρ[i]? = some (some a) := fun i a h => by
    obtain ⟨k1, k2, k3⟩ := keepJ_at J ar 0 ρ i a h
    rw [Nat.zero_add] at k2
    refine ⟨by omega, ?_, k3⟩
    rw [j.2 i k2]
    unfold L2.start
    rw [List.getElem?_append_left (by simp; omega)]
  have h2 : ∀ (i : Nat) (v : V) (a : A), Sl (vs.map some) (keepJ J 0 ar ρ) i v a → Sl σ ρ i v a := fun i v a s => by
    obtain ⟨_, e1, e2⟩ := h1 i a s.2
    exact ⟨e1.trans s.1, e2⟩
  refine ⟨S.sub_of ?_ (fun i a h => ?_) h2, h2⟩
  · rw [keepJ_len J ar 0 ρ (by rw [← S.len, j.1]; unfold L2.start; simp; omega)]
    simp [har]
  · obtain ⟨hi, _, _⟩ := h1 i a h
    exact ⟨vs[i]'hi, by rw [List.getElem?_map, List.getElem?_eq_getElem hi]; rfl⟩
theorem RU.sub_of {σ σ' : L2.St} {ρ ρ' : Ev} {v : V} {a : A} (r : RU K G F fp H σ ρ v (.v a)) (h : ∀ (i : Nat) (v : V) (a : A), Sl σ' ρ' i v a → Sl σ ρ i v a) : RU K G F fp H σ' ρ' v (.v a) :=
  ⟨r.1, fun b o => ⟨(r.2 b o).1, (r.2 b o).2.1, fun i w c s => (r.2 b o).2.2 i w c (h i w c s)⟩⟩
end
/-! ### a def's promise, where no repr is under way -/
structure RoomG (k : Nat) (A : Around) : Prop where
  room : Room k A
  gd : A.guards = some []
theorem RoomG.deeper {k : Nat} {A : Around} (r : RoomG (k + 1) A) (env : PySem.Env) : RoomG k (A.deeper env) := ⟨r.room.deeper env, r.gd⟩
structure FnG (P : Program) (w : World) (K : PySem.W.Frag) (mg : Str → Option Value) (base : Heap) (CX : CXT) (k : Nat) (f : Addr) (fd : FuncData) (ps : List Str) (sp : Sp) : Prop where
  len : ∀ vs H Q E, sp vs H Q E → vs.length = ps.length
  run : ∀ (A : Around) (outer : List PySem.Env) (s : Shared) (H : Hp) (args : Args) (us : List Value) (vs : List V) (Q : VK) (E : XK), RoomG k A → Env0 P w K mg base A outer s H → BindsTo s fd args (ps.zip us) → Vals vs us → sp vs H Q E →
    codeAny (model P w) A (.call (.ref f) args) (CR CX outer P w H s Q E) s
theorem FnG.imp {P : Program} {w : World} {K : PySem.W.Frag} {mg : Str → Option Value} {base : Heap} {CX : CXT} {k : Nat} {f : Addr} {fd : FuncData} {ps : List Str} {sp sp' : Sp} (F : FnG P w K mg base CX k f fd ps sp)
    (h : ∀ vs H Q E, sp' vs H Q E → sp vs H Q E) : FnG P w K mg base CX k f fd ps sp' :=
  ⟨fun vs H Q E q => F.len vs H Q E (h _ _ _ _ q), fun A outer s H args us vs Q E hr he hb hv hs => F.run A outer s H args us vs Q E hr he hb hv (h _ _ _ _ hs)⟩
theorem fn_ofG {CX : CXT} {P : Program} {w : World} {K : PySem.W.Frag} {mg : Str → Option Value} {base : Heap} {k : Nat} {f : Addr} {x qual : Str} {st : Stmt} {fd : FuncData} {N ps : List Str} {sp : Sp} (F : Fun K x qual st f fd) (S : FnScope N ps (defScope st))
    (len : ∀ vs H Q E, sp vs H Q E → vs.length = ps.length)
    (hbody : ∀ (cdv : Value) (A : Around) (outer : List PySem.Env) (s : Shared) (H : Hp) (vs : List V) (Q : VK) (E : XK), cdv = fd.code → RoomG k (A.deeper (envOfC qual (defScope st) s.heap.objs.size f cdv)) → sp vs H Q E →
      ∃ t, PSs (cxOf CX P w K mg base N qual (defScope st) f cdv A outer s H E) (defBody st) t ∧ t { nx := fun _ H' => Q .non H', rt := Q } (L2.start N vs) H) :
    FnG P w K mg base CX (k + 1) f fd ps sp := by
  obtain ⟨oc, od, kV, doc, pm, an, cdv, ct, osl, rfl, lk, hcd⟩ := F.ex
  refine ⟨len, fun A outer s H args us vs Q E hr e0 hb r hsp => ?_⟩
  have hl := len _ _ _ _ hsp
  have KX : K.In s.heap := e0.mod.kin.keeps fun b o e => (e0.bs b o e).1
  have lim : s.heap.NoLimit := e0.mod.nolimit.keeps fun b o e => (e0.bs b o e).1
  have hkind : ∀ y ∈ ps.zip us, (defScope st).names.lookup y.1 = some .local ∨ ((defScope st).names.lookup y.1 = some .cell ∧ ((cellsFrom (s.heap.objs.size + 1) (defScope st).names []).lookup y.1).isSome = true) := fun ⟨n, v⟩ hy => by
    rcases S.par n (List.of_mem_zip hy).1 with q | q
    · exact .inl q
    · exact .inr ⟨q, PySem.W.cellsFrom_some _ _ _ (.inl q)⟩
  refine codeAny_call_function hr.room.depth (KX _ _ lk) rfl S.co S.gen rfl (PySem.W.codeRec_of KX hcd) (hb _ _ _ _ ?_)
  refine wpAny_newFunctionEnv_cells S.kind hkind fun env he s1 x => ?_
  subst he
  refine ⟨lim.keeps x.toInCall.keep, codeAny_func ?_⟩
  obtain ⟨t, ht, hq⟩ := hbody cdv A outer s H vs Q E rfl (hr.deeper _) hsp
  have I : Inv (cxOf CX P w K mg base N qual (defScope st) f cdv A outer s H E) [] (L2.start N vs) H s1 := inv_start S hr.room.hd e0 hl r x
  refine wpAny_mono (ht.run [] s1 (L2.start N vs) H _ I hq) (fun fl s' hs => ?_) fun e s' hs => hs
  have fin : ∀ {σ' : L2.St} {H' : Hp} {v : V} {u : Value}, Inv (cxOf CX P w K mg base N qual (defScope st) f cdv A outer s H E) [] σ' H' s' → RelV v u → Q v H' → CE outer P w H s Q u s' :=
    fun {σ' H' v u} J rv q => ⟨v, H', J.os, J.bare, J.base, J.hok, rv, q⟩
  cases fl with
  | ret u =>
    obtain ⟨v, σ', H', J, rv, q⟩ := hs
    exact fin J rv q
  | next =>
    obtain ⟨σ', H', J, q⟩ := hs
    exact fin (v := V.non) (u := Value.none) J rfl q
  | brk =>
    obtain ⟨_, _, _, q⟩ := hs
    exact False.elim q
  | cont =>
    obtain ⟨_, _, _, q⟩ := hs
    exact False.elim q
section
variable {X : Cx} {CX : CXT} {k : Nat} {f : Addr} {fd : FuncData} {ps : List Str} {sp : Sp} {E : L2.St → XK} {x : Str} {p pos : Pos} {e : Expr} {es : List Expr} {t : TA}
theorem run_fnG {pins : List (Addr × Obj)} {σ : L2.St} {H : Hp} {s : Shared} {Q : VK} {us : List Value} {vs : List V} (F : FnG X.prog X.w X.K X.mg X.base CX k f fd ps sp) (hr : RoomG k X.A) (hb : Binds X.K fd ps []) (hx : PassesAt CX X σ (E σ))
    (I : Inv X pins σ H s) (r : Vals vs us) (h : sp vs H Q (E σ)) : wpAny (model X.prog X.w) X.A (call (.ref f) us) (EP X pins σ Q) X.xe s := by
  have hl : us.length = ps.length := by rw [← r.length]; exact F.len _ _ _ _ h
  have b := hb s us I.kIn (by rw [List.append_nil]; exact hl)
  rw [List.append_nil] at b
  refine wpAny_call (codeAny_mono (F.run X.A X.stack s H ⟨us, []⟩ us vs Q (E σ) hr I.env0 b r h) fun r s' hq => ?_)
  cases r with
  | error e => exact hx pins H s e s' I hq
  | ok fl =>
    cases fl with
    | ret u => exact I.after hq
    | next => exact False.elim hq
    | brk => exact False.elim hq
    | cont => exact False.elim hq
theorem pe_callG (F : FnG X.prog X.w X.K X.mg X.base CX k f fd ps sp) (hr : RoomG k X.A) (hg : Gl X x) (hm : X.mg x = some (.ref f)) (hk : PySem.W.keepIn X.K (.ref f) = true) (hb : Binds X.K fd ps []) (hx : ∀ σ, PassesAt CX X σ (E σ))
    (ha : PA X (e :: es) t) (hdb : (x == ("__debug__" : Str)) = false) (he : starEach (e :: es) X.env = (false, eval e X.env) :: starEach es X.env) (hpl : (backTo pos (starEach es X.env)).any (·.1) = false) :
    PE X (.Call (.Name x p) (e :: es) [] pos) (tCallS sp E t) := by
  refine ⟨fun pins s σ H Q I h => ?_⟩
  refine wpAny_Call_Name_kw (ld_glob I hg hm ?_ hdb)
  refine PySem.W.callWith_K (h₀ := X.base) I.ok.mod.kin hk (thn (ha.run pos pins s σ H _ I h) fun us s1 ⟨vs, H1, I1, r, q⟩ => ⟨I1.kIn, ?_⟩) he hpl
  exact run_fnG F hr hb (hx σ) I1 r q
/-- f(), a def without parameters -/
theorem pe_callG0 (F : FnG X.prog X.w X.K X.mg X.base CX k f fd ps sp) (hr : RoomG k X.A) (hg : Gl X x) (hm : X.mg x = some (.ref f)) (hk : PySem.W.keepIn X.K (.ref f) = true) (hb : Binds X.K fd ps []) (hx : ∀ σ, PassesAt CX X σ (E σ))
    (hdb : (x == ("__debug__" : Str)) = false) : PE X (.Call (.Name x p) [] [] pos) (fun σ H Q => sp [] H Q (E σ)) := by
  refine ⟨fun pins s σ H Q I h => ?_⟩
  refine wpAny_Call_Name_kw (ld_glob I hg hm ?_ hdb)
  refine PySem.W.callWith_K0 I.kIn hk ?_
  exact run_fnG F hr hb (hx σ) I .nil h
end
/-- a def's body keeps its promise -/
theorem fn_ok {P : Program} {w : World} {K : PySem.W.Frag} {mg : Str → Option Value} {base : Heap} {G : Tab} {x qual : Str} {st : Stmt} {f : Addr} {fd : FuncData} {N ps : List Str} {k : Nat} {J : List Nat} {body : SemS} (F : Fun K x qual st f fd) (Sc : FnScope N ps (defScope st))
    (hb : ∀ (X : Cx) (W : WX), X.prog = P → X.w = w → X.K = K → X.mg = mg → X.base = base → X.N = N → X.env.scope = defScope st → X.calm = true → (∀ y, X.fn y = true) → X.stack = X.env :: X.outer → X.env.frame = some X.env.locals → RoomG k X.A → Takes X W → PassesOwn (model X.prog X.w) X.A X.env X.xe → X.env.code = fd.code → X.env.qual = qual ++ ".<locals>." →
      SSs X G W J (defBody st) body) : FnG P w K mg base (L2.CX P w) (k + 1) f fd ps (spF K G ps.length (fnV ps.length N.length J body)) := by
  have hpl : ps.length ≤ N.length := by have := congrArg List.length Sc.pre; rw [List.length_take] at this; omega
  refine fn_ofG F Sc (fun vs H Q E h => h.1) fun cdv A outer s H vs Q E hcv hr h => ?_
  obtain ⟨hl, F0, fp, as, S, h⟩ := h
  have hus : as.length = ps.length := by have := S.len; simp at this; omega
  unfold fnV at h
  rw [if_pos hus] at h
  obtain ⟨t, p, q⟩ := (hb (cxOf (L2.CX P w) P w K mg base N qual (defScope st) f cdv A outer s H E) (fun c d _ H' => E c d H') rfl rfl rfl rfl rfl rfl rfl rfl (fun _ => rfl) rfl rfl hr (takes_of rfl rfl rfl rfl) (passes_of rfl) hcv rfl).ex
  have S0 : Sk K G F0 fp H (L2.start N vs) (as.map some ++ List.replicate (N.length - ps.length) none) := by
    rw [← hus]; exact start_sk S (by omega)
  refine ⟨t, p, q (L2.start N vs) H _ F0 fp _ S0 ?_⟩
  have hlN : vs.length ≤ N.length := by omega
  cases o : body (as.map some ++ List.replicate (N.length - ps.length) none) with
  | bad => rw [o] at h; exact h.elim
  | exc x ρ' =>
    rw [o] at h
    exact fun cls dd σ' H' F' fp' e S' j r => h cls dd H' F' fp' e (exit_sk hl hlN S' j).1 r
  | ok fl ρ' =>
    rw [o] at h
    cases fl with
    | nx => exact fun σ' H' F' fp' e S' j => h .non H' F' fp' e (exit_sk hl hlN S' j).1 ⟨IsD.non, fun b o => by simp at o⟩
    | rt a => exact fun v σ' H' F' fp' e S' j r => h v H' F' fp' e (exit_sk hl hlN S' j).1 (r.sub_of (exit_sk hl hlN S' j).2)
    | bk => exact h.elim
    | ct => exact h.elim

/-! ### calls of defs -/
inductive Ar where
  | x (d : D) | s (i : Nat)
/-- what is handed over: data, but for the places J, where a thing of one's own is lent -/
@[simp] def argsJ (J : List Nat) : Nat → List U → Ev → Out (List Ar)
  | _, [], ρ => .ok [] ρ
  | k, u :: us, ρ => if k ∈ J then (match u with
      | .s i => (argsJ J (k + 1) us ρ).bind fun zs ρ1 => .ok (.s i :: zs) ρ1
      | _ => .bad) else (frz u ρ).bind fun x ρ1 => (argsJ J (k + 1) us ρ1).bind fun zs ρ2 => .ok (.x x :: zs) ρ2
@[simp] def pickJ (ρ : Ev) : List Ar → Option (List A)
  | [] => some []
  | .x d :: zs => match pickJ ρ zs with
    | some as => some (.d d :: as)
    | none => none
  | .s i :: zs => match ρ[i]? with
    | some (some a) => match pickJ ρ zs with
      | some as => some (a :: as)
      | none => none
    | _ => none
@[simp] def lentJ : List Ar → List Nat
  | [] => []
  | .x _ :: zs => lentJ zs
  | .s i :: zs => i :: lentJ zs
@[simp] def backJ : List Ar → List (Option A) → Ev → Ev
  | .s i :: zs, w :: ws, ρ => backJ zs ws (ρ.set i w)
  | .x _ :: zs, _ :: ws, ρ => backJ zs ws ρ
  | _, _, ρ => ρ
def outF (zs : List Ar) (ρ : Ev) (o : OutF) : Out U := match o with
  | .ok a ws => .ok (.v a) (backJ zs ws ρ)
  | .exc x ws => .exc x (backJ zs ws ρ)
  | .bad => .bad
@[simp] theorem outF_ok (zs : List Ar) (ρ : Ev) (a : A) (ws : List (Option A)) : outF zs ρ (.ok a ws) = .ok (.v a) (backJ zs ws ρ) := rfl
@[simp] theorem outF_exc (zs : List Ar) (ρ : Ev) (a : X1) (ws : List (Option A)) : outF zs ρ (.exc a ws) = .exc a (backJ zs ws ρ) := rfl
@[simp] def callU (J : List Nat) (sem : SemF) (us : List U) (ρ : Ev) : Out U := (argsJ J 0 us ρ).bind fun zs ρ1 => if (lentJ zs).Nodup then (match pickJ ρ1 zs with
  | some as => outF zs ρ1 (sem as)
  | none => .bad) else .bad
@[simp] def callS (J : List Nat) (sem : SemF) (ga : SemA) : SemE := fun ρ => (ga ρ).bind fun us ρ1 => callU J sem us ρ1
section
variable {K : PySem.W.Frag} {G : Tab} {F H F' H' : Hp} {fp fp' : Addr → Prop} {σ : L2.St} {ρ ρ' : Ev}
/-- what is handed over is so -/
inductive IsAr (K : PySem.W.Frag) (G : Tab) (F : Hp) (σ : L2.St) : List V → List Ar → Prop
  | nil : IsAr K G F σ [] []
  | x {v : V} {vs : List V} {d : D} {zs : List Ar} : IsD K G F v d → IsAr K G F σ vs zs → IsAr K G F σ (v :: vs) (.x d :: zs)
  | s {v : V} {vs : List V} {i : Nat} {zs : List Ar} : σ[i]? = some (some v) → IsAr K G F σ vs zs → IsAr K G F σ (v :: vs) (.s i :: zs)
theorem IsAr.mono (e : Same F F') {vs : List V} {zs : List Ar} (h : IsAr K G F σ vs zs) : IsAr K G F' σ vs zs := by
  induction h with
  | nil => exact .nil
  | x h _ ih => exact .x (h.mono e) ih
  | s h _ ih => exact .s h ih
theorem argsJ_nox {J : List Nat} : ∀ {us : List U} {k : Nat} {ρ ρ' : Ev} {x : X1}, argsJ J k us ρ ≠ .exc x ρ'
  | [], k, ρ, ρ', x, h => by cases h
  | u :: us, k, ρ, ρ', x, h => by
    simp only [argsJ] at h
    split at h
    · split at h
      · cases e2 : argsJ J (k + 1) us ρ with
        | bad => rw [e2] at h; cases h
        | exc y ρ1 => exact argsJ_nox e2
        | ok y ρ1 => rw [e2] at h; cases h
      · cases h
    · cases e : frz u ρ with
      | bad => rw [e] at h; cases h
      | exc y ρ1 => exact frz_nox e
      | ok y ρ1 =>
        rw [e] at h
        simp only [Out.bind_ok] at h
        cases e2 : argsJ J (k + 1) us ρ1 with
        | bad => rw [e2] at h; cases h
        | exc y ρ1 => exact argsJ_nox e2
        | ok y ρ1 => rw [e2] at h; cases h
theorem argsJ_ok {J : List Nat} : ∀ {vs : List V} {us : List U} {zs : List Ar} {k : Nat} {F : Hp} {ρ : Ev}, Sk K G F fp H σ ρ → RUs K G F fp H σ ρ vs us → argsJ J k us ρ = .ok zs ρ' → ∃ F', Ex F fp H F' fp H ∧ Sk K G F' fp H σ ρ' ∧ IsAr K G F' σ vs zs
  | _, _, _, k, F, ρ, S, .nil, e => by cases e; exact ⟨F, Ex.refl _ _ _, S, .nil⟩
  | v :: vs, u :: us, _, k, F, ρ, S, .cons r t d, e => by
    simp only [argsJ] at e
    split at e
    · split at e
      · obtain ⟨ys, ρ2, e2, e⟩ := Out.bind_inv e
        cases e
        obtain ⟨F2, x2, S2, d2⟩ := argsJ_ok S t e2
        exact ⟨F2, x2, S2, .s r d2⟩
      · cases e
    · obtain ⟨x, ρ1, e1, e⟩ := Out.bind_inv e
      obtain ⟨ys, ρ2, e2, e⟩ := Out.bind_inv e
      cases e
      obtain ⟨F1, x1, S1, d1, f4, f5⟩ := frz_ok S r e1
      obtain ⟨F2, x2, S2, d2⟩ := argsJ_ok S1 (RUs.frozen (w := .non) S t x1.fr f4 f5 d) e2
      exact ⟨F2, x1.trans x2, S2, .x (d1.mono x2.fr) d2⟩
theorem pickJ_at : ∀ {zs : List Ar} {as : List A} {vs : List V}, IsAr K G F σ vs zs → pickJ ρ zs = some as → as.length = vs.length ∧ zs.length = vs.length ∧ ∀ (k : Nat) (a : A), as[k]? = some a → ∃ v, vs[k]? = some v ∧ ((∃ d, zs[k]? = some (.x d) ∧ a = .d d ∧ IsD K G F v d) ∨ ∃ i, zs[k]? = some (.s i) ∧ Sl σ ρ i v a)
  | _, _, _, .nil, e => by cases e; exact ⟨rfl, rfl, fun k a h => by simp at h⟩
  | _, _, _, .x hd t, e => by
    simp only [pickJ] at e
    split at e
    · rename_i as e1
      cases e
      obtain ⟨h1, h2, h3⟩ := pickJ_at t e1
      refine ⟨by simp [h1], by simp [h2], fun k a h => ?_⟩
      cases k with
      | zero => simp at h; subst h; exact ⟨_, rfl, .inl ⟨_, rfl, rfl, hd⟩⟩
      | succ k => simpa using h3 k a (by simpa using h)
    · cases e
  | _, _, _, .s hs t, e => by
    simp only [pickJ] at e
    split at e
    · rename_i a0 e0
      split at e
      · rename_i as e1
        cases e
        obtain ⟨h1, h2, h3⟩ := pickJ_at t e1
        refine ⟨by simp [h1], by simp [h2], fun k a h => ?_⟩
        cases k with
        | zero => simp at h; subst h; exact ⟨_, rfl, .inr ⟨_, rfl, hs, e0⟩⟩
        | succ k => simpa using h3 k a (by simpa using h)
      · cases e
    · cases e
theorem lentJ_nodup : ∀ {zs : List Ar}, (lentJ zs).Nodup → ∀ (k l i : Nat), zs[k]? = some (.s i) → zs[l]? = some (.s i) → k = l
  | [], _, k, l, i, h, _ => by simp at h
  | .x d :: zs, hn, k, l, i, h, h' => by
    cases k with
    | zero => simp at h
    | succ k =>
      cases l with
      | zero => simp at h'
      | succ l => rw [lentJ_nodup (zs := zs) hn k l i (by simpa using h) (by simpa using h')]
  | .s j :: zs, hn, k, l, i, h, h' => by
    simp only [lentJ, List.nodup_cons] at hn
    have mem : ∀ {zs : List Ar} {k : Nat}, zs[k]? = some (.s i) → i ∈ lentJ zs := by
      intro zs
      induction zs with
      | nil => intro k h; simp at h
      | cons z zs ih =>
        intro k h
        cases k with
        | zero => simp at h; subst h; simp
        | succ k =>
          have := ih (k := k) (by simpa using h)
          cases z <;> simp [this]
    cases k with
    | zero =>
      cases l with
      | zero => rfl
      | succ l =>
        simp at h; subst h
        exact absurd (mem (k := l) (by simpa using h')) hn.1
    | succ k =>
      cases l with
      | zero =>
        simp at h'; subst h'
        exact absurd (mem (k := k) (by simpa using h)) hn.1
      | succ l => rw [lentJ_nodup (zs := zs) hn.2 k l i (by simpa using h) (by simpa using h')]
theorem backJ_len : ∀ {zs : List Ar} {ws : List (Option A)} {ρ : Ev}, (backJ zs ws ρ).length = ρ.length
  | .s i :: zs, w :: ws, ρ => by simp only [backJ]; rw [backJ_len]; simp
  | .x d :: zs, w :: ws, ρ => by simp only [backJ]; rw [backJ_len]
  | [], _, ρ => by simp
  | .s i :: zs, [], ρ => by simp
  | .x d :: zs, [], ρ => by simp
theorem backJ_at : ∀ {zs : List Ar} {ws : List (Option A)} {ρ : Ev}, zs.length = ws.length → (lentJ zs).Nodup → ∀ (j : Nat) (a : A), (backJ zs ws ρ)[j]? = some (some a) → (∃ k : Nat, zs[k]? = some (.s j) ∧ ws[k]? = some (some a)) ∨ (ρ[j]? = some (some a) ∧ ∀ k : Nat, zs[k]? ≠ some (.s j))
  | [], [], ρ, _, _, j, a, h => .inr ⟨by simpa using h, fun k z => by simp at z⟩
  | .x d :: zs, w :: ws, ρ, hl, hn, j, a, h => by
    rcases backJ_at (zs := zs) (ws := ws) (ρ := ρ) (by simpa using hl) hn j a (by simpa using h) with ⟨k, h1, h2⟩ | ⟨h1, h2⟩
    · exact .inl ⟨k + 1, by simpa using h1, by simpa using h2⟩
    · refine .inr ⟨h1, fun k z => ?_⟩
      cases k with
      | zero => simp at z
      | succ k => exact h2 k (by simpa using z)
  | .s i :: zs, w :: ws, ρ, hl, hn, j, a, h => by
    simp only [lentJ, List.nodup_cons] at hn
    rcases backJ_at (zs := zs) (ws := ws) (ρ := ρ.set i w) (by simpa using hl) hn.2 j a (by simpa using h) with ⟨k, h1, h2⟩ | ⟨h1, h2⟩
    · exact .inl ⟨k + 1, by simpa using h1, by simpa using h2⟩
    · by_cases e : i = j
      · subst e
        have hlt : i < ρ.length := by
          have := (List.getElem?_eq_some_iff.mp h1).1
          simpa using this
        rw [List.getElem?_set_self hlt] at h1
        exact .inl ⟨0, rfl, by simpa using h1⟩
      · rw [List.getElem?_set_ne e] at h1
        refine .inr ⟨h1, fun k z => ?_⟩
        cases k with
        | zero => simp at z; exact e z
        | succ k => exact h2 k (by simpa using z)
/-- what the others hold -/
def Rest (H : Hp) (σ : L2.St) (ρ : Ev) (zs : List Ar) (b : Addr) : Prop := ∃ i v a, Sl σ ρ i v a ∧ Own H v a b ∧ ∀ k : Nat, zs[k]? ≠ some (.s i)
theorem callee_sk {vs : List V} {zs : List Ar} {as : List A} (S : Sk K G F fp H σ ρ) (r : IsAr K G F σ vs zs) (hn : (lentJ zs).Nodup) (e : pickJ ρ zs = some as) : Sk K G F (fun b => fp b ∧ ¬ Rest H σ ρ zs b) H (vs.map some) (as.map some) := by
  obtain ⟨h1, h2, h3⟩ := pickJ_at r e
  have key : ∀ (k : Nat) (v : V) (a : A) (b : Addr), Sl (vs.map some) (as.map some) k v a → Own H v a b → ∃ i, zs[k]? = some (.s i) ∧ Sl σ ρ i v a := fun k v a b s o => by
    have ha : as[k]? = some a := by have := s.2; simpa using this
    have hv : vs[k]? = some v := by have := s.1; simpa using this
    obtain ⟨v', g1, g2⟩ := h3 k a ha
    rw [hv] at g1; cases g1
    rcases g2 with ⟨d, _, rfl, _⟩ | ⟨i, g3, g4⟩
    · simp at o
    · exact ⟨i, g3, g4⟩
  refine ⟨S.sub, by simp [h1], fun k a h => ?_, fun k v a b s o => ?_, fun k l v w a c b hne s s' o o' => ?_⟩
  · have ha : as[k]? = some a := by simpa using h
    obtain ⟨v, g1, g2⟩ := h3 k a ha
    refine ⟨v, by simp [g1], ?_⟩
    rcases g2 with ⟨d, _, rfl, hd⟩ | ⟨i, _, g4⟩
    · exact hd
    · exact S.is g4
  · obtain ⟨i, g1, g2⟩ := key k v a b s o
    refine ⟨⟨(S.own i v a b g2 o).1, ?_⟩, (S.own i v a b g2 o).2⟩
    rintro ⟨j, w, c, s2, o2, hk⟩
    refine S.inj i j v w a c b (fun z => ?_) g2 s2 o o2
    subst z
    exact hk k g1
  · obtain ⟨i, g1, g2⟩ := key k v a b s o
    obtain ⟨j, g3, g4⟩ := key l w c b s' o'
    refine S.inj i j v w a c b (fun z => ?_) g2 g4 o o'
    subst z
    exact hne (lentJ_nodup hn k l i g1 g3)
/-- behind the call -/
theorem back_sk {vs : List V} {zs : List Ar} {as : List A} {ws : List (Option A)} (S : Sk K G F fp H σ ρ) (r : IsAr K G F σ vs zs) (hn : (lentJ zs).Nodup) (e : pickJ ρ zs = some as)
    (x : Ex F (fun b => fp b ∧ ¬ Rest H σ ρ zs b) H F' fp' H') (S' : Sk K G F' fp' H' (vs.map some) ws) :
    Ex F fp H F' (fun b => fp' b ∨ Rest H σ ρ zs b) H' ∧ Sk K G F' (fun b => fp' b ∨ Rest H σ ρ zs b) H' σ (backJ zs ws ρ) ∧
    ∀ v a, RU K G F' fp' H' (vs.map some) ws v (.v a) → RU K G F' (fun b => fp' b ∨ Rest H σ ρ zs b) H' σ (backJ zs ws ρ) v (.v a) := by
  obtain ⟨h1, h2, h3⟩ := pickJ_at r e
  have hw : zs.length = ws.length := by have := S'.len; simp at this; omega
  have hfp : ∀ b, Rest H σ ρ zs b → fp b := fun b ⟨i, v, a, s, o, _⟩ => (S.own i v a b s o).1
  have live : ∀ b, Rest H σ ρ zs b → H b ≠ none := fun b ⟨i, v, a, s, o, _⟩ => (S.is s).live o
  -- the two kinds of names
  have val : ∀ (k i : Nat), zs[k]? = some (.s i) → ∃ v, vs[k]? = some v ∧ σ[i]? = some (some v) := by
    have : ∀ {vs : List V} {zs : List Ar}, IsAr K G F σ vs zs → ∀ (k i : Nat), zs[k]? = some (.s i) → ∃ v, vs[k]? = some v ∧ σ[i]? = some (some v) := by
      intro vs zs r
      induction r with
      | nil => intro k i h; simp at h
      | x _ _ ih =>
        intro k i h
        cases k with
        | zero => simp at h
        | succ k => simpa using ih k i (by simpa using h)
      | s hs _ ih =>
        intro k i h
        cases k with
        | zero => simp at h; subst h; exact ⟨_, rfl, hs⟩
        | succ k => simpa using ih k i (by simpa using h)
    exact this r
  have two : ∀ (j : Nat) (v : V) (a : A), Sl σ (backJ zs ws ρ) j v a → (∃ k, zs[k]? = some (.s j) ∧ Sl (vs.map some) ws k v a) ∨ (Sl σ ρ j v a ∧ ∀ k : Nat, zs[k]? ≠ some (.s j)) := fun j v a s => by
    rcases backJ_at hw hn j a s.2 with ⟨k, g1, g2⟩ | ⟨g1, g2⟩
    · obtain ⟨v', g3, g4⟩ := val k j g1
      rw [s.1] at g4; cases g4
      exact .inl ⟨k, g1, by simp [g3], g2⟩
    · exact .inr ⟨⟨s.1, g1⟩, g2⟩
  have keepR : ∀ b, Rest H σ ρ zs b → ∀ o, H b = some o → H' b = some o := fun b hb o ho => x.keep b o ho (fun z => z.2 hb) (by
    obtain ⟨i, v, a, s, q, _⟩ := hb
    exact (S.is s).nt q ho)
  have FR : ∀ b, Rest H σ ρ zs b → F' b = none := fun b hb => by
    obtain ⟨i, v, a, s, o, _⟩ := id hb
    cases q : F' b with
    | none => rfl
    | some u =>
      rcases x.new b u q with z | z | z
      · rw [(S.own i v a b s o).2] at z; cases z
      · exact absurd z (live b hb)
      · exact absurd hb z.2
  have dj : ∀ b, Rest H σ ρ zs b → ¬ fp' b := fun b hb z => by
    rcases x.nfp b z with q | q
    · exact q.2 hb
    · exact live b hb q
  have conv : ∀ j v a b, Sl σ ρ j v a → (∀ k : Nat, zs[k]? ≠ some (.s j)) → (Own H' v a b ↔ Own H v a b) := fun j v a b s g => (S.is s).own_iff fun b o ho hb => keepR b ⟨j, v, a, s, ho, g⟩ o hb
  refine ⟨x.beside hfp, ⟨S'.sub, by rw [backJ_len]; exact S.len, fun j a hj => ?_, fun j v a b s o => ?_, fun j l v w a c b hne s s' o o' => ?_⟩, fun v a ra => ⟨ra.1, fun b o => ⟨.inl (ra.2 b o).1, (ra.2 b o).2.1, fun i w c s o' => ?_⟩⟩⟩
  · rcases backJ_at hw hn j a hj with ⟨k, g1, g2⟩ | ⟨g1, g2⟩
    · obtain ⟨v, g3, g4⟩ := val k j g1
      exact ⟨v, g4, S'.is ⟨by simp [g3], g2⟩⟩
    · obtain ⟨v, s, q⟩ := S.get g1
      exact ⟨v, s.1, q.frame x.fr fun b o ho hb => keepR b ⟨j, v, a, s, ho, g2⟩ o hb⟩
  · rcases two j v a s with ⟨k, g1, g2⟩ | ⟨g1, g2⟩
    · exact ⟨.inl (S'.own k v a b g2 o).1, (S'.own k v a b g2 o).2⟩
    · replace o := (conv j v a b g1 g2).1 o
      exact ⟨.inr ⟨j, v, a, g1, o, g2⟩, FR b ⟨j, v, a, g1, o, g2⟩⟩
  · rcases two j v a s with ⟨k, g1, g2⟩ | ⟨g1, g2⟩
    · rcases two l w c s' with ⟨m, g3, g4⟩ | ⟨g3, g4⟩
      · refine S'.inj k m v w a c b (fun z => ?_) g2 g4 o o'
        subst z
        rw [g1] at g3
        cases g3
        exact hne rfl
      · replace o' := (conv l w c b g3 g4).1 o'
        exact dj b ⟨l, w, c, g3, o', g4⟩ (S'.own k v a b g2 o).1
    · rcases two l w c s' with ⟨m, g3, g4⟩ | ⟨g3, g4⟩
      · replace o := (conv j v a b g1 g2).1 o
        exact dj b ⟨j, v, a, g1, o, g2⟩ (S'.own m w c b g4 o').1
      · exact S.inj j l v w a c b hne g1 g3 ((conv j v a b g1 g2).1 o) ((conv l w c b g3 g4).1 o')
  · rcases two i w c s with ⟨k, g1, g2⟩ | ⟨g1, g2⟩
    · exact (ra.2 b o).2.2 k w c g2 o'
    · exact dj b ⟨i, w, c, g1, (conv i w c b g1 g2).1 o', g2⟩ (ra.2 b o).1
end
section
variable {X : Cx} {G : Tab} {W : WX} {J : List Nat} {e : Expr} {es : List Expr} {pos p : Pos} {x : Str} {ga : SemA} {k ar : Nat} {f : Addr} {fd : FuncData} {ps : List Str} {sem : SemF}
/-- a def called with what stands there -/
theorem run_call {σ : L2.St} {F H : Hp} {fp : Addr → Prop} {ρ : Ev} {vs : List V} {us : List U} {Q : VK} {E : XK} (hE : ∀ cls dd H', E cls dd H' = W cls dd σ H') (har : ∀ as, as.length ≠ ar → sem as = .bad) (S : Sk X.K G F fp H σ ρ) (r : RUs X.K G F fp H σ ρ vs us) (h : Run X.K G W σ F fp H (RU X.K G) (callU J sem us ρ) Q) : spF X.K G ar sem vs H Q E := by
  simp only [callU] at h
  cases ea : argsJ J 0 us ρ with
  | bad => rw [ea] at h; exact h.elim
  | exc x ρ' => exact absurd ea argsJ_nox
  | ok zs ρ1 =>
    rw [ea] at h
    simp only [Out.bind_ok] at h
    split at h
    · rename_i hn
      split at h
      · rename_i as ep
        obtain ⟨F1, x1, S1, r1⟩ := argsJ_ok S r ea
        obtain ⟨h1, h2, h3⟩ := pickJ_at r1 ep
        have hl : as.length = ar := by
          by_cases q : as.length = ar
          · exact q
          · rw [har as q] at h; exact h.elim
        refine ⟨by omega, F1, _, as, callee_sk S1 r1 hn ep, ?_⟩
        cases q : sem as with
        | bad => rw [q] at h; exact h.elim
        | ok a ws =>
          rw [q] at h
          intro v H' F' fp' x2 S2 r2
          obtain ⟨y1, y2, y3⟩ := back_sk S1 r1 hn ep x2 S2
          exact h v H' F' _ (x1.trans y1) y2 (y3 v a r2)
        | exc y ws =>
          rw [q] at h
          intro cls dd H' F' fp' x2 S2 r2
          obtain ⟨y1, y2, y3⟩ := back_sk S1 r1 hn ep x2 S2
          rw [hE]
          exact h cls dd H' F' _ (x1.trans y1) y2 r2
      · exact h.elim
    · exact h.elim
theorem ee_call (Fk : FnG X.prog X.w X.K X.mg X.base (L2.CX X.prog X.w) k f fd ps (spF X.K G ar sem)) (har : ∀ as, as.length ≠ ar → sem as = .bad) (hr : RoomG k X.A) (hg : Gl X x) (hm : X.mg x = some (.ref f)) (hk : PySem.W.keepIn X.K (.ref f) = true) (hb : Binds X.K fd ps [])
    (tk : Takes X W) (ha : EA X G W (e :: es) ga) (hs : (e :: es).all starless = true) (hdb : (x == ("__debug__" : Str)) = false) : EE X G W (.Call (.Name x p) (e :: es) [] pos) (callS J sem ga) := by
  obtain ⟨t, pa, qa⟩ := ha.ex
  simp only [List.all_cons, Bool.and_eq_true] at hs
  refine ⟨_, pe_callG Fk hr hg hm hk hb (fun σ => passAt tk σ) pa hdb (starEach_c hs.1 _ _) (starless_any hs.2), fun σ H ρ F fp Q S h => ?_⟩
  exact qa σ H ρ F fp _ S (Run.bind h fun us ρ1 vs F1 fp1 H1 zq1 e1 S1 r1 h1 => run_call (fun _ _ _ => rfl) har S1 r1 h1)
theorem fnV_ar {ar nloc : Nat} {J : List Nat} {body : SemS} : ∀ as, as.length ≠ ar → fnV ar nloc J body as = .bad := fun as h => by
  unfold fnV
  rw [if_neg h]

/-! ### raise X() -/
theorem pmk_own0 {C : Addr} {bmB : List Value} {B newId initId : String} (F : ExcBaseFacts B newId initId bmB) (q : PySem.W.excIn X.K C bmB newId = true) (gC : X.mg x = some (.ref C)) (kC : PySem.W.keepIn X.K (.ref C) = true) (r : Raises X (.ref C)) (hg : Gl X x) (hdb : (x == ("__debug__" : Str)) = false) :
    PMk X (.Call (.Name x p) [] [] pos) (fun _ H Q => Q (.ref C) none H) := by
  intro pins s σ H Q I h
  refine wpAny_Call_Name_kw (ld_glob I hg gC ?_ hdb)
  refine PySem.W.callWith_K0 I.kIn kC ?_
  obtain ⟨bm, N, nm, qn, bs, hdct, sn, sub, ab, col, dd, k0, k1, k2, k3, k5, mN, hC, hN, hni, T⟩ := exc_obj I.kIn q
  exact wpAny_call_exc_subT F T hC hN hni (fun h' e hm => mk_of I hm r h (I.hok.gone hm.new)) (Nat.zero_le _)
@[simp] def raiseS (c : Nat) : SemS := fun ρ => .exc ⟨c, []⟩ ρ
theorem ss_raise {c : Nat} {C : Addr} {bmB : List Value} {B newId initId : String} {p2 : Pos} (hcl : G.cls c = C) (F : ExcBaseFacts B newId initId bmB) (q : PySem.W.excIn X.K C bmB newId = true) (gC : X.mg x = some (.ref C)) (kC : PySem.W.keepIn X.K (.ref C) = true) (r : Raises X (.ref C)) (hg : Gl X x) (hdb : (x == ("__debug__" : Str)) = false)
    (hc : X.calm = true) (tk : Takes X W) : SS X G W J (.Raise (some (.Call (.Name x p) [] [] pos)) none p2) (raiseS c) :=
  ⟨_, ps_raise hc tk (pmk_own0 F q gC kC r hg hdb), fun σ H ρ F fp D S h => h _ none σ H F fp (Ex.refl _ _ _) S (Jk.refl _ _) ⟨by rw [← hcl], fun _ => rfl, fun h => absurd rfl h⟩⟩
end
end Pv

namespace Pv
open PySem PySem.Spec PyProof.Rows L2

/-! ### data that python compares: as PyData -/
mutual
def py : D → PyData
  | .non => .none
  | .bl b => .bool b
  | .int i => .int i
  | .str x => .str x
  | .tup xs => .tuple (pys xs)
  | .lst xs => .list (pys xs)
  | .dct _ _ => .none | .fn _ => .none | .cls _ => .none | .ty _ => .none | .scr _ => .none | .exn _ => .none
def pys : List D → List PyData
  | [] => []
  | d :: ds => py d :: pys ds
end
mutual
def can : D → Bool
  | .non => true | .bl _ => true | .int _ => true
  | .str x => PyData.strOk x
  | .tup xs => cans xs
  | .lst xs => cans xs
  | .dct _ _ => false | .fn _ => false | .cls _ => false | .ty _ => false | .scr _ => false | .exn _ => false
def cans : List D → Bool
  | [] => true
  | d :: ds => can d && cans ds
end
mutual
def dep : D → Nat
  | .tup xs => deps xs + 1
  | .lst xs => deps xs + 1
  | .non => 0 | .bl _ => 0 | .int _ => 0 | .str _ => 0 | .dct _ _ => 0 | .fn _ => 0 | .cls _ => 0 | .ty _ => 0 | .scr _ => 0 | .exn _ => 0
def deps : List D → Nat
  | [] => 0
  | d :: ds => max (dep d) (deps ds)
end
theorem pys_map : ∀ ds : List D, pys ds = ds.map py
  | [] => rfl
  | d :: ds => by simp only [pys, List.map_cons, pys_map ds]
section
variable {K : PySem.W.Frag} {G : Tab} {F : Hp}
mutual
theorem dp_of : ∀ {v : V} {d : D}, IsD K G F v d → can d = true → Dp K F v (py d)
  | _, _, .non, e => .non
  | _, _, .bl b, e => .bl b
  | _, _, .int i, e => .int i
  | _, _, .str x, e => .str x
  | _, _, .tup h hs, e => .tup h (dps_of hs e)
  | _, _, .lst h hs, e => .lst (SqL.of h) (dps_of hs e)
  | _, _, .scr _, e => by simp [can] at e
  | _, _, .dct .., e => by simp [can] at e
  | _, _, .fn f, e => by simp [can] at e
  | _, _, .cls f, e => by simp [can] at e
  | _, _, .ty f, e => by simp [can] at e
  | _, _, .exn f, e => by simp [can] at e
theorem dps_of : ∀ {vs : List V} {ds : List D}, IsDs K G F vs ds → cans ds = true → DpAll K F vs (pys ds)
  | _, _, .nil, e => .nil
  | _, _, .cons h t, e => by
    simp only [cans, Bool.and_eq_true] at e
    exact .cons (dp_of h e.1) (dps_of t e.2)
end
end
mutual
theorem canLay_of : ∀ d : D, can d = true → (py d).canLay0 = true
  | .non, _ => by simp [py, PyData.canLay0]
  | .bl _, _ => by simp [py, PyData.canLay0]
  | .int _, _ => by simp [py, PyData.canLay0]
  | .str x, h => by simpa [py, PyData.canLay0, can] using h
  | .tup xs, h => by
    simp only [py, PyData.canLay0]
    exact canLays_of xs (by simpa [can] using h)
  | .lst xs, h => by
    simp only [py, PyData.canLay0]
    exact canLays_of xs (by simpa [can] using h)
  | .dct _ _, h => by simp [can] at h
  | .fn _, h => by simp [can] at h
  | .cls _, h => by simp [can] at h
  | .ty _, h => by simp [can] at h
  | .scr _, h => by simp [can] at h
  | .exn _, h => by simp [can] at h
theorem canLays_of : ∀ ds : List D, cans ds = true → PyData.canLayAll0 (pys ds) = true
  | [], _ => by simp [pys, PyData.canLayAll0]
  | d :: ds, h => by
    simp only [cans, Bool.and_eq_true] at h
    simp [pys, PyData.canLayAll0, canLay_of d h.1, canLays_of ds h.2]
end
mutual
theorem dep_of : ∀ d : D, (py d).depth = dep d
  | .non => by simp [py, PyData.depth, dep]
  | .bl _ => by simp [py, PyData.depth, dep]
  | .int _ => by simp [py, PyData.depth, dep]
  | .str x => by simp [py, PyData.depth, dep]
  | .tup xs => by simp [py, PyData.depth, dep, deps_of xs]
  | .lst xs => by simp [py, PyData.depth, dep, deps_of xs]
  | .dct _ _ => by simp [py, PyData.depth, dep]
  | .fn _ => by simp [py, PyData.depth, dep]
  | .cls _ => by simp [py, PyData.depth, dep]
  | .ty _ => by simp [py, PyData.depth, dep]
  | .scr _ => by simp [py, PyData.depth, dep]
  | .exn _ => by simp [py, PyData.depth, dep]
theorem deps_of : ∀ ds : List D, PyData.depthAll (pys ds) = deps ds
  | [] => by simp [pys, PyData.depthAll, deps]
  | d :: ds => by simp [pys, PyData.depthAll, deps, dep_of d, deps_of ds]
end
/-- == -/
def eqd (x y : D) : Bool := PyData.eqv (py x) (py y)
/-- < -/
def ltd (x y : D) : Bool := PySem.W.dataLt (py x) (py y)
def okEq (x y : D) : Bool := can x && can y && (decide (dep x ≤ 60) || decide (dep y ≤ 60))
def isNon : D → Bool
  | .non => true
  | _ => false
def okLt (x y : D) : Bool := okEq x y && PySem.W.alike (py x) (py y) && !isNon x
section
variable {X : Cx} {G : Tab} {K : PySem.W.Frag} {F H : Hp} {v : V} {x : D}
theorem Fl.dp (s : Same F H) (h : Fl K G F H v x) (c : can x = true) : Dp K H v (py x) := dp_of (h.isD s) c
/-- == of data, the depth of one of them told -/
def rEqM (K : PySem.W.Frag) (f : Bool → Bool) : R2 := fun x y H Q => ∃ d e, Dp K H x d ∧ Dp K H y e ∧ d.canLay0 = true ∧ e.canLay0 = true ∧ min d.depth e.depth ≤ 60 ∧ Q (.bl (f (PyData.eqv d e))) H
theorem op_eqM (hu : X.A.units + 64 < cLine) : OpR X (compareOp .Eq) (rEqM X.K id) := by
  intro pins s σ H x y v u Q I rx ry h
  obtain ⟨d, e, hd, he, sd, se, hm, q⟩ := h
  obtain ⟨as, r1⟩ := Dp.reads I d x v hd rx
  obtain ⟨bs, r2⟩ := Dp.reads I e y u he ry
  exact SeqAt.compareEq_reads r1 r2 sd se (by omega) ⟨.bl _, H, I, rfl, q⟩
theorem op_neM (hu : X.A.units + 64 < cLine) : OpR X (compareOp .NotEq) (rEqM X.K (!·)) := by
  intro pins s σ H x y v u Q I rx ry h
  obtain ⟨d, e, hd, he, sd, se, hm, q⟩ := h
  obtain ⟨as, r1⟩ := Dp.reads I d x v hd rx
  obtain ⟨bs, r2⟩ := Dp.reads I e y u he ry
  exact SeqAt.compareNe_reads r1 r2 sd se (by omega) ⟨.bl _, H, I, rfl, q⟩
def eqQ (f : Bool → Bool) (x y : D) : Option Bool := if okEq x y = true then some (f (eqd x y)) else none
theorem eq_ok {f : Bool → Bool} : CmpOk K G (rEqM K f) (eqQ f) := by
  intro F H v w x y k Q s rx ry hk q
  unfold eqQ at hk
  split at hk
  · rename_i hc
    simp only [okEq, Bool.and_eq_true, Bool.or_eq_true, decide_eq_true_eq] at hc
    cases hk
    exact ⟨py x, py y, rx.dp s hc.1.1, ry.dp s hc.1.2, canLay_of _ hc.1.1, canLay_of _ hc.1.2, by rw [dep_of, dep_of]; omega, q⟩
  · cases hk
/-- the order of data that are alike -/
def rLtM (K : PySem.W.Frag) (f : PyData → PyData → Bool) : R2 := fun x y H Q => ∃ d e, Dp K H x d ∧ Dp K H y e ∧ PySem.W.alike d e = true ∧ d ≠ .none ∧ min d.depth e.depth ≤ 60 ∧ Q (.bl (f d e)) H
theorem op_ltM (hu : X.A.units + 64 < cLine) : OpR X (compareOp .Lt) (rLtM X.K fun d e => PySem.W.dataLt d e) := by
  intro pins s σ H x y v u Q I rx ry h
  obtain ⟨d, e, hd, he, ha, hn, hm, q⟩ := h
  obtain ⟨as, r1⟩ := Dp.reads I d x v hd rx
  obtain ⟨bs, r2⟩ := Dp.reads I e y u he ry
  exact PySem.W.lt_data r1 r2 ha hn (by omega) ⟨.bl _, H, I, rfl, q⟩
theorem op_gtM (hu : X.A.units + 64 < cLine) : OpR X (compareOp .Gt) (rLtM X.K fun d e => PySem.W.dataLt e d) := by
  intro pins s σ H x y v u Q I rx ry h
  obtain ⟨d, e, hd, he, ha, hn, hm, q⟩ := h
  obtain ⟨as, r1⟩ := Dp.reads I d x v hd rx
  obtain ⟨bs, r2⟩ := Dp.reads I e y u he ry
  exact PySem.W.gt_data r1 r2 ha hn (by omega) ⟨.bl _, H, I, rfl, q⟩
theorem op_leM (hu : X.A.units + 64 < cLine) : OpR X (compareOp .LtE) (rLtM X.K fun d e => !PySem.W.dataLt e d) := by
  intro pins s σ H x y v u Q I rx ry h
  obtain ⟨d, e, hd, he, ha, hn, hm, q⟩ := h
  obtain ⟨as, r1⟩ := Dp.reads I d x v hd rx
  obtain ⟨bs, r2⟩ := Dp.reads I e y u he ry
  exact PySem.W.le_data r1 r2 ha hn (by omega) ⟨.bl _, H, I, rfl, q⟩
theorem op_geM (hu : X.A.units + 64 < cLine) : OpR X (compareOp .GtE) (rLtM X.K fun d e => !PySem.W.dataLt d e) := by
  intro pins s σ H x y v u Q I rx ry h
  obtain ⟨d, e, hd, he, ha, hn, hm, q⟩ := h
  obtain ⟨as, r1⟩ := Dp.reads I d x v hd rx
  obtain ⟨bs, r2⟩ := Dp.reads I e y u he ry
  exact PySem.W.ge_data r1 r2 ha hn (by omega) ⟨.bl _, H, I, rfl, q⟩
@[simp] def ltQ (p : Int → Int → Bool) (f : D → D → Bool) (x y : D) : Option Bool := match x, y with
  | .int i, .int j => some (p i j)
  | x, y => if okLt x y = true then some (f x y) else none
theorem lt_ok {p : Int → Int → Bool} {f : D → D → Bool} {g : PyData → PyData → Bool} (hp : ∀ i j, g (.int i) (.int j) = p i j) (hf : ∀ x y, g (py x) (py y) = f x y) : CmpOk K G (rLtM K g) (ltQ p f) := by
  intro F H v w x y k Q s rx ry hk q
  unfold ltQ at hk
  split at hk
  · rename_i i j
    cases hk
    exact ⟨.int i, .int j, rx.dp s rfl, ry.dp s rfl, rfl, (by simp), by simp [PyData.depth], by rw [hp]; exact q⟩
  · split at hk
    · rename_i hc
      simp only [okLt, okEq, Bool.and_eq_true, Bool.or_eq_true, decide_eq_true_eq, Bool.not_eq_true'] at hc
      cases hk
      refine ⟨py x, py y, rx.dp s hc.1.1.1.1, ry.dp s hc.1.1.1.2, hc.1.2, fun z => ?_, by rw [dep_of, dep_of]; omega, by rw [hf]; exact q⟩
      have h1 := hc.1.1.1.1
      have h2 := hc.2
      cases x <;> simp [py, can, isNon] at z h1 h2
    · cases hk
/-- is, of None and of truths -/
@[simp] def isQ (f : Bool → Bool) (x y : D) : Option Bool := match y with
  | .non => match x with
    | .ty _ => none
    | x => some (f (isNon x))
  | .bl b => match x with
    | .bl a => some (f (decide (a = b)))
    | _ => none
  | _ => none
theorem IsD.nn {K : PySem.W.Frag} {F : Hp} {v : V} {d : D} (h : IsD K G F v d) : decide (v = .non) = isNon d := by
  cases h <;> first | rfl | simp [isNon]
theorem isN_ok {f : Bool → Bool} : CmpOk K G (fun x y H Q => (y = .non ∧ Q (.bl (f (decide (x = .non)))) H) ∨ ∃ a b : Bool, x = .bl a ∧ y = .bl b ∧ Q (.bl (f (decide (a = b)))) H) (isQ f) := by
  intro F H v w x y k Q s rx ry hk q
  unfold isQ at hk
  split at hk
  · split at hk
    · cases hk
    · cases hk
      exact .inl ⟨ry.non, by rw [(rx.isD s).nn]; exact q⟩
  · split at hk
    · cases hk
      exact .inr ⟨_, _, rx.bl, ry.bl, q⟩
    · cases hk
  · cases hk
theorem op_isN' : OpR X (compareOp .Is) (fun x y H Q => (y = .non ∧ Q (.bl (id (decide (x = .non)))) H) ∨ ∃ a b : Bool, x = .bl a ∧ y = .bl b ∧ Q (.bl (id (decide (a = b)))) H) := op_isN.or op_isBl
theorem op_notN' : OpR X (compareOp .IsNot) (fun x y H Q => (y = .non ∧ Q (.bl (!(decide (x = .non)))) H) ∨ ∃ a b : Bool, x = .bl a ∧ y = .bl b ∧ Q (.bl (!(decide (a = b)))) H) := op_notN.or op_notBl
/-- in, of lists, tuples, of texts by signs -/
def inL (d : D) (ds : List D) : Bool := ds.any fun z => eqd z d
@[simp] def inQ (f : Bool → Bool) (x y : D) : Option Bool := match y with
  | .lst ds => if can x = true ∧ cans ds = true ∧ dep x ≤ 60 then some (f (inL x ds)) else none
  | .tup ds => if can x = true ∧ cans ds = true ∧ dep x ≤ 60 then some (f (inL x ds)) else none
  | _ => none
def rInM (K : PySem.W.Frag) (f : Bool → Bool) : R2 := fun x y H Q => ∃ d ds, Dp K H x d ∧ (Dp K H y (.list ds) ∨ Dp K H y (.tuple ds)) ∧ d.canLay0 = true ∧ PyData.canLayAll0 ds = true ∧ d.depth ≤ 60 ∧ Q (.bl (f (ds.any fun z => PyData.eqv z d))) H
theorem op_inM (hu : X.A.units + 64 < cLine) : OpR X (compareOp .In) (rInM X.K id) := by
  intro pins s σ H x y v u Q I rx ry h
  obtain ⟨d, ds, hd, he, sd, se, hm, q⟩ := h
  obtain ⟨as, r1⟩ := Dp.reads I d x v hd rx
  rcases he with he | he
  · obtain ⟨bs, r2⟩ := Dp.reads I (.list ds) y u he ry
    exact SeqAt.in_list_reads r2 r1 se sd (by omega) ⟨.bl _, H, I, rfl, q⟩
  · obtain ⟨bs, r2⟩ := Dp.reads I (.tuple ds) y u he ry
    exact SeqAt.in_tuple_reads r2 r1 se sd (by omega) ⟨.bl _, H, I, rfl, q⟩
theorem op_notInM (hu : X.A.units + 64 < cLine) : OpR X (compareOp .NotIn) (rInM X.K (!·)) := by
  intro pins s σ H x y v u Q I rx ry h
  obtain ⟨d, ds, hd, he, sd, se, hm, q⟩ := h
  obtain ⟨as, r1⟩ := Dp.reads I d x v hd rx
  rcases he with he | he
  · obtain ⟨bs, r2⟩ := Dp.reads I (.list ds) y u he ry
    exact SeqAt.notIn_list_reads r2 r1 se sd (by omega) ⟨.bl _, H, I, rfl, q⟩
  · obtain ⟨bs, r2⟩ := Dp.reads I (.tuple ds) y u he ry
    exact SeqAt.notIn_tuple_reads r2 r1 se sd (by omega) ⟨.bl _, H, I, rfl, q⟩
theorem any_py (d : D) : ∀ ds : List D, ((pys ds).any fun z => PyData.eqv z (py d)) = inL d ds
  | [] => rfl
  | e :: ds => by
    simp only [pys, List.any_cons, any_py d ds]
    simp [inL, eqd]
theorem in_ok {f : Bool → Bool} : CmpOk K G (rInM K f) (inQ f) := by
  intro F H v w x y k Q s rx ry hk q
  unfold inQ at hk
  split at hk
  · split at hk
    · rename_i ds hc
      cases hk
      exact ⟨py x, pys ds, rx.dp s hc.1, .inl (ry.dp s hc.2.1), canLay_of _ hc.1, canLays_of _ hc.2.1, by rw [dep_of]; exact hc.2.2, by rw [any_py]; exact q⟩
    · cases hk
  · split at hk
    · rename_i ds hc
      cases hk
      exact ⟨py x, pys ds, rx.dp s hc.1, .inr (ry.dp s hc.2.1), canLay_of _ hc.1, canLays_of _ hc.2.1, by rw [dep_of]; exact hc.2.2, by rw [any_py]; exact q⟩
    · cases hk
  · cases hk
/-- the comparisons of two -/
def cmpQ : CmpOp → D → D → Option Bool
  | .Eq => eqQ id
  | .NotEq => eqQ (!·)
  | .Lt => ltQ (fun i j => decide (i < j)) ltd
  | .LtE => ltQ (fun i j => decide (i ≤ j)) fun x y => !ltd y x
  | .Gt => ltQ (fun i j => decide (j < i)) fun x y => ltd y x
  | .GtE => ltQ (fun i j => decide (j ≤ i)) fun x y => !ltd x y
  | .Is => isQ id
  | .IsNot => isQ (!·)
  | .In => inQ id
  | .NotIn => inQ (!·)
theorem cmp_rule (hu : X.A.units + 64 < cLine) (op : CmpOp) : ∃ r, OpR X (compareOp op) r ∧ CmpOk X.K G r (cmpQ op) := by
  cases op with
  | Eq => exact ⟨_, op_eqM hu, eq_ok⟩
  | NotEq => exact ⟨_, op_neM hu, eq_ok⟩
  | Lt => exact ⟨_, op_ltM hu, lt_ok (fun i j => PySem.W.dataLt_int i j) fun x y => rfl⟩
  | LtE => exact ⟨_, op_leM hu, lt_ok (fun i j => by rw [PySem.W.dataLt_int]; by_cases h : j < i <;> simp [h] <;> omega) fun x y => rfl⟩
  | Gt => exact ⟨_, op_gtM hu, lt_ok (fun i j => PySem.W.dataLt_int j i) fun x y => rfl⟩
  | GtE => exact ⟨_, op_geM hu, lt_ok (fun i j => by rw [PySem.W.dataLt_int]; by_cases h : i < j <;> simp [h] <;> omega) fun x y => rfl⟩
  | Is => exact ⟨_, op_isN', isN_ok⟩
  | IsNot => exact ⟨_, op_notN', isN_ok⟩
  | In => exact ⟨_, op_inM hu, in_ok⟩
  | NotIn => exact ⟨_, op_notInM hu, in_ok⟩
end

/-! ### operators -/
theorem IsDs.rep {K : PySem.W.Frag} {G : Tab} {F : Hp} {vs : List V} {ds : List D} (h : IsDs K G F vs ds) : ∀ k : Nat, IsDs K G F (List.replicate k vs).flatten (List.replicate k ds).flatten
  | 0 => .nil
  | k + 1 => by
    rw [List.replicate_succ, List.replicate_succ, List.flatten_cons, List.flatten_cons]
    exact h.append (IsDs.rep h k)
@[simp] def addQ (x y : D) : Option A := match x, y with
  | .int i, .int j => some (.d (.int (i + j)))
  | .lst xs, .lst ys => if xs.length + ys.length ≤ 16777216 then some (.l (xs ++ ys)) else none
  | .tup xs, .tup ys => if xs.length + ys.length ≤ 16777216 then some (.d (.tup (xs ++ ys))) else none
  | .str x, .str y => if x.length + y.length ≤ 16777216 then some (.d (.str (x ++ y))) else none
  | _, _ => none
@[simp] def subQ (x y : D) : Option A := match x, y with
  | .int i, .int j => some (.d (.int (i - j)))
  | _, _ => none
def okM (i : Int) : Bool := decide (i.natAbs < 2 ^ 4096)
@[simp] def mulQ (x y : D) : Option A := match x, y with
  | .int i, .int j => if okM i = true ∧ okM j = true then some (.d (.int (i * j))) else none
  | .lst xs, .int k => if 0 ≤ k ∧ k < 1000000 ∧ xs.length * k.toNat ≤ 16777216 then some (.l (List.replicate k.toNat xs).flatten) else none
  | .tup xs, .int k => if 0 < xs.length ∧ 2 ≤ k ∧ k ≤ 1000 ∧ xs.length ≤ 1000 then some (.d (.tup (List.replicate k.toNat xs).flatten)) else none
  | _, _ => none
@[simp] def fdivQ (x y : D) : Option A := match x, y with
  | .int i, .int j => if 0 < j then (if okM j = true then some (.d (.int (i / j))) else none) else if j ≠ 0 ∧ j.natAbs < 1073741824 then some (.d (.int (i.fdiv j))) else none
  | _, _ => none
@[simp] def modQ (x y : D) : Option A := match x, y with
  | .int i, .int j => if 0 < j then some (.d (.int (i % j))) else none
  | _, _ => none
@[simp] def powQ (x y : D) : Option A := match x, y with
  | .int i, .int j => if 0 ≤ j ∧ j ≤ 1000 ∧ i.natAbs < 18446744073709551616 then some (.d (.int (i ^ j.toNat))) else none
  | _, _ => none
@[simp] def shlQ (x y : D) : Option A := match x, y with
  | .int i, .int j => if 0 ≤ j ∧ j ≤ 1000000 ∧ i.natAbs < 18446744073709551616 then some (.d (.int (i * 2 ^ j.toNat))) else none
  | _, _ => none
@[simp] def bandQ (x y : D) : Option A := match x, y with
  | .int i, .int j => some (.d (.int (Builtin.bitAnd i j)))
  | _, _ => none
@[simp] def binQ : Operator → D → D → Option A
  | .Add => addQ | .Sub => subQ | .Mult => mulQ | .FloorDiv => fdivQ | .Mod => modQ | .Pow => powQ | .LShift => shlQ | .BitAnd => bandQ
  | _ => fun _ _ => none
def okBin : Operator → Bool
  | .Add => true | .Sub => true | .Mult => true | .FloorDiv => true | .Mod => true | .Pow => true | .LShift => true | .BitAnd => true
  | _ => false
section
variable {X : Cx} {G : Tab} {K : PySem.W.Frag}
theorem add_ok : ∃ r, OpR X (binaryOp .Add) r ∧ OpOk X.K G r addQ := by
  refine ⟨_, op_add.or (op_cat.or (op_catA.or op_add_str)), fun F H v w x y a Q s rx ry e h => ?_⟩
  unfold addQ at e
  split at e
  · cases e
    obtain rfl := rx.int
    obtain rfl := ry.int
    exact .inl ⟨_, _, rfl, rfl, h _ _ _ (New.old s (.int _))⟩
  · split at e
    · rename_i hl
      cases e
      obtain ⟨p, vs, rfl, hp, hs⟩ := rx.lst s
      obtain ⟨q, ws, rfl, hq, ht⟩ := ry.lst s
      exact .inr (.inl ⟨p, q, vs, ws, rfl, rfl, hp, hq, by rw [hs.length, ht.length, ← lim_eq]; exact hl, fun n hn => h _ _ _ (New.lst s hn (hs.append ht))⟩)
    · cases e
  · split at e
    · rename_i hl
      cases e
      obtain ⟨p, vs, rfl, hp, hs⟩ := rx.tup
      obtain ⟨q, ws, rfl, hq, ht⟩ := ry.tup
      refine .inr (.inr (.inl ⟨p, q, vs, ws, rfl, rfl, s.seqT hp, s.seqT hq, by rw [hs.length, ht.length, ← lim_eq]; exact hl, fun hv => ?_, fun _ hw => ?_, fun _ _ n hn => ?_⟩))
      · rw [hs.nil_iff.mp hv] at h
        exact h _ _ _ (New.old s (IsD.tup hq ht))
      · rw [ht.nil_iff.mp hw, List.append_nil] at h
        exact h _ _ _ (New.old s (IsD.tup hp hs))
      · exact h _ _ _ (New.tup s hn (hs.append ht))
    · cases e
  · split at e
    · rename_i hl
      cases e
      obtain rfl := rx.str
      obtain rfl := ry.str
      exact .inr (.inr (.inr ⟨_, _, rfl, rfl, by rw [← lim_eq]; exact hl, h _ _ _ (New.old s (.str _))⟩))
    · cases e
  · cases e
theorem sub_ok : ∃ r, OpR X (binaryOp .Sub) r ∧ OpOk X.K G r subQ := by
  refine ⟨_, op_sub, fun F H v w x y a Q s rx ry e h => ?_⟩
  unfold subQ at e
  split at e
  · cases e
    obtain rfl := rx.int
    obtain rfl := ry.int
    exact ⟨_, _, rfl, rfl, h _ _ _ (New.old s (.int _))⟩
  · cases e
theorem mul_ok : ∃ r, OpR X (binaryOp .Mult) r ∧ OpOk X.K G r mulQ := by
  refine ⟨_, op_mulW.or (op_rep.or op_repT), fun F H v w x y a Q s rx ry e h => ?_⟩
  unfold mulQ at e
  split at e
  · split at e
    · rename_i hc
      cases e
      obtain rfl := rx.int
      obtain rfl := ry.int
      exact .inl ⟨_, _, rfl, rfl, wide_mul (of_decide_eq_true hc.1) (of_decide_eq_true hc.2) (by decide) (by decide) (by decide), h _ _ _ (New.old s (.int _))⟩
    · cases e
  · split at e
    · rename_i hl
      cases e
      obtain ⟨p, vs, rfl, hp, hs⟩ := rx.lst s
      obtain rfl := ry.int
      exact .inr (.inl ⟨p, _, vs, rfl, rfl, hp, by omega, by omega, by rw [hs.length, ← lim_eq]; exact hl.2.2, fun n hn => h _ _ _ (New.lst s hn (hs.rep _))⟩)
    · cases e
  · split at e
    · rename_i hl
      cases e
      obtain ⟨p, vs, rfl, hp, hs⟩ := rx.tup
      obtain rfl := ry.int
      exact .inr (.inr ⟨p, _, vs, rfl, rfl, s.seqT hp, fun z => by have := hs.length; rw [z] at this; simp at this; omega, by omega, by omega, by rw [hs.length]; omega, fun n hn => h _ _ _ (New.tup s hn (hs.rep _))⟩)
    · cases e
  · cases e
theorem fdiv_ok : ∃ r, OpR X (binaryOp .FloorDiv) r ∧ OpOk X.K G r fdivQ := by
  refine ⟨_, op_fdivW.or op_fdivN, fun F H v w x y a Q s rx ry e h => ?_⟩
  unfold fdivQ at e
  split at e
  · obtain rfl := rx.int
    obtain rfl := ry.int
    split at e
    · rename_i h0
      split at e
      · rename_i hc
        cases e
        exact .inl ⟨_, _, rfl, rfl, wide_div h0 (of_decide_eq_true hc) (by decide) (by decide), h _ _ _ (New.old s (.int _))⟩
      · cases e
    · split at e
      · rename_i hc
        cases e
        exact .inr ⟨_, _, rfl, rfl, hc, h _ _ _ (New.old s (.int _))⟩
      · cases e
  · cases e
theorem mod_ok : ∃ r, OpR X (binaryOp .Mod) r ∧ OpOk X.K G r modQ := by
  refine ⟨_, op_mod, fun F H v w x y a Q s rx ry e h => ?_⟩
  unfold modQ at e
  split at e
  · split at e
    · rename_i hc
      cases e
      obtain rfl := rx.int
      obtain rfl := ry.int
      exact ⟨_, _, rfl, rfl, hc, h _ _ _ (New.old s (.int _))⟩
    · cases e
  · cases e
theorem pow_ok : ∃ r, OpR X (binaryOp .Pow) r ∧ OpOk X.K G r powQ := by
  refine ⟨_, op_pow, fun F H v w x y a Q s rx ry e h => ?_⟩
  unfold powQ at e
  split at e
  · split at e
    · rename_i hc
      cases e
      obtain rfl := rx.int
      obtain rfl := ry.int
      exact ⟨_, _, rfl, rfl, ⟨hc.1, by omega, by omega⟩, h _ _ _ (New.old s (.int _))⟩
    · cases e
  · cases e
theorem shl_ok : ∃ r, OpR X (binaryOp .LShift) r ∧ OpOk X.K G r shlQ := by
  refine ⟨_, op_shl, fun F H v w x y a Q s rx ry e h => ?_⟩
  unfold shlQ at e
  split at e
  · split at e
    · rename_i hc
      cases e
      obtain rfl := rx.int
      obtain rfl := ry.int
      exact ⟨_, _, rfl, rfl, ⟨hc.1, by omega, by omega⟩, h _ _ _ (New.old s (.int _))⟩
    · cases e
  · cases e
theorem band_ok : ∃ r, OpR X (binaryOp .BitAnd) r ∧ OpOk X.K G r bandQ := by
  refine ⟨_, op_and, fun F H v w x y a Q s rx ry e h => ?_⟩
  unfold bandQ at e
  split at e
  · cases e
    obtain rfl := rx.int
    obtain rfl := ry.int
    exact ⟨_, _, rfl, rfl, h _ _ _ (New.old s (.int _))⟩
  · cases e
theorem bin_rule (op : Operator) (ok : okBin op = true) : ∃ r, OpR X (binaryOp op) r ∧ OpOk X.K G r (binQ op) := by
  cases op <;> first | cases ok; done | exact add_ok | exact sub_ok | exact mul_ok | exact fdiv_ok | exact mod_ok | exact pow_ok | exact shl_ok | exact band_ok
end
section
variable {X : Cx} {G : Tab} {W : WX} {a b c e : Expr} {es : List Expr} {fa fb fc : SemE} {pos : Pos}
theorem ee_bin (op : Operator) (ok : okBin op = true) (ha : EE X G W a fa) (hb : EE X G W b fb) : EE X G W (.BinOp a op b pos) (opS (binQ op) fa fb) := by
  obtain ⟨r, ho, hg⟩ := bin_rule (X := X) (G := G) op ok
  exact ee_op ho hg ha hb
/-- - e -/
@[simp] def negU (u : U) (ρ : Ev) : Out U := match u with
  | .v (.d (.int i)) => .ok (.v (.d (.int (-i)))) ρ
  | _ => .bad
@[simp] def negS (f : SemE) : SemE := fun ρ => (f ρ).bind negU
theorem ee_neg (ha : EE X G W a fa) : EE X G W (.UnaryOp .USub a pos) (negS fa) := by
  obtain ⟨ta, pa, qa⟩ := ha.ex
  refine ⟨_, pe_un un_neg pa, fun σ H ρ F fp Q S h => ?_⟩
  refine qa σ H ρ F fp _ S (h.bind fun u ρ1 v F1 fp1 H1 _ e1 S1 r1 h1 => ?_)
  unfold negU at h1
  split at h1
  · have r : IsD X.K G F1 v (.int _) := r1.1
    cases r
    exact ⟨_, rfl, h1.nowD S1 (.int _)⟩
  · exact h1.elim
end
end Pv

namespace Pv
open PySem PySem.Spec PyProof.Rows L2
section
variable {X : Cx} {G : Tab} {W : WX} {J : List Nat} {a b c e o : Expr} {es : List Expr} {fa fb fc fo : SemE} {pos p2 : Pos}

/-! ### a op b op' c -/
@[simp] def cmp3 (g g' : D → D → Option Bool) (fa fb fc : SemE) : SemT := fun ρ => (dE fa ρ).bind fun x ρ1 => (dE fb ρ1).bind fun y ρ2 => (outB (g x y) ρ2).bind fun k ρ3 =>
  if k = true then (dE fc ρ3).bind fun z ρ4 => outB (g' y z) ρ4 else .ok false ρ3
theorem chainM {op op' : CmpOp} {b c : Expr} (h : setless c = true) : lastMarks [op, op'] [b, c] = false := behind_c h op'
theorem bind_assoc {α β γ : Type} (x : Out α) (f : α → Ev → Out β) (g : β → Ev → Out γ) : (x.bind f).bind g = x.bind fun a ρ => (f a ρ).bind g := by
  cases x <;> rfl
theorem run_cmp3 {K : PySem.W.Frag} {g g' : D → D → Option Bool} {r r' : R2} (hg : CmpOk K G r g) (hg' : CmpOk K G r' g') {σ : L2.St} {H : Hp} {ρ : Ev} {F : Hp} {fp : Addr → Prop} {Q : VK} {ta tb tc : TE}
    (qa : ∀ σ H ρ F fp Q, Sk K G F fp H σ ρ → Run K G W σ F fp H (RU K G) (fa ρ) Q → ta σ H Q)
    (qb : ∀ σ H ρ F fp Q, Sk K G F fp H σ ρ → Run K G W σ F fp H (RU K G) (fb ρ) Q → tb σ H Q)
    (qc : ∀ σ H ρ F fp Q, Sk K G F fp H σ ρ → Run K G W σ F fp H (RU K G) (fc ρ) Q → tc σ H Q)
    (S : Sk K G F fp H σ ρ) {γ δ : Type} {rel : RelT δ γ} {k : Bool → Ev → Out γ} {Q' : δ → Hp → Prop} (h : Run K G W σ F fp H rel ((cmp3 g g' fa fb fc ρ).bind k) Q')
    (hk : ∀ b F' fp' H' ρ', Sk K G F' fp' H' σ ρ' → Run K G W σ F' fp' H' rel (k b ρ') Q' → Q (.bl b) H') : tChain r r' ta tb tc σ H Q := by
  simp only [cmp3] at h
  rw [bind_assoc] at h
  show ta σ H _
  refine run_dE qa S h fun x ρ1 v F1 fp1 H1 _ e1 S1 r1 h1 => ?_
  rw [bind_assoc] at h1
  refine run_dE qb S1 h1 fun y ρ2 w F2 fp2 H2 _ e2 S2 r2 h2 => ?_
  cases q : g x y with
  | none => rw [q] at h2; exact h2.elim
  | some q1 =>
    rw [q] at h2
    refine hg F2 H2 v w x y q1 _ S2.sub (.d (r1.mono e2.fr)) (.d r2) q ⟨q1, rfl, ?_⟩
    cases q1 with
    | false =>
      rw [if_neg Bool.false_ne_true]
      exact hk false _ _ _ _ S2 h2
    | true =>
      rw [if_pos rfl]
      simp only [outB, Out.bind_ok, if_true] at h2
      rw [bind_assoc] at h2
      refine run_dE qc S2 h2 fun z ρ3 u F3 fp3 H3 _ e3 S3 r3 h3 => ?_
      cases q' : g' y z with
      | none => rw [q'] at h3; exact h3.elim
      | some q2 =>
        rw [q'] at h3
        exact hg' F3 H3 w u y z q2 _ S3.sub (.d (r2.mono e3.fr)) (.d r3) q' (hk q2 _ _ _ _ S3 h3)
theorem ee_cmp3 {op op' : CmpOp} {r r' : R2} {g g' : D → D → Option Bool} (ho : OpR X (compareOp op) r) (ho' : OpR X (compareOp op') r') (hg : CmpOk X.K G r g) (hg' : CmpOk X.K G r' g') (ha : EE X G W a fa) (hb : EE X G W b fb) (hc : EE X G W c fc) (hs : setless c = true) :
    EE X G W (.Compare a [op, op'] [b, c] pos) (cmpV (cmp3 g g' fa fb fc)) := by
  obtain ⟨ta, pa, qa⟩ := ha.ex
  obtain ⟨tb, pb, qb⟩ := hb.ex
  obtain ⟨tc, pc, qc⟩ := hc.ex
  exact ⟨_, pe_chain ho ho' pa pb pc (chainM hs), fun σ H ρ F fp Q S h => run_cmp3 hg hg' qa qb qc S h fun b F' fp' H' ρ' S' h' => h'.nowD S' (IsD.bl b)⟩
theorem et_cmp3 {op op' : CmpOp} {r r' : R2} {g g' : D → D → Option Bool} (ho : OpR X (compareOp op) r) (ho' : OpR X (compareOp op') r') (hg : CmpOk X.K G r g) (hg' : CmpOk X.K G r' g') (ha : EE X G W a fa) (hb : EE X G W b fb) (hc : EE X G W c fc) (hs : setless c = true) :
    ET X G W (.Compare a [op, op'] [b, c] pos) (cmp3 g g' fa fb fc) := by
  obtain ⟨ta, pa, qa⟩ := ha.ex
  obtain ⟨tb, pb, qb⟩ := hb.ex
  obtain ⟨tc, pc, qc⟩ := hc.ex
  refine ⟨_, pt_chain ho ho' pa pb pc (chainM hs), fun σ H ρ F fp Q S h => ?_⟩
  have h' : Run X.K G W σ F fp H RB ((cmp3 g g' fa fb fc ρ).bind fun k ρ => .ok k ρ) Q := by
    cases e : cmp3 g g' fa fb fc ρ <;> rw [e] at h <;> exact h
  exact run_cmp3 hg hg' qa qb qc S h' fun b F' fp' H' ρ' S' h' => ⟨b, rfl, Run.now h' S' rfl⟩

/-! ### items -/
theorem IsDs.at {K : PySem.W.Frag} {F : Hp} {vs : List V} {ds : List D} {i : Int} {d : D} (h : IsDs K G F vs ds) (e : atI ds i = some d) : ∃ v, atI vs i = some v ∧ IsD K G F v d := by
  unfold atI at e ⊢
  rw [h.length]
  cases q : ixN ds.length i with
  | none => rw [q] at e; cases e
  | some j =>
    rw [q] at e
    exact h.get e
theorem at_map {α β : Type} (f : α → β) (xs : List α) (i : Int) : atI (xs.map f) i = (atI xs i).map f := by
  unfold atI
  rw [List.length_map]
  cases ixN xs.length i with
  | none => rfl
  | some j => simp
@[simp] def ixQ (x y : D) : Option A := match x, y with
  | .lst xs, .int i => (atI xs i).map .d
  | .tup xs, .int i => (atI xs i).map .d
  | .scr ns, .int i => (atI ns i).map fun n => .d (.int n)
  | .str x, .int i => if x.length ≤ 16777216 then (atI x.cps.toList i).map fun c => .d (.str ⟨#[c]⟩) else none
  | _, _ => none
theorem ee_ix (ha : EE X G W a fa) (hb : EE X G W b fb) (hs : sliceless b = true) : EE X G W (.Subscript a b pos) (opS ixQ fa fb) := by
  obtain ⟨ta, pa, qa⟩ := ha.ex
  obtain ⟨tb, pb, qb⟩ := hb.ex
  refine ⟨_, pe_ix ix_seq pa pb (sub_c hs), fun σ H ρ F fp Q S h => ?_⟩
  refine two_run qa qb S h fun u w ρ' v z F' fp' H' S' r1 r2 _ h' => ?_
  simp only [app2] at h'
  split at h'
  · rename_i x e1
    split at h'
    · rename_i y e2
      have rx := fl_of S' r1 e1
      have ry := fl_of S' r2 e2
      cases q : ixQ x y with
      | none => rw [q] at h'; exact h'.elim
      | some a0 =>
        rw [q] at h'
        unfold ixQ at q
        split at q
        · obtain ⟨d, q3, rfl⟩ := Option.map_eq_some_iff.mp q
          obtain ⟨p, vs, rfl, hp, hs⟩ := rx.lst S'.sub
          obtain rfl := ry.int
          obtain ⟨u, hu, ru⟩ := hs.at q3
          exact .inl ⟨p, vs, _, u, rfl, rfl, SqL.of hp, hu, h'.nowD S' ru⟩
        · obtain ⟨d, q3, rfl⟩ := Option.map_eq_some_iff.mp q
          obtain ⟨p, vs, rfl, hp, hs⟩ := rx.tup
          obtain rfl := ry.int
          obtain ⟨u, hu, ru⟩ := hs.at q3
          exact .inr (.inl ⟨p, vs, _, u, rfl, rfl, S'.sub.seqT hp, hu, h'.nowD S' ru⟩)
        · obtain ⟨d, q3, rfl⟩ := Option.map_eq_some_iff.mp q
          obtain ⟨p, rfl, hp⟩ := rx.scr
          obtain rfl := ry.int
          exact .inl ⟨p, _, _, .int d, rfl, rfl, S'.sub.seq hp, by rw [at_map, q3]; rfl, h'.nowD S' (IsD.int d)⟩
        · split at q
          · rename_i hl
            obtain ⟨d, q3, rfl⟩ := Option.map_eq_some_iff.mp q
            obtain rfl := rx.str
            obtain rfl := ry.int
            exact .inr (.inr ⟨_, _, d, rfl, rfl, by rw [← lim_eq]; exact hl, q3, h'.nowD S' (IsD.str _)⟩)
          · cases q
        · cases q
    · exact h'.elim
  · exact h'.elim

/-! ### slices -/
def cut {α : Type} (xs : List α) (lo hi : Option Int) : List α := (xs.drop (HT.sIx xs.length 0 lo)).take (HT.sIx xs.length xs.length hi - HT.sIx xs.length 0 lo)
theorem cut_V (vs : List V) (lo hi : Option Int) : cutV vs lo hi = cut vs lo hi := rfl
theorem IsDs.cut {K : PySem.W.Frag} {F : Hp} {vs : List V} {ds : List D} (h : IsDs K G F vs ds) (lo hi : Option Int) : IsDs K G F (cutV vs lo hi) (Pv.cut ds lo hi) := by
  rw [cut_V]
  unfold Pv.cut
  rw [h.length]
  exact (h.drop _).take _
theorem cut_map {α β : Type} (f : α → β) (xs : List α) (lo hi : Option Int) : cut (xs.map f) lo hi = (cut xs lo hi).map f := by
  unfold cut
  rw [List.length_map, List.map_take, List.map_drop]
@[simp] def sliceQ (x : D) (lo hi : Option Int) : Option A := match x with
  | .lst xs => some (.l (cut xs lo hi))
  | .tup xs => some (.d (.tup (cut xs lo hi)))
  | .scr ns => some (.l ((cut ns lo hi).map .int))
  | .str x => if x.length ≤ 16777216 then some (.d (.str (cutS x lo hi))) else none
  | _ => none
theorem cut_whole {α : Type} {xs : List α} {lo hi : Option Int} (h : HT.sIx xs.length 0 lo = 0 ∧ HT.sIx xs.length xs.length hi = xs.length) : cut xs lo hi = xs := by
  unfold cut
  rw [h.1, h.2]
  simp
theorem ints_data {K : PySem.W.Frag} {F : Hp} : ∀ ns : List Int, IsDs K G F (ns.map V.int) (ns.map D.int)
  | [] => .nil
  | n :: ns => .cons (.int n) (ints_data ns)
@[simp] def sliceU (u : U) (lo hi : Option Int) (ρ : Ev) : Out U := match viewU ρ u with
  | some x => outA (sliceQ x lo hi) ρ
  | none => .bad
theorem slice_rule : ∃ r, SlR X r ∧ ∀ F H v x lo hi a (Q : VK), Same F H → Fl X.K G F H v x → sliceQ x lo hi = some a → (∀ F' H' v, New X.K G F H F' H' v a → Q v H') → r v lo hi H Q := by
  refine ⟨_, sl_list.or (sl_tupA.or sl_str), fun F H v x lo hi a Q s rx e h => ?_⟩
  unfold sliceQ at e
  split at e
  · cases e
    obtain ⟨p, vs, rfl, hp, hs⟩ := rx.lst s
    exact .inl ⟨p, vs, rfl, SqL.of hp, fun n hn => h _ _ _ (New.lst s hn (hs.cut lo hi))⟩
  · cases e
    obtain ⟨p, vs, rfl, hp, hs⟩ := rx.tup
    refine .inr (.inl ⟨p, vs, rfl, s.seqT hp, fun hw => ?_, fun _ n hn => h _ _ _ (New.tup s hn (hs.cut lo hi))⟩)
    have e2 : cut _ lo hi = _ := cut_whole (by rw [← hs.length]; exact hw)
    rw [e2] at h
    exact h _ _ _ (New.old s (IsD.tup hp hs))
  · cases e
    obtain ⟨p, rfl, hp⟩ := rx.scr
    refine .inl ⟨p, _, rfl, s.seq hp, fun n hn => h _ _ _ (New.lst s hn ?_)⟩
    rw [cut_V, cut_map]
    exact ints_data _
  · split at e
    · rename_i hl
      cases e
      obtain rfl := rx.str
      exact .inr (.inr ⟨_, rfl, by rw [← lim_eq]; exact hl, h _ _ _ (New.old s (.str _))⟩)
    · cases e
  · cases e
@[simp] def partS (f : Option SemE) (ρ : Ev) : Out (Option Int) := match f with
  | none => .ok none ρ
  | some f => (f ρ).bind fun u ρ1 => match u with
    | .v (.d (.int i)) => .ok (some i) ρ1
    | _ => .bad
def ROp : RelT (Option Int) (Option Int) := fun _ _ _ _ _ b a => b = a
inductive EO (X : Cx) (G : Tab) (W : WX) : Option Expr → Option SemE → Prop
  | none : EO X G W none none
  | some {e : Expr} {f : SemE} (h : EE X G W e f) : EO X G W (some e) (some f)
theorem EO.ex {oe : Option Expr} {f : Option SemE} (h : EO X G W oe f) : ∃ t : TO, PO X oe t ∧ ∀ σ H ρ F fp (Q : Option Int → Hp → Prop), Sk X.K G F fp H σ ρ → Run X.K G W σ F fp H ROp (partS f ρ) Q → t σ H Q := by
  cases h with
  | none => exact ⟨_, po_none, fun σ H ρ F fp Q S h => Run.now h S rfl⟩
  | some h =>
    obtain ⟨t, p, q⟩ := h.ex
    refine ⟨_, po_some p, fun σ H ρ F fp Q S h => ?_⟩
    refine q σ H ρ F fp _ S (Run.bind h fun u ρ1 v F1 fp1 H1 zz e1 S1 r1 h1 => ?_)
    split at h1
    · rename_i i
      have r : IsD X.K G F1 v (.int i) := r1.1
      cases r
      exact ⟨i, rfl, Run.now h1 S1 rfl⟩
    · exact h1.elim
@[simp] def slS (f : SemE) (l h : Option SemE) : SemE := fun ρ => (f ρ).bind fun u ρ1 => (partS l ρ1).bind fun l ρ2 => (partS h ρ2).bind fun h ρ3 => sliceU u l h ρ3
theorem ee_slice {lo hi : Option Expr} {fl fh : Option SemE} (ha : EE X G W a fa) (hl : EO X G W lo fl) (hh : EO X G W hi fh) : EE X G W (.Subscript a (.Slice lo hi none p2) pos) (slS fa fl fh) := by
  obtain ⟨ta, pa, qa⟩ := ha.ex
  obtain ⟨tl, pl, ql⟩ := hl.ex
  obtain ⟨th, ph, qh⟩ := hh.ex
  obtain ⟨r, hr, hq⟩ := slice_rule (X := X) (G := G)
  refine ⟨_, pe_slice hr pa pl ph, fun σ H ρ F fp Q S h => ?_⟩
  refine qa σ H ρ F fp _ S (h.bind fun u ρ1 v F1 fp1 H1 _ e1 S1 r1 h1 => ?_)
  refine ql σ H1 ρ1 F1 _ _ (S1.but r1) (Run.bindT (T := OwnU H1 v u) (fun b z => RU.own_fp r1 z) h1 fun l ρ2 l' F2 fp2 H2 _ e2 S2 r2 h2 => ?_)
  have r1' := r1.keep e2 S2
  have S2' := S2.more (gp := fun b => fp2 b ∨ OwnU H1 v u b) fun _ z => .inl z
  refine qh σ H2 ρ2 F2 _ _ (S2'.but r1') (Run.bindT (T := OwnU H2 v u) (fun b z => RU.own_fp r1' z) h2 fun k ρ3 k' F3 fp3 H3 _ e3 S3 r3 h3 => ?_)
  have r1'' := r1'.keep e3 S3
  cases r2
  cases r3
  simp only [sliceU] at h3
  split at h3
  · rename_i x ex
    cases q : sliceQ x l k with
    | none => rw [q] at h3; exact h3.elim
    | some a =>
      rw [q] at h3
      have S3' := S3.more (gp := fun b => fp3 b ∨ OwnU H2 v u b) fun _ z => .inl z
      exact hq F3 H3 v x l k a Q S3.sub (fl_of S3' r1'' ex) q fun F' H' v n => h3.new S3' n
  · exact h3.elim

/-! ### built-in functions, by values -/
theorem Fls.one {K : PySem.W.Frag} {F H : Hp} {vs : List V} {x : D} (h : Fls K G F H vs [x]) : ∃ v, vs = [v] ∧ Fl K G F H v x := by
  cases h with
  | cons h t => cases t; exact ⟨_, rfl, h⟩
theorem Fls.two {K : PySem.W.Frag} {F H : Hp} {vs : List V} {x y : D} (h : Fls K G F H vs [x, y]) : ∃ v w, vs = [v, w] ∧ Fl K G F H v x ∧ Fl K G F H w y := by
  cases h with
  | cons h t => obtain ⟨w, rfl, h2⟩ := t.one; exact ⟨_, _, rfl, h, h2⟩
@[simp] def lenQ : List D → Option A
  | [.lst xs] => some (.d (.int xs.length))
  | [.tup xs] => some (.d (.int xs.length))
  | [.scr ns] => some (.d (.int ns.length))
  | [.str x] => if x.length ≤ 16777216 then some (.d (.int x.length)) else none
  | [.dct ks _] => some (.d (.int ks.length))
  | _ => none
def rLenM (K : PySem.W.Frag) : List V → Hp → VK → Prop := fun xs H Q => (∃ x n, xs = [x] ∧ LenV K x H n ∧ Q (.int n) H) ∨ ∃ a kvs, xs = [.ref a] ∧ Rd H a (.dK kvs) ∧ Q (.int kvs.length) H
theorem call_lenM : CallR X (.builtin "len") (rLenM X.K) := by
  intro pins s σ H xs us Q I r h
  rcases h with h | ⟨a, kvs, rfl, h, q⟩
  · exact call_len pins s σ H xs us Q I r h
  · obtain rfl := Vals.ref1 r
    exact d_len I h fun t s' I' => ⟨.int kvs.length, H, I', ⟨t, rfl⟩, q⟩
theorem len_ok {K : PySem.W.Frag} : RulOk K G (rLenM K) lenQ := by
  intro F H vs xs a Q s r e h
  unfold lenQ at e
  split at e
  · cases e
    obtain ⟨v, rfl, r'⟩ := r.one
    obtain ⟨p, ws, rfl, hp, hs⟩ := r'.lst s
    exact .inl ⟨_, _, rfl, .inl ⟨ws, SqL.of hp, hs.length.symm⟩, h _ _ _ (New.old s (IsD.int _))⟩
  · cases e
    obtain ⟨v, rfl, r'⟩ := r.one
    obtain ⟨p, ws, rfl, hp, hs⟩ := r'.tup
    exact .inl ⟨_, _, rfl, .inr ⟨ws, s.seqT hp, hs.length.symm⟩, h _ _ _ (New.old s (IsD.int _))⟩
  · cases e
    obtain ⟨v, rfl, r'⟩ := r.one
    obtain ⟨p, rfl, hp⟩ := r'.scr
    exact .inl ⟨_, _, rfl, .inl ⟨_, s.seq hp, by rw [List.length_map]⟩, h _ _ _ (New.old s (IsD.int _))⟩
  · obtain ⟨v, rfl, r'⟩ := r.one
    obtain rfl := r'.str
    split at e
    · rename_i hl
      cases e
      exact .inl ⟨_, _, rfl, ⟨by rw [← lim_eq]; exact hl, rfl⟩, h _ _ _ (New.old s (IsD.int _))⟩
    · cases e
  · cases e
    obtain ⟨v, rfl, r'⟩ := r.one
    obtain ⟨p, kvs, rfl, hp, hk, hs⟩ := r'.dct s
    refine .inr ⟨p, kvs, rfl, hp, ?_⟩
    have e3 := congrArg List.length hk
    rw [List.length_map] at e3
    rw [e3]
    exact h _ _ _ (New.old s (IsD.int _))
  · cases e
/-- isinstance(x, T) -/
@[simp] def tyOf : D → Option String
  | .non => some "NoneType" | .bl _ => some "bool" | .int _ => some "int" | .str _ => some "str" | .tup _ => some "tuple" | .lst _ => some "list" | .scr _ => some "list" | .dct _ _ => some "dict"
  | _ => none
def okTy (n : String) : Bool := n == "int" || n == "bool" || n == "tuple" || n == "list" || n == "str" || n == "dict"
def isiB (t n : String) : Bool := t == n || (t == "bool" && n == "int")
@[simp] def bA (k : Bool) : Option A := some (.d (.bl k))
/-- sub c c': the c-th class stands under the c'-th -/
@[simp] def isiQ (sub : Nat → Nat → Bool) : List D → Option A
  | [.exn c, .cls c'] => bA (sub c c')
  | [.exn c, .ty n] => if n = "ValueError" then bA true else none
  | [x, .ty n] => match tyOf x with
    | some t => if okTy n = true then bA (isiB t n) else none
    | none => none
  | _ => none
theorem kit_tab {K : PySem.W.Frag} {d : D} {t n : String} (ht : tyOf d = some t) (hn : okTy n = true) : PySem.W.kitOne K (.type t) (.type n) = some (isiB t n) := by
  have hn' : n = "int" ∨ n = "bool" ∨ n = "tuple" ∨ n = "list" ∨ n = "str" ∨ n = "dict" := by
    simpa [okTy, or_assoc] using hn
  have go : ∀ t, (t = "NoneType" ∨ t = "bool" ∨ t = "int" ∨ t = "str" ∨ t = "tuple" ∨ t = "list" ∨ t = "dict") → kitB t n = some (isiB t n) := by
    intro t ht
    rcases ht with rfl | rfl | rfl | rfl | rfl | rfl | rfl <;> rcases hn' with rfl | rfl | rfl | rfl | rfl | rfl <;> decide +kernel
  refine kit_ty (go t ?_)
  cases d <;> simp [tyOf] at ht <;> subst ht <;> simp
theorem tyX_of {K : PySem.W.Frag} {H : Hp} {v : V} {d : D} {t : String} (h : IsD K G H v d) (ht : tyOf d = some t) : TyX K H v (.type t) := by
  cases h with
  | non => cases ht; exact .base .non
  | bl b => cases ht; exact .base (.bl b)
  | int b => cases ht; exact .base (.int b)
  | str b => cases ht; exact .base (.str b)
  | tup h hs =>
    cases ht
    rcases h with (h | ⟨o, h⟩) | ⟨o, its, n, h1, h2, _⟩
    · exact .base (.tup h)
    · exact .fTuple h
    · exact .kTuple h1 h2
  | lst h hs => cases ht; exact .base (.lst h)
  | scr h =>
    cases ht
    rcases h with (h | ⟨o, h⟩) | ⟨o, its, n, h1, h2, _⟩
    · exact .base (.lst h)
    · exact .base (.frz h)
    · exact .kList h1 h2
  | dct h _ _ =>
    cases ht
    rcases h with h | ⟨o, h⟩
    · exact .base (.dK h)
    · exact .fDict h
  | fn f => cases ht
  | cls f => cases ht
  | ty f => cases ht
  | exn f => cases ht
/-- what is told of the exceptions that are handled: they are pinned -/
structure ExnOk (X : Cx) (G : Tab) (sub : Nat → Nat → Bool) : Prop where
  pin : ∀ a c, G.exn a = some c → ∃ oe, (a, oe) ∈ X.pn ∧ Zc (.ref (G.cls c)) none oe ∧ (∃ vs, oe.data = .fields vs) ∧ ExcC X.K (G.cls c) ∧ PySem.W.kitOne X.K (.ref (G.cls c)) (.type "ValueError") = some true ∧ ∀ c', PySem.W.kitOne X.K (.ref (G.cls c)) (.ref (G.cls c')) = some (sub c c')
def rIsM (X : Cx) (G : Tab) : List V → Hp → VK → Prop := fun xs H Q => rIsi X.K xs H Q ∨ ∃ (a : Addr) (oe : Obj) (D : Addr) (c : V) (cv : Value) (b : Bool), xs = [.ref a, c] ∧ (a, oe) ∈ X.pn ∧ Zc (.ref D) none oe ∧ (∃ vs, oe.data = .fields vs) ∧ ExcC X.K D ∧ (∀ u, RelV c u → u = cv) ∧ PySem.W.kitOne X.K (.ref D) cv = some b ∧ Q (.bl b) H
theorem call_isM : CallR X (.builtin "isinstance") (rIsM X G) := by
  intro pins s σ H xs us Q I r h
  rcases h with h | ⟨a, oe, D, c, cv, b, rfl, hpn, hz, hf, C, hcv, e, q⟩
  · exact call_isi pins s σ H xs us Q I r h
  · obtain ⟨u1, u2, rfl, r1, r2⟩ := vals2 r
    cases (show u1 = Value.ref a from r1)
    have ec := hcv _ r2
    subst ec
    obtain ⟨hget, _⟩ := I.pin (a, oe) (List.mem_append_left _ hpn)
    obtain ⟨vs, hv⟩ := hf
    have J : PySem.W.InstAt s.heap a oe D none := by
      obtain ⟨oc, od, oda, osl⟩ := oe
      obtain ⟨h1, h2⟩ := hz
      dsimp only at h1 h2 hv
      subst h1 h2 hv
      exact ⟨hget, rfl, rfl, trivial⟩
    exact PySem.W.kia_one (PySem.W.handS_kitx_exc C.hg C.hk C.hs C.hd C.ha C.hn C.ht C.hm) I.kIn J e (fun z => nomatch z) fun tk => ⟨.bl b, H, I.kept (t' := tk) fun _ _ z => z, rfl, q⟩
theorem isi_ok {sub : Nat → Nat → Bool} (hx : ExnOk X G sub) : RulOk X.K G (rIsM X G) (isiQ sub) := by
  intro F H vs xs a Q s r e h
  unfold isiQ at e
  split at e
  · rename_i c c'
    cases e
    obtain ⟨v, w, rfl, r1, r2⟩ := r.two
    cases r1 with
    | d r1 =>
      cases r1 with
      | exn hc =>
        obtain ⟨oe, p1, p2, p3, p4, p5, p6⟩ := hx.pin _ _ hc
        cases r2 with
        | d r2 =>
          cases r2
          exact .inr ⟨_, oe, _, _, .ref (G.cls c'), _, rfl, p1, p2, p3, p4, fun u q => q, p6 c', h _ _ _ (New.old s (IsD.bl _))⟩
  · rename_i c n
    split at e
    · rename_i hn
      subst hn
      cases e
      obtain ⟨v, w, rfl, r1, r2⟩ := r.two
      cases r1 with
      | d r1 =>
        cases r1 with
        | exn hc =>
          obtain ⟨oe, p1, p2, p3, p4, p5, p6⟩ := hx.pin _ _ hc
          cases r2 with
          | d r2 =>
            cases r2
            exact .inr ⟨_, oe, _, _, .type "ValueError", true, rfl, p1, p2, p3, p4, fun u q => q, p5, h _ _ _ (New.old s (IsD.bl _))⟩
    · cases e
  · split at e
    · rename_i t q1
      split at e
      · rename_i hn
        cases e
        obtain ⟨v, w, rfl, r1, r2⟩ := r.two
        cases r2 with
        | d r2 =>
          cases r2
          exact .inl ⟨v, _, .type t, .type _, isiB t _, rfl, .ty _, tyX_of (r1.isD s) q1, kit_tab q1 hn, h _ _ _ (New.old s (IsD.bl _))⟩
      · cases e
    · cases e
  · cases e
/-- int(x) -/
@[simp] def intQ : List D → Option A
  | [.int i] => some (.d (.int i))
  | [.bl k] => some (.d (.int (if k then 1 else 0)))
  | _ => none
theorem int_ok {K : PySem.W.Frag} : RulOk K G (fun xs H Q => (∃ i, xs = [.int i] ∧ Q (.int i) H) ∨ ∃ k, xs = [.bl k] ∧ Q (.int (if k then 1 else 0)) H) intQ := by
  intro F H vs xs a Q s r e h
  unfold intQ at e
  split at e
  · cases e; obtain ⟨v, rfl, r'⟩ := r.one; obtain rfl := r'.int; exact .inl ⟨_, rfl, h _ _ _ (New.old s (IsD.int _))⟩
  · cases e; obtain ⟨v, rfl, r'⟩ := r.one; obtain rfl := r'.bl; exact .inr ⟨_, rfl, h _ _ _ (New.old s (IsD.int _))⟩
  · cases e
/-- abs, min, max of whole numbers -/
@[simp] def absQ : List D → Option A
  | [.int i] => some (.d (.int (if i < 0 then -i else i)))
  | _ => none
theorem abs_ok {K : PySem.W.Frag} : RulOk K G (fun xs H Q => ∃ i, xs = [.int i] ∧ Q (.int (if i < 0 then -i else i)) H) absQ := by
  intro F H vs xs a Q s r e h
  unfold absQ at e
  split at e
  · cases e; obtain ⟨v, rfl, r'⟩ := r.one; obtain rfl := r'.int; exact ⟨_, rfl, h _ _ _ (New.old s (IsD.int _))⟩
  · cases e
@[simp] def max2Q : List D → Option A
  | [.int i, .int j] => some (.d (.int (if j > i then j else i)))
  | _ => none
theorem max2_ok {K : PySem.W.Frag} : RulOk K G (fun xs H Q => ∃ i j, xs = [.int i, .int j] ∧ Q (.int (if j > i then j else i)) H) max2Q := by
  intro F H vs xs a Q s r e h
  unfold max2Q at e
  split at e
  · cases e; obtain ⟨v, w, rfl, r1, r2⟩ := r.two; obtain rfl := r1.int; obtain rfl := r2.int; exact ⟨_, _, rfl, h _ _ _ (New.old s (IsD.int _))⟩
  · cases e
@[simp] def min2Q : List D → Option A
  | [.int i, .int j] => some (.d (.int (if j < i then j else i)))
  | _ => none
theorem min2_ok {K : PySem.W.Frag} : RulOk K G (fun xs H Q => ∃ i j, xs = [.int i, .int j] ∧ Q (.int (if j < i then j else i)) H) min2Q := by
  intro F H vs xs a Q s r e h
  unfold min2Q at e
  split at e
  · cases e; obtain ⟨v, w, rfl, r1, r2⟩ := r.two; obtain rfl := r1.int; obtain rfl := r2.int; exact ⟨_, _, rfl, h _ _ _ (New.old s (IsD.int _))⟩
  · cases e
/-- tuple(x), list(x) -/
@[simp] def tupleQ : List D → Option A
  | [.lst xs] => some (.d (.tup xs))
  | [.tup xs] => some (.d (.tup xs))
  | _ => none
theorem tuple_ok {K : PySem.W.Frag} : RulOk K G (fun xs H Q => ∃ p ys, xs = [.ref p] ∧ ((SqL K H p ys ∧ ∀ l, H l = none → Q (.ref l) (upd H l (.tup ys))) ∨ (SqT K H p ys ∧ Q (.ref p) H))) tupleQ := by
  intro F H vs xs a Q s r e h
  unfold tupleQ at e
  split at e
  · cases e; obtain ⟨v, rfl, r'⟩ := r.one
    obtain ⟨p, vs, rfl, hp, hs⟩ := r'.lst s
    exact ⟨p, vs, rfl, .inl ⟨SqL.of hp, fun n hn => h _ _ _ (New.tup s hn hs)⟩⟩
  · cases e; obtain ⟨v, rfl, r'⟩ := r.one
    obtain ⟨p, vs, rfl, hp, hs⟩ := r'.tup
    exact ⟨p, vs, rfl, .inr ⟨s.seqT hp, h _ _ _ (New.old s (IsD.tup hp hs))⟩⟩
  · cases e
@[simp] def listQ : List D → Option A
  | [.lst xs] => some (.l xs)
  | [.tup xs] => some (.l xs)
  | [.scr ns] => some (.l (ns.map .int))
  | _ => none
theorem list_ok {K : PySem.W.Frag} : RulOk K G (fun xs H Q => ∃ p ys, xs = [.ref p] ∧ (SqL K H p ys ∨ SqT K H p ys) ∧ ∀ l, H l = none → Q (.ref l) (upd H l (.lst ys))) listQ := by
  intro F H vs xs a Q s r e h
  unfold listQ at e
  split at e
  · cases e; obtain ⟨v, rfl, r'⟩ := r.one
    obtain ⟨p, vs, rfl, hp, hs⟩ := r'.lst s
    exact ⟨p, vs, rfl, .inl (SqL.of hp), fun n hn => h _ _ _ (New.lst s hn hs)⟩
  · cases e; obtain ⟨v, rfl, r'⟩ := r.one
    obtain ⟨p, vs, rfl, hp, hs⟩ := r'.tup
    exact ⟨p, vs, rfl, .inr (s.seqT hp), fun n hn => h _ _ _ (New.lst s hn hs)⟩
  · cases e; obtain ⟨v, rfl, r'⟩ := r.one
    obtain ⟨p, rfl, hp⟩ := r'.scr
    exact ⟨p, _, rfl, .inl (s.seq hp), fun n hn => h _ _ _ (New.lst s hn (ints_data _))⟩
  · cases e
/-- whole numbers, truths -/
def intsD : List D → Option (List Int)
  | [] => some []
  | .int i :: ds => (intsD ds).map (i :: ·)
  | _ :: _ => none
def blsD : List D → Option (List Bool)
  | [] => some []
  | .bl i :: ds => (blsD ds).map (i :: ·)
  | _ :: _ => none
@[simp] theorem intsD_map (ns : List Int) : intsD (ns.map D.int) = some ns := by
  induction ns with
  | nil => rfl
  | cons n ns ih => simp [intsD, ih]
@[simp] theorem blsD_map (ns : List Bool) : blsD (ns.map D.bl) = some ns := by
  induction ns with
  | nil => rfl
  | cons n ns ih => simp [blsD, ih]
theorem intsD_of {K : PySem.W.Frag} {F : Hp} : ∀ {vs : List V} {ds : List D} {ns : List Int}, IsDs K G F vs ds → intsD ds = some ns → vs = ns.map V.int
  | _, _, _, .nil, e => by cases e; rfl
  | v :: vs, d :: ds, ns, .cons h t, e => by
    cases d <;> simp only [intsD, Option.map_eq_some_iff] at e <;> first | cases e; done | skip
    rename_i i
    obtain ⟨ms, e, rfl⟩ := e
    cases h
    rw [intsD_of t e]
    rfl
theorem blsD_of {K : PySem.W.Frag} {F : Hp} : ∀ {vs : List V} {ds : List D} {ns : List Bool}, IsDs K G F vs ds → blsD ds = some ns → vs = ns.map V.bl
  | _, _, _, .nil, e => by cases e; rfl
  | v :: vs, d :: ds, ns, .cons h t, e => by
    cases d <;> simp only [blsD, Option.map_eq_some_iff] at e <;> first | cases e; done | skip
    rename_i i
    obtain ⟨ms, e, rfl⟩ := e
    cases h
    rw [blsD_of t e]
    rfl
@[simp] def sumQ : List D → Option A
  | [.lst xs] => (intsD xs).map fun ns => .d (.int ns.sum)
  | _ => none
@[simp] def allQ : List D → Option A
  | [.lst xs] => (blsD xs).map fun ns => .d (.bl (ns.all id))
  | _ => none
@[simp] def anyQ : List D → Option A
  | [.lst xs] => (blsD xs).map fun ns => .d (.bl (ns.any id))
  | _ => none
theorem sum_ok {K : PySem.W.Frag} : RulOk K G (rSum K) sumQ := by
  intro F H vs xs a Q s r e h
  unfold sumQ at e
  split at e
  · obtain ⟨ns, q, rfl⟩ := Option.map_eq_some_iff.mp e
    obtain ⟨v, rfl, r'⟩ := r.one
    obtain ⟨p, vs, rfl, hp, hs⟩ := r'.lst s
    exact ⟨p, ns, rfl, by rw [← intsD_of hs q]; exact SqL.of hp, h _ _ _ (New.old s (IsD.int _))⟩
  · cases e
theorem all_ok {K : PySem.W.Frag} : RulOk K G (rAll K) allQ := by
  intro F H vs xs a Q s r e h
  unfold allQ at e
  split at e
  · obtain ⟨ns, q, rfl⟩ := Option.map_eq_some_iff.mp e
    obtain ⟨v, rfl, r'⟩ := r.one
    obtain ⟨p, vs, rfl, hp, hs⟩ := r'.lst s
    exact ⟨p, ns, rfl, by rw [← blsD_of hs q]; exact SqL.of hp, h _ _ _ (New.old s (IsD.bl _))⟩
  · cases e
theorem any_ok {K : PySem.W.Frag} : RulOk K G (rAny K) anyQ := by
  intro F H vs xs a Q s r e h
  unfold anyQ at e
  split at e
  · obtain ⟨ns, q, rfl⟩ := Option.map_eq_some_iff.mp e
    obtain ⟨v, rfl, r'⟩ := r.one
    obtain ⟨p, vs, rfl, hp, hs⟩ := r'.lst s
    exact ⟨p, ns, rfl, by rw [← blsD_of hs q]; exact SqL.of hp, h _ _ _ (New.old s (IsD.bl _))⟩
  · cases e
end
end Pv

namespace Pv
open PySem PySem.Spec PyProof.Rows L2

/-! ### keys -/
@[simp] def keyOf : D → Option Key
  | .int i => some (.inl i)
  | .str x => some (.inr x)
  | _ => none
theorem keyOf_kD (k : Key) : keyOf (kD k) = some k := by cases k <;> rfl
def lookD (kvs : List (D × D)) (k : Key) : Option D := (kvs.find? fun p => decide (keyOf p.1 = some k)).map (·.2)
def putD (kvs : List (D × D)) (k : Key) (x : D) : List (D × D) := if (kvs.any fun p => decide (keyOf p.1 = some k)) then kvs.map fun p => if keyOf p.1 = some k then (p.1, x) else p else kvs ++ [(kD k, x)]
def delD (kvs : List (D × D)) (k : Key) : List (D × D) := kvs.filter fun p => !decide (keyOf p.1 = some k)
section
variable {K : PySem.W.Frag} {G : Tab} {F H : Hp}
theorem keyOf_is {v : V} {d : D} {k : Key} (h : IsD K G F v d) (e : keyOf d = some k) : v = kV k ∧ d = kD k := by
  cases h <;> simp [keyOf] at e <;> subst e <;> exact ⟨rfl, rfl⟩
theorem Fl.key {v : V} {d : D} {k : Key} (h : Fl K G F H v d) (e : keyOf d = some k) : v = kV k ∧ d = kD k := by
  cases h with
  | d h => exact keyOf_is h e
  | l => cases e
  | m => cases e
theorem KwIs.nil : KwIs K G F [] [] := ⟨rfl, .nil⟩
theorem KwIs.inv {q : Key × V} {kws : List (Key × V)} {p : D × D} {kvs : List (D × D)} (h : KwIs K G F (q :: kws) (p :: kvs)) : p.1 = kD q.1 ∧ IsD K G F q.2 p.2 ∧ KwIs K G F kws kvs := by
  obtain ⟨h1, h2⟩ := h
  simp only [List.map_cons, List.cons.injEq] at h1
  simp only [List.map_cons] at h2
  cases h2 with
  | cons a t => exact ⟨h1.1.symm, a, h1.2, t⟩
theorem KwIs.cons {q : Key × V} {kws : List (Key × V)} {p : D × D} {kvs : List (D × D)} (h1 : p.1 = kD q.1) (h2 : IsD K G F q.2 p.2) (h : KwIs K G F kws kvs) : KwIs K G F (q :: kws) (p :: kvs) := ⟨by simp [h1, h.1], .cons h2 h.2⟩
theorem KwIs.length {kws : List (Key × V)} {kvs : List (D × D)} (h : KwIs K G F kws kvs) : kws.length = kvs.length := by
  have := congrArg List.length h.1
  simpa using this
theorem KwIs.mono {F' : Hp} {kws : List (Key × V)} {kvs : List (D × D)} (e : Same F F') (h : KwIs K G F kws kvs) : KwIs K G F' kws kvs := ⟨h.1, h.2.mono e⟩
theorem KwIs.look : ∀ {kws : List (Key × V)} {kvs : List (D × D)} (k : Key), KwIs K G F kws kvs → (∀ d, lookD kvs k = some d → ∃ v, valV kws k = some v ∧ IsD K G F v d) ∧ (lookD kvs k = none → valV kws k = none)
  | [], [], k, _ => ⟨fun d h => (by cases h), fun _ => rfl⟩
  | [], _ :: _, _, h => by have := h.length; simp at this
  | _ :: _, [], _, h => by have := h.length; simp at this
  | q :: kws, p :: kvs, k, h => by
    obtain ⟨e, hd, h'⟩ := h.inv
    obtain ⟨i1, i2⟩ := KwIs.look k h'
    by_cases hk : q.1 = k
    · have hk' : decide (keyOf p.1 = some k) = true := by rw [e, keyOf_kD, hk]; simp
      have e1 : lookD (p :: kvs) k = some p.2 := by unfold lookD; rw [List.find?_cons, hk']; rfl
      rw [e1, valV_pos hk]
      exact ⟨fun d z => (by cases z; exact ⟨_, rfl, hd⟩), fun z => (by cases z)⟩
    · have hk' : decide (keyOf p.1 = some k) = false := by rw [e, keyOf_kD]; simp [hk]
      have e1 : lookD (p :: kvs) k = lookD kvs k := by unfold lookD; rw [List.find?_cons, hk']
      rw [e1, valV_neg hk]
      exact ⟨i1, i2⟩
theorem KwIs.any : ∀ {kws : List (Key × V)} {kvs : List (D × D)} (k : Key), KwIs K G F kws kvs → (kws.any fun p => decide (p.1 = k)) = (kvs.any fun p => decide (keyOf p.1 = some k))
  | [], [], k, _ => rfl
  | [], _ :: _, _, h => by have := h.length; simp at this
  | _ :: _, [], _, h => by have := h.length; simp at this
  | q :: kws, p :: kvs, k, h => by
    obtain ⟨e, hd, h'⟩ := h.inv
    rw [List.any_cons, List.any_cons, KwIs.any k h', e, keyOf_kD]
    simp
theorem KwIs.repl {x : D} {v : V} (hx : IsD K G F v x) : ∀ {kws : List (Key × V)} {kvs : List (D × D)} (k : Key), KwIs K G F kws kvs → KwIs K G F (kws.map fun p => if p.1 = k then (p.1, v) else p) (kvs.map fun p => if keyOf p.1 = some k then (p.1, x) else p)
  | [], [], k, _ => KwIs.nil
  | [], _ :: _, _, h => by have := h.length; simp at this
  | _ :: _, [], _, h => by have := h.length; simp at this
  | q :: kws, p :: kvs, k, h => by
    obtain ⟨e, hd, h'⟩ := h.inv
    rw [List.map_cons, List.map_cons]
    by_cases hk : q.1 = k
    · rw [if_pos hk, if_pos (by rw [e, keyOf_kD, hk])]
      exact .cons e hx (KwIs.repl hx k h')
    · rw [if_neg hk, if_neg (by rw [e, keyOf_kD]; simpa using hk)]
      exact .cons e hd (KwIs.repl hx k h')
theorem KwIs.app {kws ws : List (Key × V)} {kvs vs : List (D × D)} (h : KwIs K G F kws kvs) (h' : KwIs K G F ws vs) : KwIs K G F (kws ++ ws) (kvs ++ vs) := ⟨by simp [h.1, h'.1], by simpa using h.2.append h'.2⟩
theorem KwIs.put {x : D} {v : V} (hx : IsD K G F v x) {kws : List (Key × V)} {kvs : List (D × D)} (k : Key) (h : KwIs K G F kws kvs) : KwIs K G F (putK kws k v) (putD kvs k x) := by
  unfold putK putD
  rw [h.any k]
  split
  · exact h.repl hx k
  · exact h.app (.cons rfl hx .nil)
theorem look_some {kws : List (Key × V)} {kvs : List (D × D)} (h : KwIs K G F kws kvs) (k : Key) : (valV kws k).isSome = (lookD kvs k).isSome := by
  obtain ⟨h1, h2⟩ := h.look k
  cases e : lookD kvs k with
  | none => rw [h2 e]; rfl
  | some d => obtain ⟨v, g, _⟩ := h1 d e; rw [g]; rfl
theorem Fl.kws (s : Same F H) {v : V} {ks ds : List D} (h : Fl K G F H v (.dct ks ds)) (hl : ks.length = ds.length) : ∃ p kws, v = .ref p ∧ Rd H p (.dK kws) ∧ KwIs K G F kws (ks.zip ds) := by
  obtain ⟨p, kws, rfl, h1, h2, h3⟩ := h.dct s
  exact ⟨p, kws, rfl, h1, by rw [List.map_fst_zip (Nat.le_of_eq hl)]; exact h2, by rw [List.map_snd_zip (Nat.le_of_eq hl.symm)]; exact h3⟩
theorem dget_of {p : Addr} {kws : List (Key × V)} (h : Rd H p (.dK kws)) (k : Key) : DGet H p (kV k) (valV kws k) := .inl ⟨kws, k, h, rfl, rfl⟩
end
section
variable {X : Cx} {G : Tab} {W : WX} {J : List Nat} {a b c e o : Expr} {es : List Expr} {fa fb fc fo : SemE} {ga : SemA} {pos p2 apos cpos : Pos}
def callless : Expr → Bool
  | .Call .. => false
  | _ => true
theorem attrBase_ok {o : Expr} (h : callless o = true) (m : Str) (env : PySem.Env) (w : Sem Value) : attributeBase o m env w = w := by
  cases o <;> first | (cases h; done) | rfl
theorem starless_all {pos : Pos} {env : PySem.Env} : ∀ {es : List Expr}, es.all starless = true → (backTo pos (starEach es env)).all (fun x => !x.1) = true
  | [], _ => rfl
  | e :: es, h => by
    simp only [List.all_cons, Bool.and_eq_true] at h
    rw [starEach_c h.1]
    have := starless_all (pos := pos) (env := env) h.2
    unfold backTo at this ⊢
    simpa using this

/-! ### dicts read -/
theorem ee_newd : EE X G W (.Dict [] [] pos) (fun ρ => .ok (.v (.m [])) ρ) :=
  ⟨_, pe_dnewK, fun σ H ρ F fp Q S h => fun p hp => h.new S (New.dct S.sub hp KwIs.nil)⟩
@[simp] def dgetQ (x y : D) : Option A := match x with
  | .dct ks ds => if ks.length = ds.length then (match keyOf y with
    | some k => (lookD (ks.zip ds) k).map .d
    | none => none) else none
  | _ => none
theorem nosl_c {e : Expr} (h : sliceless e = true) : NoSl e := fun o i => by
  cases e <;> first | rfl | cases h
theorem ee_dget (hu : X.A.units + 1 < cLine) (ha : EE X G W a fa) (hb : EE X G W b fb) (hs : sliceless b = true) : EE X G W (.Subscript a b pos) (opS dgetQ fa fb) := by
  obtain ⟨ta, pa, qa⟩ := ha.ex
  obtain ⟨tb, pb, qb⟩ := hb.ex
  refine ⟨_, pe_dget hu pa pb (nosl_c hs), fun σ H ρ F fp Q S h => ?_⟩
  refine two_run qa qb S h fun u w ρ' v z F' fp' H' S' r1 r2 _ h' => ?_
  simp only [app2] at h'
  split at h'
  · rename_i x e1
    split at h'
    · rename_i y e2
      cases q : dgetQ x y with
      | none => rw [q] at h'; exact h'.elim
      | some a0 =>
        rw [q] at h'
        unfold dgetQ at q
        split at q
        · split at q
          · rename_i hl
            split at q
            · rename_i k hk
              obtain ⟨d, q3, rfl⟩ := Option.map_eq_some_iff.mp q
              obtain ⟨p, kws, rfl, hp, hw⟩ := (fl_of S' r1 e1).kws S'.sub hl
              obtain ⟨rfl, _⟩ := (fl_of S' r2 e2).key hk
              obtain ⟨vv, g1, g2⟩ := (hw.look k).1 d q3
              exact ⟨p, vv, rfl, by rw [← g1]; exact dget_of hp k, h'.nowD S' g2⟩
            · cases q
          · cases q
        · cases q
    · exact h'.elim
  · exact h'.elim
/-- k in d, k not in d -/
@[simp] def dinQ (f : Bool → Bool) (y x : D) : Option Bool := match x with
  | .dct ks ds => if ks.length = ds.length then (keyOf y).map fun k => f (lookD (ks.zip ds) k).isSome else none
  | _ => none
theorem run_din {K : PySem.W.Frag} {f : Bool → Bool} {F H : Hp} {v w : V} {x y : D} {k : Bool} (s : Same F H) (r1 : Fl K G F H v y) (r2 : Fl K G F H w x) (q : dinQ f y x = some k) : ∃ p kws ky, w = .ref p ∧ v = kV ky ∧ Rd H p (.dK kws) ∧ k = f (valV kws ky).isSome := by
  unfold dinQ at q
  split at q
  · split at q
    · rename_i hl
      obtain ⟨ky, hk, rfl⟩ := Option.map_eq_some_iff.mp q
      obtain ⟨p, kws, rfl, hp, hw⟩ := r2.kws s hl
      obtain ⟨rfl, _⟩ := r1.key hk
      exact ⟨p, kws, ky, rfl, rfl, hp, by rw [look_some hw]⟩
    · cases q
  · cases q
theorem ee_din (hu : X.A.units + 1 < cLine) (ha : EE X G W a fa) (hb : EE X G W b fb) (hs : setless b = true) : EE X G W (.Compare a [.In] [b] pos) (cmpV (cmp2 (dinQ id) fa fb)) := by
  obtain ⟨ta, pa, qa⟩ := ha.ex
  obtain ⟨tb, pb, qb⟩ := hb.ex
  refine ⟨_, pe_cmp (pc_din hu pa pb) (behind_c hs _), fun σ H ρ F fp Q S h => ?_⟩
  simp only [cmpV, cmp2] at h
  rw [bind2] at h
  refine two_run qa qb S h fun u w ρ' v z F' fp' H' S' r1 r2 _ h' => ?_
  simp only [app2B] at h'
  split at h'
  · rename_i x e1
    split at h'
    · rename_i y e2
      cases q : dinQ id x y with
      | none => rw [q] at h'; exact h'.elim
      | some k =>
        rw [q] at h'
        obtain ⟨p, kws, ky, rfl, rfl, hp, rfl⟩ := run_din S'.sub (fl_of S' r1 e1) (fl_of S' r2 e2) q
        exact ⟨p, _, rfl, dget_of hp ky, h'.nowD S' (.bl _)⟩
    · exact h'.elim
  · exact h'.elim
theorem ee_dnotin (hu : X.A.units + 1 < cLine) (ha : EE X G W a fa) (hb : EE X G W b fb) (hs : setless b = true) : EE X G W (.Compare a [.NotIn] [b] pos) (cmpV (cmp2 (dinQ (!·)) fa fb)) := by
  obtain ⟨ta, pa, qa⟩ := ha.ex
  obtain ⟨tb, pb, qb⟩ := hb.ex
  refine ⟨_, pe_cmp (pc_dnotin hu pa pb) (behind_c hs _), fun σ H ρ F fp Q S h => ?_⟩
  simp only [cmpV, cmp2] at h
  rw [bind2] at h
  refine two_run qa qb S h fun u w ρ' v z F' fp' H' S' r1 r2 _ h' => ?_
  simp only [app2B] at h'
  split at h'
  · rename_i x e1
    split at h'
    · rename_i y e2
      cases q : dinQ (!·) x y with
      | none => rw [q] at h'; exact h'.elim
      | some k =>
        rw [q] at h'
        obtain ⟨p, kws, ky, rfl, rfl, hp, rfl⟩ := run_din S'.sub (fl_of S' r1 e1) (fl_of S' r2 e2) q
        exact ⟨p, _, rfl, dget_of hp ky, h'.nowD S' (.bl _)⟩
    · exact h'.elim
  · exact h'.elim
/-- d.get(k, x): data -/
@[simp] def dget2S (fo fa fb : SemE) : SemE := fun ρ => (fo ρ).bind fun u ρ1 => match viewU ρ1 u with
  | some (.dct ks ds) => if ks.length = ds.length then (dE fa ρ1).bind fun y ρ2 => (dE fb ρ2).bind fun z ρ3 => (match viewU ρ3 u with
    | some (.dct ks ds) => if ks.length = ds.length then (match keyOf y with
      | some k => .ok (.v (.d ((lookD (ks.zip ds) k).getD z))) ρ3
      | none => .bad) else .bad
    | _ => .bad) else .bad
  | _ => .bad
theorem ee_dget2 {nm : Str} (hnm : nm = "get") (hu : X.A.units + 1 < cLine) (ho : EE X G W o fo) (ha : EE X G W a fa) (hb : EE X G W b fb) (hc : callless o = true) (hs : starless a = true) (hs2 : starless b = true) (hline : (apos.endLine == cpos.line) = true) :
    EE X G W (.Call (.Attribute o nm apos) [a, b] [] cpos) (dget2S fo fa fb) := by
  subst hnm
  obtain ⟨to, po, qo⟩ := ho.ex
  obtain ⟨ta, pa, qa⟩ := ha.ex
  obtain ⟨tb, pb, qb⟩ := hb.ex
  refine ⟨_, pe_dget2 hu po pa pb ⟨attrBase_ok hc _ _ _, by rw [starEach_c hs, starEach_c hs2]; rfl, hline, by rw [starEach_c hs, starEach_c hs2]; rfl⟩, fun σ H ρ F fp Q S h => ?_⟩
  refine qo σ H ρ F fp _ S (Run.bind h fun u ρ1 v F1 fp1 H1 zq1 e1 S1 r1 h1 => ?_)
  split at h1
  · rename_i ks ds q0
    split at h1
    · rename_i hl
      obtain ⟨p, kws0, rfl, hp0, hk0⟩ := (fl_of S1 r1 q0).kws S1.sub hl
      refine ⟨p, rfl, .inl ⟨_, hp0⟩, ?_⟩
      have h1 : Run X.K G W σ F1 (fun b => (fp1 b ∧ ¬ OwnU H1 (.ref p) u b) ∨ OwnU H1 (.ref p) u b) H1 (RU X.K G) _ Q := Run.less h1 fun b z => z.elim (·.1) fun z => RU.own_fp r1 z
      have h2 := h1
      refine run_dE (fp := fun b => fp1 b ∧ ¬ OwnU H1 (.ref p) u b) qa (S1.but r1) (h1.less fun b z => .inl z) fun y ρ2 w F2 fp2 H2 z2 e2 S2 r2 _ => ?_
      have r1' := r1.keep e2 S2
      have e2' : Ex F1 fp1 H1 F2 (fun b => fp2 b ∨ OwnU H1 (.ref p) u b) H2 := e2.beside fun b z => RU.own_fp r1 z
      have h2 := Run.later e2' (Run.less h2 fun b z => (by by_cases q : OwnU H1 (.ref p) u b; exact .inr q; exact .inl ⟨z, q⟩))
      rw [z2] at h2
      simp only [Out.bind_ok] at h2
      have S2' := S2.more (gp := fun b => fp2 b ∨ OwnU H1 (.ref p) u b) fun _ z => .inl z
      have h3 := h2
      refine run_dE (fp := fun b => (fp2 b ∨ OwnU H1 (.ref p) u b) ∧ ¬ OwnU H2 (.ref p) u b) qb (S2'.but r1') (h2.less fun b z => z.1) fun z ρ3 w3 F3 fp3 H3 z3 e3 S3 r3 _ => ?_
      have r1'' := r1'.keep e3 S3
      have h3 := Run.later (e3.beside fun b z => RU.own_fp r1' z) h3
      rw [z3] at h3
      simp only [Out.bind_ok] at h3
      have S3' := S3.more (gp := fun b => fp3 b ∨ OwnU H2 (.ref p) u b) fun _ z => .inl z
      split at h3
      · rename_i ks' ds' q1
        split at h3
        · rename_i hl'
          split at h3
          · rename_i k q2
            obtain ⟨p', kws, ep, hp, hk⟩ := (fl_of S3' r1'' q1).kws S3.sub hl'
            cases ep
            obtain ⟨rfl, _⟩ := keyOf_is (r2.mono e3.fr) q2
            refine ⟨_, dget_of hp k, ?_⟩
            obtain ⟨g1, g2⟩ := hk.look k
            cases q : lookD (ks'.zip ds') k with
            | none => rw [g2 q]; rw [q] at h3; exact h3.nowD S3' r3
            | some d =>
              obtain ⟨vv, g3, g4⟩ := g1 d q
              rw [g3]
              rw [q] at h3
              exact h3.nowD S3' g4
          · exact h3.elim
        · exact h3.elim
      · exact h3.elim
    · exact h1.elim
  · exact h1.elim

/-! ### methods that change nothing, of lists and texts -/
def MethOk (K : PySem.W.Frag) (G : Tab) (r : V → List V → Hp → VK → Prop) (g : D → List D → Option A) : Prop :=
  ∀ F H v vs x xs a Q, Same F H → Fl K G F H v x → Fls K G F H vs xs → g x xs = some a → (∀ F' H' v, New K G F H F' H' v a → Q v H') → r v vs H Q
@[simp] def tyOk (T : String) (x : D) : Bool := match x with
  | .lst _ => T == "list"
  | .str _ => T == "str"
  | _ => false
theorem tyV_of {F H : Hp} {v : V} {x : D} {T : String} (s : Same F H) (r : Fl X.K G F H v x) (h : tyOk T x = true) : tyV X.K T v H := by
  unfold tyOk at h
  split at h
  · obtain ⟨p, vs, rfl, hp, hs⟩ := r.lst s
    exact .inl ⟨by simpa using h, vs, SqL.of hp⟩
  · obtain rfl := r.str
    exact (by simpa using h : T = "str")
  · cases h
@[simp] def methQ (T : String) (g : D → List D → Option A) (u : U) (us : List U) (ρ : Ev) : Out U := match viewU ρ u with
  | some x => match views ρ us with
    | some xs => if tyOk T x = true then outA (g x xs) ρ else .bad
    | none => .bad
  | none => .bad
@[simp] def methS (T : String) (g : D → List D → Option A) (fo : SemE) (ga : SemA) : SemE := fun ρ => (fo ρ).bind fun u ρ1 => match viewU ρ1 u with
  | some x => if tyOk T x = true then (ga ρ1).bind fun us ρ2 => methQ T g u us ρ2 else .bad
  | none => .bad
variable {name : Str} {T id : String} {r : V → List V → Hp → VK → Prop} {g : D → List D → Option A}
theorem ee_meth (pa : PlainAttrs T) (slot : Slot T name id) (hty : typeOf (.builtin id) = pure (.type "method_descriptor")) (hm : MtR X id r) (hg : MethOk X.K G r g) (ho : EE X G W o fo) (ha : EA X G W (e :: es) ga)
    (hb : callless o = true) (hs : (e :: es).all starless = true) (hl : (e :: es).length < 20) (hline : (apos.endLine == cpos.line) = true) : EE X G W (.Call (.Attribute o name apos) (e :: es) [] cpos) (methS T g fo ga) := by
  obtain ⟨to, po, qo⟩ := ho.ex
  obtain ⟨t, p, q⟩ := ha.ex
  have hs' := hs
  simp only [List.all_cons, Bool.and_eq_true] at hs'
  refine ⟨_, pe_bm pa slot hty hm po p (attrBase_ok hb _ _ _) (by
    rw [starless_all hs]
    simp only [backToKw, keywordEach, List.map_nil, List.all_nil, Bool.true_and, decide_eq_true_eq, List.length_nil, List.isEmpty_nil, if_true]
    omega) hline (starEach_c hs'.1 _ _) (starless_any hs'.2), fun σ H ρ F fp Q S h => ?_⟩
  refine qo σ H ρ F fp _ S (Run.bind h fun u ρ1 v F1 fp1 H1 zq1 e1 S1 r1 h1 => ?_)
  split at h1
  · rename_i x ex
    split at h1
    · rename_i ht
      refine ⟨tyV_of S1.sub (fl_of S1 r1 ex) ht, ?_⟩
      refine q σ H1 ρ1 F1 _ _ (S1.but r1) (Run.bindT (T := OwnU H1 v u) (fun b z => RU.own_fp r1 z) h1 fun us ρ2 vs F2 fp2 H2 zq2 e2 S2 r2 h2 => ?_)
      have r1' := r1.keep e2 S2
      have S2' := S2.more (gp := fun b => fp2 b ∨ OwnU H1 v u b) fun _ z => .inl z
      simp only [methQ] at h2
      split at h2
      · rename_i y ey
        split at h2
        · rename_i ys eys
          split at h2
          · cases qa : g y ys with
            | none => rw [qa] at h2; exact h2.elim
            | some a0 =>
              rw [qa] at h2
              exact hg F2 H2 v vs y ys a0 Q S2.sub (fl_of S2' r1' ey) (fls_of S2' (r2.more fun _ z => .inl z) eys) qa fun F' H' v' n => h2.new S2' n
          · exact h2.elim
        · exact h2.elim
      · exact h2.elim
    · exact h1.elim
  · exact h1.elim
/-- xs.count(n), whole numbers; xs.count(True), truths -/
def rCntF (K : PySem.W.Frag) : V → List V → Hp → VK → Prop := fun x xs H Q => ∃ (p : Addr) (ys : List V) (y : V), x = .ref p ∧ xs = [y] ∧ SqL K H p ys ∧ flatV y = true ∧ ys.all flatV = true ∧ Q (.int (ys.countP (fun z => eqV z y) : Nat)) H
theorem countP_eqU {x : V} : ∀ {xs : List V} {us : List Value}, Vals xs us → xs.all flatV = true → us.countP (eqU x) = xs.countP fun y => eqV y x
  | _, _, .nil, _ => rfl
  | y :: xs, u :: us, .cons r t, f => by
    rw [List.all_cons, Bool.and_eq_true] at f
    rw [List.countP_cons, List.countP_cons, eqU_of r f.1, countP_eqU t f.2]
theorem mt_countF : MtR X "list.count" (rCntF X.K) := by
  intro pins s σ H x xs v us Q I rx rxs h
  obtain ⟨p, ys, y, rfl, rfl, hs, fy, fys, q⟩ := h
  cases rx
  obtain ⟨u, rfl, ru⟩ := rxs.one
  obtain ⟨its, rv, ⟨⟨cls, dd, data, sl⟩, n, ho, hc, hdn, hd⟩, hlen⟩ := I.list hs
  simp only at hc hd
  subst hc hd
  refine call_meets PySem.F.slot_list_count ⟨_, ho, rfl⟩ PySem.F.entry_list_count (PySem.F.args_list_count_2 _ _)
    (SeqAt.list_countAt p its.toArray n dd sl u (eqU y)) ⟨ho, fun z hz => mem_eqAt ru fy rv fys z (by simpa using hz), ?_⟩
  have ec : its.toArray.toList.countP (eqU y) = ys.countP fun z => eqV z y := countP_eqU rv fys
  refine ⟨.int (ys.countP (fun z => eqV z y) : Nat), H, I.tok _, ⟨s.toks, ?_⟩, q⟩
  show Value.int ((its.toArray.toList.countP (eqU y) : Nat) : Int) s.toks = _
  rw [ec]
theorem bls_flat (bs : List Bool) : (bs.map V.bl).all flatV = true := by simp [flatV]
theorem ints_flat (bs : List Int) : (bs.map V.int).all flatV = true := by simp [flatV]
theorem bls_count (bs : List Bool) (k : Bool) : (bs.map V.bl).countP (fun z => eqV z (.bl k)) = bs.count k := by
  rw [List.countP_map]
  rfl
@[simp] def countQ (x : D) (ys : List D) : Option A := match x, ys with
  | .lst xs, [.int k] => (intsD xs).map fun ns => .d (.int (ns.count k : Nat))
  | .lst xs, [.bl k] => (blsD xs).map fun ns => .d (.int (ns.count k : Nat))
  | _, _ => none
theorem ints_count (bs : List Int) (k : Int) : (bs.map V.int).countP (fun z => eqV z (.int k)) = bs.count k := by
  rw [List.countP_map]
  unfold List.count
  congr 1
theorem count_ok {K : PySem.W.Frag} : MethOk K G (rCntF K) countQ := by
  intro F H v vs x xs a Q s r rs e h
  unfold countQ at e
  split at e
  · obtain ⟨ns, q, rfl⟩ := Option.map_eq_some_iff.mp e
    obtain ⟨p, ws, rfl, hp, hs⟩ := r.lst s
    obtain ⟨w, rfl, rw_⟩ := rs.one
    obtain rfl := rw_.int
    have e2 := intsD_of hs q
    subst e2
    exact ⟨p, _, .int _, rfl, rfl, SqL.of hp, rfl, ints_flat _, by rw [ints_count]; exact h _ _ _ (New.old s (IsD.int _))⟩
  · obtain ⟨ns, q, rfl⟩ := Option.map_eq_some_iff.mp e
    obtain ⟨p, ws, rfl, hp, hs⟩ := r.lst s
    obtain ⟨w, rfl, rw_⟩ := rs.one
    obtain rfl := rw_.bl
    have e2 := blsD_of hs q
    subst e2
    exact ⟨p, _, .bl _, rfl, rfl, SqL.of hp, rfl, bls_flat _, by rw [bls_count]; exact h _ _ _ (New.old s (IsD.int _))⟩
  · cases e
@[simp] def indexQ (x : D) (ys : List D) : Option A := match x, ys with
  | .lst xs, [.bl k] => match blsD xs with
    | some ns => if ns.idxOf k < ns.length then some (.d (.int (ns.idxOf k : Nat))) else none
    | none => none
  | _, _ => none
theorem lt_idx {k : Bool} : ∀ {bs : List Bool} {m : Nat} {b : Bool}, m < bs.idxOf k → bs[m]? = some b → (b == k) = false
  | [], m, b, h, _ => by simp at h
  | x :: bs, m, b, h, e => by
    rw [List.idxOf_cons] at h
    cases q : x == k with
    | true => rw [q] at h; simp at h
    | false =>
      rw [q] at h
      cases m with
      | zero => simp at e; subst e; exact q
      | succ m => exact lt_idx (bs := bs) (m := m) (by simp at h; omega) (by simpa using e)
theorem index_ok {K : PySem.W.Frag} : MethOk K G (rIndex K) indexQ := by
  intro F H v vs x xs a Q s r rs e h
  unfold indexQ at e
  split at e
  · rename_i xs0 k
    split at e
    · rename_i ns q
      split at e
      · rename_i hl
        cases e
        obtain ⟨p, ws, rfl, hp, hs⟩ := r.lst s
        obtain ⟨w, rfl, rw_⟩ := rs.one
        obtain rfl := rw_.bl
        have e2 := blsD_of hs q
        subst e2
        refine ⟨p, _, .bl k, ns.idxOf k, .bl k, rfl, rfl, SqL.of hp, rfl, bls_flat _, ?_, by simp [eqV], fun m z' hm hz => ?_, h _ _ _ (New.old s (IsD.int _))⟩
        · rw [List.getElem?_map, List.getElem?_eq_getElem hl, List.getElem_idxOf hl]; rfl
        · rw [List.getElem?_map, List.getElem?_eq_getElem (by omega)] at hz
          cases hz
          exact lt_idx hm (List.getElem?_eq_getElem (by omega))
      · cases e
    · cases e
  · cases e

/-! ### methods that change what a name holds as its own -/
/-- what stands at an own thing's place, changed -/
def MutOk (K : PySem.W.Frag) (G : Tab) (r : V → List V → Hp → VK → Prop) (g : A → List D → Option (D × A)) : Prop :=
  ∀ F H v vs a xs res a' Q, Same F H → IsA K G F H v a → (∀ b, Own H v a b → F b = none) → IsDs K G F vs xs → g a xs = some (res, a') →
    (∀ p o' w, v = .ref p → (∀ b, Own H v a b ↔ b = p) → (∀ b, Own (upd H p o') v a' b ↔ b = p) → IsA K G F (upd H p o') v a' → IsD K G F w res → Q w (upd H p o')) → r v vs H Q
section
variable {K : PySem.W.Frag} {F H : Hp} {fp : Addr → Prop} {σ : L2.St} {ρ : Ev} {p : Addr} {o' : HO} {i : Nat} {a0 a' : A}
theorem Sk.poke (S : Sk K G F fp H σ ρ) (s : Sl σ ρ i (.ref p) a0) (h1 : ∀ b, Own H (.ref p) a0 b ↔ b = p) (h2 : ∀ b, Own (upd H p o') (.ref p) a' b ↔ b = p) (q : IsA K G F (upd H p o') (.ref p) a') : Sk K G F fp (upd H p o') σ (ρ.set i (some a')) := by
  have hp : fp p ∧ F p = none := S.own i _ _ p s ((h1 p).mpr rfl)
  have key : ∀ j w c, Sl σ (ρ.set i (some a')) j w c → (j = i ∧ w = .ref p ∧ c = a') ∨ (j ≠ i ∧ Sl σ ρ j w c) := fun j w c t => by
    by_cases e : j = i
    · subst e
      have l2 : j < ρ.length := (List.getElem?_eq_some_iff.mp s.2).1
      have t2 := t.2
      rw [List.getElem?_set_self l2] at t2
      cases t2
      have t1 := t.1
      rw [s.1] at t1
      cases t1
      exact .inl ⟨rfl, rfl, rfl⟩
    · have t2 := t.2
      rw [List.getElem?_set_ne (fun z => e z.symm)] at t2
      exact .inr ⟨e, t.1, t2⟩
  have far : ∀ j w c b, j ≠ i → Sl σ ρ j w c → Own H w c b → b ≠ p := fun j w c b hj t ho z => by
    subst z
    exact S.inj j i w _ c a0 b hj t s ho ((h1 b).mpr rfl)
  have conv : ∀ j w c b, j ≠ i → Sl σ ρ j w c → (Own (upd H p o') w c b ↔ Own H w c b) := fun j w c b hj t => (S.is t).own_iff fun b o ho hb => by rw [upd_ne (far j w c b hj t ho)]; exact hb
  refine ⟨(by obtain ⟨o, g1, g2⟩ := (S.is s).plain ((h1 p).mpr rfl); exact S.sub.poke hp.2 g1 g2), by simp [S.len], fun j c hj => ?_, fun j w c b t ho => ?_, fun j k w w' c c' b hne t t' ho ho' => ?_⟩
  · by_cases e : j = i
    · subst e
      have l2 : j < ρ.length := (List.getElem?_eq_some_iff.mp s.2).1
      rw [List.getElem?_set_self l2] at hj
      cases hj
      exact ⟨_, s.1, q⟩
    · rw [List.getElem?_set_ne (fun z => e z.symm)] at hj
      obtain ⟨w, t, g⟩ := S.get hj
      exact ⟨w, t.1, g.frame (Same.refl _) fun b o ho hb => by rw [upd_ne (far j w c b e t ho)]; exact hb⟩
  · rcases key j w c t with ⟨_, rfl, rfl⟩ | ⟨e, t⟩
    · rw [h2] at ho; subst ho; exact hp
    · exact S.own j w c b t ((conv j w c b e t).1 ho)
  · rcases key j w c t with ⟨e1, e2, e3⟩ | ⟨e, t1⟩
    · rcases key k w' c' t' with ⟨g1, g2, g3⟩ | ⟨e', t1'⟩
      · exact hne (e1.trans g1.symm)
      · rw [e2, e3, h2] at ho
        exact far k w' c' b e' t1' ((conv k w' c' b e' t1').1 ho') ho
    · rcases key k w' c' t' with ⟨g1, g2, g3⟩ | ⟨e', t1'⟩
      · rw [g2, g3, h2] at ho'
        exact far j w c b e t1 ((conv j w c b e t1).1 ho) ho'
      · exact S.inj j k w w' c c' b hne t1 t1' ((conv j w c b e t1).1 ho) ((conv k w' c' b e' t1').1 ho')
theorem Ex.poke (hp : fp p) : Ex F fp H F fp (upd H p o') :=
  ⟨Same.refl _, fun b u e hn _ => by rw [upd_ne (fun z => hn (by rw [z]; exact hp))]; exact e, fun _ _ e => .inl e, fun _ e => .inl e, fun b e => by
    by_cases hb : b = p
    · subst hb; rw [upd_same]; simp
    · rw [upd_ne hb]; exact e⟩
end
@[simp] def mutQ (g : A → List D → Option (D × A)) (u : U) (xs : List D) (ρ : Ev) : Out U := match u with
  | .s i => match ρ[i]? with
    | some (some a) => match g a xs with
      | some (res, a') => .ok (.v (.d res)) (ρ.set i (some a'))
      | none => .bad
    | _ => .bad
  | _ => .bad
@[simp] def ownT (T : String) (u : U) (ρ : Ev) : Bool := match u with
  | .s i => match ρ[i]? with
    | some (some (.l _)) => T == "list"
    | some (some (.m _)) => T == "dict"
    | _ => false
  | _ => false
@[simp] def mutS (T : String) (g : A → List D → Option (D × A)) (fo : SemE) (ga : SemA) : SemE := fun ρ => (fo ρ).bind fun u ρ1 => if ownT T u ρ1 = true then (ga ρ1).bind fun us ρ2 => (frzs us ρ2).bind fun xs ρ3 => mutQ g u xs ρ3 else .bad
theorem own_tyV {K : PySem.W.Frag} {F H : Hp} {fp : Addr → Prop} {σ : L2.St} {ρ : Ev} {v : V} {u : U} (S : Sk K G F fp H σ ρ) (r : RU K G F fp H σ ρ v u) (h : ownT T u ρ = true) : tyV K T v H := by
  unfold ownT at h
  split at h
  · split at h
    · rename_i i xs e
      have q := S.is ⟨r, e⟩
      obtain ⟨p, vs, rfl, hp, hs⟩ := q
      exact .inl ⟨by simpa using h, vs, SqL.of hp⟩
    · rename_i i xs e
      have q := S.is ⟨r, e⟩
      obtain ⟨p, vs, rfl, hp, hs⟩ := q
      exact .inr (.inr (.inl ⟨by simpa using h, .inl ⟨_, hp⟩⟩))
    · cases h
  · cases h
theorem run_mut {K : PySem.W.Frag} {gm : A → List D → Option (D × A)} {F H : Hp} {fp : Addr → Prop} {σ : L2.St} {ρ : Ev} {v : V} {vs : List V} {u : U} {xs : List D} {Q : VK} (hg : MutOk K G r gm) (S : Sk K G F fp H σ ρ) (ru : RU K G F fp H σ ρ v u) (rs : IsDs K G F vs xs)
    (h : Run K G W σ F fp H (RU K G) (mutQ gm u xs ρ) Q) : r v vs H Q := by
  unfold mutQ at h
  split at h
  · rename_i i
    split at h
    · rename_i a ha
      split at h
      · rename_i res a' e
        have s : Sl σ ρ i v a := ⟨ru, ha⟩
        refine hg F H v vs a xs res a' Q S.sub (S.is s) (fun b o => (S.own i v a b s o).2) rs e fun p o' w hv h1 h2 q rw_ => ?_
        subst hv
        have hp := (S.own i _ _ p s ((h1 p).mpr rfl)).1
        exact h w _ F fp (Ex.poke hp) (S.poke s h1 h2 q) ⟨rw_, fun b o => by simp at o⟩
      · exact h.elim
    · exact h.elim
  · exact h.elim
theorem ee_mut {gm : A → List D → Option (D × A)} (pa : PlainAttrs T) (slot : Slot T name id) (hty : typeOf (.builtin id) = pure (.type "method_descriptor")) (hm : MtR X id r) (hg : MutOk X.K G r gm) (ho : EE X G W o fo) (ha : EA X G W (e :: es) ga)
    (hb : callless o = true) (hs : (e :: es).all starless = true) (hl : (e :: es).length < 20) (hline : (apos.endLine == cpos.line) = true) : EE X G W (.Call (.Attribute o name apos) (e :: es) [] cpos) (mutS T gm fo ga) := by
  obtain ⟨to, po, qo⟩ := ho.ex
  obtain ⟨t, p, q⟩ := ha.ex
  have hs' := hs
  simp only [List.all_cons, Bool.and_eq_true] at hs'
  refine ⟨_, pe_bm pa slot hty hm po p (attrBase_ok hb _ _ _) (by
    rw [starless_all hs]
    simp only [backToKw, keywordEach, List.map_nil, List.all_nil, Bool.true_and, decide_eq_true_eq, List.length_nil, List.isEmpty_nil, if_true]
    omega) hline (starEach_c hs'.1 _ _) (starless_any hs'.2), fun σ H ρ F fp Q S h => ?_⟩
  refine qo σ H ρ F fp _ S (Run.bind h fun u ρ1 v F1 fp1 H1 zq1 e1 S1 r1 h1 => ?_)
  split at h1
  · rename_i ht
    refine ⟨own_tyV S1 r1 ht, ?_⟩
    have hu : ∃ i, u = .s i := by
      cases u with
      | s i => exact ⟨i, rfl⟩
      | v a => cases ht
    obtain ⟨i, rfl⟩ := hu
    refine q σ H1 ρ1 F1 fp1 _ S1 (Run.bind h1 fun us ρ2 vs F2 fp2 H2 zq2 e2 S2 r2 h2 => ?_)
    refine run_frz S2 r2 h2 fun xs ρ3 F3 e3 S3 d3 h3 => ?_
    exact run_mut hg S3 (u := .s i) r1 d3 h3
  · exact h1.elim
theorem ee_mut0 {gm : A → List D → Option (D × A)} (pa : PlainAttrs T) (slot : Slot T name id) (hty : typeOf (.builtin id) = pure (.type "method_descriptor")) (hm : MtR X id r) (hg : MutOk X.K G (fun v vs H Q => r v [] H Q) gm) (ho : EE X G W o fo)
    (hb : callless o = true) (hline : (apos.endLine == cpos.line) = true) : EE X G W (.Call (.Attribute o name apos) [] [] cpos) (mutS T gm fo nilA) := by
  obtain ⟨to, po, qo⟩ := ho.ex
  refine ⟨_, pe_bm0 pa slot hty hm po (attrBase_ok hb _ _ _) hline, fun σ H ρ F fp Q S h => ?_⟩
  refine qo σ H ρ F fp _ S (Run.bind h fun u ρ1 v F1 fp1 H1 zq1 e1 S1 r1 h1 => ?_)
  split at h1
  · rename_i ht
    refine ⟨own_tyV S1 r1 ht, ?_⟩
    simp only [nilA, Out.bind_ok, frzs] at h1
    exact run_mut (r := fun v vs H Q => r v [] H Q) (vs := []) hg S1 r1 .nil h1
  · exact h1.elim
@[simp] def appendQ : A → List D → Option (D × A)
  | .l ds, [x] => if ds.length < 16777216 then some (.non, .l (ds ++ [x])) else none
  | _, _ => none
theorem own_l {p : Addr} {ds : List D} (b : Addr) : Own H (.ref p) (.l ds) b ↔ b = p := Iff.rfl
theorem own_m {p : Addr} {ds : List (D × D)} (b : Addr) : Own H (.ref p) (.m ds) b ↔ b = p := Iff.rfl
theorem append_ok {K : PySem.W.Frag} : MutOk K G rAppend appendQ := by
  intro F H v vs a xs res a' Q s ra hF rs e h
  unfold appendQ at e
  split at e
  · split at e
    · rename_i hl
      cases e
      obtain ⟨p, ws, rfl, hp, hs⟩ := ra
      cases rs with
      | cons rx rs =>
        cases rs
        exact ⟨p, ws, _, rfl, rfl, hp, by rw [hs.length, ← lim_eq]; exact hl, h p _ _ rfl own_l own_l ⟨p, _, rfl, upd_same, hs.append (.cons rx .nil)⟩ IsD.non⟩
    · cases e
  · cases e
@[simp] def extendQ : A → List D → Option (D × A)
  | .l ds, [.lst xs] => if ds.length + xs.length ≤ 16777216 then some (.non, .l (ds ++ xs)) else none
  | _, _ => none
theorem extend_ok {K : PySem.W.Frag} : MutOk K G rExtend extendQ := by
  intro F H v vs a xs res a' Q s ra hF rs e h
  unfold extendQ at e
  split at e
  · split at e
    · rename_i hl
      cases e
      obtain ⟨p, ws, rfl, hp, hs⟩ := ra
      cases rs with
      | cons rx rs =>
        cases rs
        cases rx with
        | lst hb hx => exact ⟨p, _, ws, _, rfl, rfl, hp, s _ _ hb, by rw [hs.length, hx.length, ← lim_eq]; exact hl, h p _ _ rfl own_l own_l ⟨p, _, rfl, upd_same, hs.append hx⟩ IsD.non⟩
    · cases e
  · cases e
@[simp] def reverseQ : A → List D → Option (D × A)
  | .l ds, [] => some (.non, .l ds.reverse)
  | _, _ => none
theorem reverse_ok {K : PySem.W.Frag} : MutOk K G (fun v vs H Q => rReverse v [] H Q) reverseQ := by
  intro F H v vs a xs res a' Q s ra hF rs e h
  unfold reverseQ at e
  split at e
  · cases e
    obtain ⟨p, ws, rfl, hp, hs⟩ := ra
    exact ⟨p, ws, rfl, rfl, hp, h p _ _ rfl own_l own_l ⟨p, _, rfl, upd_same, hs.reverse⟩ IsD.non⟩
  · cases e
theorem IsDs.eraseIdx {K : PySem.W.Frag} {F : Hp} : ∀ {vs : List V} {ds : List D} (i : Nat), IsDs K G F vs ds → IsDs K G F (vs.eraseIdx i) (ds.eraseIdx i)
  | _, _, _, .nil => .nil
  | _, _, 0, .cons _ t => t
  | _, _, i + 1, .cons h t => .cons h (IsDs.eraseIdx i t)
theorem IsDs.dropLast {K : PySem.W.Frag} {F : Hp} {vs : List V} {ds : List D} (h : IsDs K G F vs ds) : IsDs K G F vs.dropLast ds.dropLast := by
  rw [List.dropLast_eq_take, List.dropLast_eq_take, h.length]
  exact h.take _
@[simp] def popQ : A → List D → Option (D × A)
  | .l ds, [] => (ds[ds.length - 1]?).map fun y => (y, .l ds.dropLast)
  | _, _ => none
theorem pop_ok {K : PySem.W.Frag} : MutOk K G (fun v vs H Q => rPop v [] H Q) popQ := by
  intro F H v vs a xs res a' Q s ra hF rs e h
  unfold popQ at e
  split at e
  · obtain ⟨y, ey, e⟩ := Option.map_eq_some_iff.mp e
    cases e
    obtain ⟨p, ws, rfl, hp, hs⟩ := ra
    obtain ⟨w, h1, h2⟩ := hs.get ey
    exact ⟨p, ws, w, rfl, rfl, hp, by rw [hs.length]; exact h1, h p _ _ rfl own_l own_l ⟨p, _, rfl, upd_same, hs.dropLast⟩ h2⟩
  · cases e
@[simp] def popAtQ : A → List D → Option (D × A)
  | .l ds, [.int j] => if 0 ≤ j ∧ j < 1000000 then (ds[j.toNat]?).map fun y => (y, .l (ds.eraseIdx j.toNat)) else none
  | _, _ => none
theorem popAt_ok {K : PySem.W.Frag} : MutOk K G rPopAt popAtQ := by
  intro F H v vs a xs res a' Q s ra hF rs e h
  unfold popAtQ at e
  split at e
  · rename_i j
    split at e
    · rename_i hj
      obtain ⟨y, ey, e⟩ := Option.map_eq_some_iff.mp e
      cases e
      obtain ⟨p, ws, rfl, hp, hs⟩ := ra
      cases rs with
      | cons rx rs =>
        cases rs
        cases rx
        obtain ⟨w, h1, h2⟩ := hs.get ey
        have hlt : j.toNat < ws.length := (List.getElem?_eq_some_iff.mp h1).1
        refine ⟨p, ws, j, j.toNat, w, rfl, rfl, hp, by omega, by omega, ?_, h1, h p _ _ rfl own_l own_l ⟨p, _, rfl, upd_same, hs.eraseIdx _⟩ h2⟩
        have : ixN ws.length j = some j.toNat := by
          unfold ixN
          rw [if_pos hj.1, if_pos (by omega)]
        exact (ixN_seq this).1
    · cases e
  · cases e

/-! ### o[i] = v -/
@[simp] def putQ (a : A) (y x : D) : Option A := match a with
  | .l ds => match y with
    | .int j => (ixN ds.length j).map fun n => .l (ds.set n x)
    | _ => none
  | .m kvs => match keyOf y with
    | some q => if kvs.length < 16777216 then some (.m (putD kvs q x)) else none
    | none => none
  | _ => none
@[simp] def setItem (i : Nat) (fi fv : SemE) : SemS := fun ρ => (dE fv ρ).bind fun x ρ1 => match ρ1[i]? with
  | some (some _) => (dE fi ρ1).bind fun y ρ2 => match ρ2[i]? with
    | some (some a) => match putQ a y x with
      | some a' => .ok .nx (ρ2.set i (some a'))
      | none => .bad
    | _ => .bad
  | _ => .bad
theorem PSet.or {t t' : TSet} (h : PSet X t) (h' : PSet X t') : PSet X (fun o i v H Q => t o i v H Q ∨ t' o i v H Q) := by
  intro pins s σ H o i v ov iv u Q I ro ri rv q
  rcases q with q | q
  · exact h pins s σ H o i v ov iv u Q I ro ri rv q
  · exact h' pins s σ H o i v ov iv u Q I ro ri rv q
theorem assignSub_c {o i : Expr} {pos : Pos} {env : PySem.Env} (h : sliceless i = true) (v : Value) : assign (.Subscript o i pos) env v = (do
      let ov ← holding [v] (eval o env)
      let iv ← holding [v, ov] (eval i env)
      standAt pos
      holding [v, ov, iv] (PySem.setItem ov iv v)
      release [v, ov, iv] []) := by
  cases i <;> first | rfl | cases h
theorem ss_setItem {i : Nat} {x : Str} {p' p'' : Pos} {fi fv : SemE} (hN : X.N[i]? = some x) (hv' : Vis X.env.scope x) (hd : (x == ("__debug__" : Str)) = false) (hcd : (x == ("__classdict__" : Str)) = false) (hu : X.A.units + 1 < cLine) (hi : EE X G W b fi) (hv : EE X G W e fv) (hs : sliceless b = true) (hc : compless e = true) (ht : tupless e = true) :
    SS X G W J (.Assign [.Subscript (.Name x p'') b p'] e pos) (setItem i fi fv) := by
  obtain ⟨ti, pi, qi⟩ := hi.ex
  obtain ⟨tv, pv, qv⟩ := hv.ex
  have hsw : swapsWithSole [(Expr.Name x p'').Subscript b p'] e pos.line X.env = pure false := by
    cases e <;> first | (cases hc; done) | rfl
  refine ⟨_, ps_asg pv (pg_sub (pe_var (i := i) hN hv' hd hcd) pi (PSet.or set_list (set_dict hu)) (assignSub_c hs)) hsw (swapped_c ht _) rfl, fun σ H ρ F fp D S h => ?_⟩
  refine srun_dE qv S h fun x ρ1 v F1 fp1 H1 z1 e1 S1 r1 h1 => ?_
  split at h1
  · rename_i a1 ha1
    obtain ⟨w, s1, _⟩ := S1.get ha1
    refine ⟨w, s1.1, ?_⟩
    refine srun_dE qi S1 h1 fun y ρ2 z F2 fp2 H2 z2 e2 S2 r2 h2 => ?_
    split at h2
    · rename_i a ha
      obtain ⟨w', s2, q⟩ := S2.get ha
      have ew := s2.1
      rw [s1.1] at ew
      cases ew
      split at h2
      · rename_i a' ep
        unfold putQ at ep
        split at ep
        · split at ep
          · obtain ⟨n, en, rfl⟩ := Option.map_eq_some_iff.mp ep
            obtain ⟨p, vs, rfl, hp, hs'⟩ := q
            cases r2
            refine .inl ⟨p, vs, _, n, rfl, rfl, hp, by rw [hs'.length]; exact en, ?_⟩
            exact h2 σ _ F2 fp2 (Ex.poke (S2.own i _ _ p s2 rfl).1) (S2.poke s2 own_l own_l ⟨p, _, rfl, upd_same, hs'.set (r1.mono e2.fr) n⟩) (Jk.refl _ _)
          · cases ep
        · split at ep
          · rename_i ky ek
            split at ep
            · rename_i hl
              cases ep
              obtain ⟨p, kws, rfl, hp, hk⟩ := q
              obtain ⟨rfl, _⟩ := keyOf_is r2 ek
              refine .inr ⟨p, _, rfl, DPut.k hp (by have hk' : KwIs X.K G F2 kws _ := hk; rw [hk'.length, ← lim_eq]; exact hl), ?_⟩
              exact h2 σ _ F2 fp2 (Ex.poke (S2.own i _ _ p s2 rfl).1) (S2.poke s2 own_m own_m ⟨p, _, rfl, upd_same, KwIs.put (r1.mono e2.fr) ky hk⟩) (Jk.refl _ _)
            · cases ep
          · cases ep
        · cases ep
      · exact h2.elim
    · exact h2.elim
  · exact h1.elim
end
end Pv

namespace Pv
open PySem PySem.Spec PyProof.Rows L2 L2H
/-! ### a def that is called while an exception is handled: it is pinned, and handed in -/
structure FnP (P : Program) (w : World) (K : PySem.W.Frag) (mg : Str → Option Value) (base : Heap) (CX : CXT) (k : Nat) (f : Addr) (fd : FuncData) (ps : List Str) (sp : Addr × Obj → Sp) : Prop where
  len : ∀ p vs H Q E, sp p vs H Q E → vs.length = ps.length
  run : ∀ (A : Around) (outer : List PySem.Env) (s : Shared) (H : Hp) (args : Args) (us : List Value) (vs : List V) (Q : VK) (E : XK) (p : Addr × Obj), RoomH k A → PinOk outer H s p → Env0 P w K mg base A outer s H → BindsTo s fd args (ps.zip us) → Vals vs us → sp p vs H Q E →
    codeAny (model P w) A (.call (.ref f) args) (CR CX outer P w H s Q E) s
theorem fn_ofP {CX : CXT} {P : Program} {w : World} {K : PySem.W.Frag} {mg : Str → Option Value} {base : Heap} {k : Nat} {f : Addr} {name qual : Str} {params : Arguments} {body : List Stmt} {scope : Scope} {dV kV doc pm cdv ct oc : Value} {an od : Option Addr}
    {osl : Array (Option Value)} {N ps : List Str} {sp : Addr × Obj → Sp} (lk : K.lookup f = some ⟨oc, od, .func (PySem.W.fnOf name qual params body scope dV kV doc pm an cdv ct), osl⟩) (hcd : PySem.W.codeIn K cdv qual = true) (S : FnScope N ps scope)
    (len : ∀ p vs H Q E, sp p vs H Q E → vs.length = ps.length)
    (hbody : ∀ (A : Around) (outer : List PySem.Env) (s : Shared) (H : Hp) (vs : List V) (Q : VK) (E : XK) (p : Addr × Obj), RoomH k (A.deeper (envOfC qual scope s.heap.objs.size f cdv)) → sp p vs H Q E →
      ∃ t, PSs (cxH CX P w K mg base N qual scope f cdv A outer s H E p) body t ∧ t { nx := fun _ H' => Q .non H', rt := Q } (L2.start N vs) H) :
    FnP P w K mg base CX (k + 1) f (PySem.W.fnOf name qual params body scope dV kV doc pm an cdv ct) ps sp := by
  refine ⟨len, fun A outer s H args us vs Q E p hr hpin e0 hb r hsp => ?_⟩
  have hl := len _ _ _ _ _ hsp
  have KX : K.In s.heap := e0.mod.kin.keeps fun b o e => (e0.bs b o e).1
  have lim : s.heap.NoLimit := e0.mod.nolimit.keeps fun b o e => (e0.bs b o e).1
  have hkind : ∀ y ∈ ps.zip us, scope.names.lookup y.1 = some .local ∨ (scope.names.lookup y.1 = some .cell ∧ ((cellsFrom (s.heap.objs.size + 1) scope.names []).lookup y.1).isSome = true) := fun ⟨n, v⟩ hy => by
    rcases S.par n (List.of_mem_zip hy).1 with q | q
    · exact .inl q
    · exact .inr ⟨q, PySem.W.cellsFrom_some _ _ _ (.inl q)⟩
  refine codeAny_call_function hr.depth (KX _ _ lk) rfl S.co S.gen rfl (PySem.W.codeRec_of KX hcd) (hb _ _ _ _ ?_)
  refine wpAny_newFunctionEnv_cells S.kind hkind fun env he s1 x => ?_
  subst he
  refine ⟨lim.keeps x.toInCall.keep, codeAny_func ?_⟩
  obtain ⟨t, ht, hq⟩ := hbody A outer s H vs Q E p (hr.deeper _) hsp
  have I : Inv (cxH CX P w K mg base N qual scope f cdv A outer s H E p) [] (L2.start N vs) H s1 := inv_startH S hpin e0 hl r x
  refine wpAny_mono (ht.run [] s1 (L2.start N vs) H _ I hq) (fun fl s' hs => ?_) fun e s' hs => hs
  have fin : ∀ {σ' : L2.St} {H' : Hp} {v : V} {u : Value}, Inv (cxH CX P w K mg base N qual scope f cdv A outer s H E p) [] σ' H' s' → RelV v u → Q v H' → CE outer P w H s Q u s' :=
    fun {σ' H' v u} J rv q => ⟨v, H', J.os, J.bare, J.base, J.hok, rv, q⟩
  cases fl with
  | ret u =>
    obtain ⟨v, σ', H', J, rv, q⟩ := hs
    exact fin J rv q
  | next =>
    obtain ⟨σ', H', J, q⟩ := hs
    exact fin (v := V.non) (u := Value.none) J rfl q
  | brk =>
    obtain ⟨_, _, _, q⟩ := hs
    exact False.elim q
  | cont =>
    obtain ⟨_, _, _, q⟩ := hs
    exact False.elim q
theorem run_fnP {X : Cx} {CX : CXT} {k : Nat} {f : Addr} {fd : FuncData} {ps : List Str} {sp : Addr × Obj → Sp} {E : L2.St → XK} {p : Addr × Obj} {pins : List (Addr × Obj)} {σ : L2.St} {H : Hp} {s : Shared} {Q : VK} {us : List Value} {vs : List V} (F : FnP X.prog X.w X.K X.mg X.base CX k f fd ps sp) (hr : RoomH k X.A) (hp : p ∈ X.pn) (hb : Binds X.K fd ps []) (hx : PassesAt CX X σ (E σ))
    (I : Inv X pins σ H s) (r : Vals vs us) (h : sp p vs H Q (E σ)) : wpAny (model X.prog X.w) X.A (call (.ref f) us) (EP X pins σ Q) X.xe s := by
  have hl : us.length = ps.length := by rw [← r.length]; exact F.len _ _ _ _ _ h
  have b := hb s us I.kIn (by rw [List.append_nil]; exact hl)
  rw [List.append_nil] at b
  have P1 := I.pin p (List.mem_append_left _ hp)
  have hpin : PinOk X.stack H s p := ⟨P1.1, P1.2.1, fun hm => (List.mem_cons.mp (I.stkSub p.1 hm)).elim P1.2.2.1 P1.2.2.2.1, P1.2.2.2.2⟩
  refine wpAny_call (codeAny_mono (F.run X.A X.stack s H ⟨us, []⟩ us vs Q (E σ) p hr hpin I.env0 b r h) fun r s' hq => ?_)
  cases r with
  | error e => exact hx pins H s e s' I hq
  | ok fl =>
    cases fl with
    | ret u => exact I.after hq
    | next => exact False.elim hq
    | brk => exact False.elim hq
    | cont => exact False.elim hq

/-! ### the word of a refusal -/
def spKind (K : PySem.W.Frag) (G : Tab) (res : Nat → Option Str) : Addr × Obj → Sp := fun p vs H Q E => ∃ c r, vs = [.ref p.1] ∧ Zc (.ref (G.cls c)) none p.2 ∧ (∃ fs, p.2.data = .fields fs) ∧ res c = some r ∧ LamX.Tabs G.tabs H ∧ ∀ H', Same (noT G H) H' → LamX.Tabs G.tabs H' → (∀ b, H b ≠ none → H' b ≠ none) → Q (.str r) H'
structure ClsOk (K : PySem.W.Frag) (G : Tab) (sub : Nat → Nat → Bool) (c : Nat) : Prop where
  exc : ExcC K (G.cls c)
  ve : PySem.W.kitOne K (.ref (G.cls c)) (.type "ValueError") = some true
  sub : ∀ c', PySem.W.kitOne K (.ref (G.cls c)) (.ref (G.cls c')) = some (sub c c')
theorem sk_empty {K : PySem.W.Frag} {G : Tab} {F H : Hp} {v : V} {x : D} (sub : SubT G F H) (h : IsD K G F v x) : Sk K G F (fun _ => False) H ([v].map some) ([A.d x].map some) := by
  have key : ∀ (i : Nat) (w : V) (a : A), Sl ([v].map some) ([A.d x].map some) i w a → w = v ∧ a = .d x := fun i w a s => by
    obtain ⟨s1, s2⟩ := s
    cases i with
    | zero => simp at s1 s2; exact ⟨s1.symm, s2.symm⟩
    | succ i => simp at s1
  refine ⟨sub, rfl, fun i a e => ?_, fun i w a b s o => ?_, fun i j w w' a c b hne s s' o o' => ?_⟩
  · cases i with
    | zero => simp at e; subst e; exact ⟨v, rfl, h⟩
    | succ i => simp at e
  · obtain ⟨_, rfl⟩ := key i w a s; simp at o
  · obtain ⟨_, rfl⟩ := key i w a s; simp at o
theorem kind_ok {P : Program} {w : World} {K : PySem.W.Frag} {mg : Str → Option Value} {base : Heap} {G : Tab} {x qual : Str} {st : Stmt} {f : Addr} {fd : FuncData} {N ps : List Str} {k : Nat} {body : SemS} {res : Nat → Option Str} {sub : Nat → Nat → Bool} (F : Fun K x qual st f fd) (Sc : FnScope N ps (defScope st)) (hps : ps.length = 1)
    (hcls : ∀ c r, res c = some r → ClsOk K G sub c)
    (hres : ∀ c r, res c = some r → exitV [] 1 (body ([some (.d (.exn c))] ++ List.replicate (N.length - 1) none)) = .ok (.d (.str r)) [none])
    (hb : ∀ (X : Cx) (G' : Tab) (W : WX), G'.cls = G.cls → X.prog = P → X.w = w → X.K = K → X.mg = mg → X.base = base → X.N = N → X.env.scope = defScope st → (∀ y, X.fn y = true) → X.A.units + 64 < cLine → ExnOk X G' sub → SSs X G' W [] (defBody st) body) :
    FnP P w K mg base (L2.CX P w) (k + 1) f fd ps (spKind K G res) := by
  have hpl : ps.length ≤ N.length := by have := congrArg List.length Sc.pre; rw [List.length_take] at this; omega
  obtain ⟨oc, od, kV, doc, pm, an, cdv, ct, osl, rfl, lk, hcd⟩ := F.ex
  refine fn_ofP lk hcd Sc (fun p vs H Q E h => ?_) fun A outer s H vs Q E p hr h => ?_
  · obtain ⟨c, r, rfl, _⟩ := h
    exact hps.symm
  · obtain ⟨c, r, rfl, hz, hf, hc, ht, q⟩ := h
    have C := hcls c r hc
    have hu : (A.deeper (envOfC qual (defScope st) s.heap.objs.size f cdv)).units + 64 < cLine := by
      have := hr.un
      omega
    obtain ⟨t, pt, qt⟩ := (hb (cxH (L2.CX P w) P w K mg base N qual (defScope st) f cdv A outer s H E p) { G with exn := fun b => if b = p.1 then some c else none } (fun _ _ _ _ => True) rfl rfl rfl rfl rfl rfl rfl rfl (fun _ => rfl) hu
      ⟨fun a c' e => by
        have e' : (if a = p.1 then some c else none) = some c' := e
        split at e'
        · rename_i ha
          subst ha
          cases e'
          exact ⟨p.2, List.mem_singleton.mpr rfl, hz, hf, C.exc, C.ve, C.sub⟩
        · cases e'⟩).ex
    have S0 : Sk K { G with exn := fun b => if b = p.1 then some c else none } (noT G H) (fun _ => False) H ([V.ref p.1].map some) ([Pv.A.d (.exn c)].map some) := sk_empty ⟨noT_le, ht, fun _ _ => noT_ne⟩ (IsD.exn (by simp))
    have S1 : Sk K { G with exn := fun b => if b = p.1 then some c else none } (noT G H) (fun _ => False) H (L2.start N [V.ref p.1]) ([some (Pv.A.d (.exn c))] ++ List.replicate (N.length - 1) none) := start_sk (N := N) S0 (by simp; omega)
    refine ⟨t, pt, qt (L2.start N [.ref p.1]) H ([some (Pv.A.d (.exn c))] ++ List.replicate (N.length - 1) none) (noT G H) (fun _ => False) _ S1 ?_⟩
    have hx := hres c r hc
    cases o : body ([some (Pv.A.d (.exn c))] ++ List.replicate (N.length - 1) none) with
    | bad => rw [o] at hx; cases hx
    | exc x ρ' => rw [o] at hx; cases hx
    | ok fl ρ' =>
      rw [o] at hx
      cases fl with
      | bk => cases hx
      | ct => cases hx
      | nx => simp only [exitV_nx] at hx; cases hx
      | rt a =>
        simp only [exitV_rt] at hx
        injection hx with hx _
        subst hx
        intro v σ' H' F' fp' e S' j rr
        have r' : IsD K _ F' v (.str r) := rr.1
        cases r'
        exact q _ (e.fr.trans S'.sub.s) S'.sub.t e.live

/-! ### try: return e, except X as n: return kind(n) -/
@[simp] def tryS (J : List Nat) (i : Nat) (f : SemE) (res : Nat → Option Str) : SemS := fun ρ => match f ρ with
  | .ok u ρ1 => giveU J u ρ1
  | .exc x ρ1 => if x.fs.isEmpty = true ∧ i < ρ1.length then (match res x.c with
    | some r => .ok (.rt (.d (.str r))) ρ1
    | none => .bad) else .bad
  | .bad => .bad
theorem Sk.step {K : PySem.W.Frag} {G : Tab} {F H H' : Hp} {fp : Addr → Prop} {σ : L2.St} {ρ : Ev} (S : Sk K G F fp H σ ρ) (e : Same (noT G H) H') (t : LamX.Tabs G.tabs H') : Sk K G F fp H' σ ρ :=
  have k : ∀ {i v a}, Sl σ ρ i v a → ∀ b o, Own H v a b → H b = some o → H' b = some o := fun s b o q h => e _ _ (noT_at h ((S.is s).nt q h))
  ⟨S.sub.step e t, S.len, fun i a h => let ⟨v, s, q⟩ := S.get h; ⟨v, s.1, q.frame (Same.refl _) (k s)⟩, fun i w c b s q => S.own i w c b s (((S.is s).own_iff (k s)).1 q),
    fun i j v w a c b n s s' o o' => S.inj i j v w a c b n s s' (((S.is s).own_iff (k s)).1 o) (((S.is s').own_iff (k s')).1 o')⟩
theorem Sk.same {K : PySem.W.Frag} {G : Tab} {F H H' : Hp} {fp : Addr → Prop} {σ : L2.St} {ρ : Ev} (S : Sk K G F fp H σ ρ) (e : Same H H') : Sk K G F fp H' σ ρ :=
  ⟨S.sub.ext e, S.len, fun i a h => let ⟨v, s, q⟩ := S.get h; ⟨v, s.1, q.frame (Same.refl _) fun b o _ hb => e _ _ hb⟩, fun i w c b s q => S.own i w c b s ((S.own_iff e s).1 q), S.injS e⟩
theorem ss_tryk {X : Cx} {G : Tab} {W : WX} {J : List Nat} {i k : Nat} {e : Expr} {f : SemE} {res : Nat → Option Str} {x nm kx : Str} {Cf fk : Addr} {fd : FuncData} {ps : List Str} {np pos pos' p1 p2 p3 p4 p5 : Pos}
    (hs : X.stack = X.env :: X.outer) (hf : X.env.frame = some X.env.locals) (hN : X.N.Nodup) (hi : X.N[i]? = some nm) (hln : X.env.scope.names.lookup nm = some .local) (hc : Names X x (.ref Cf)) (tk : Takes X W)
    (he : ∀ (W' : WX) (pn : List (Addr × Obj)) (xe : Value → Shared → Prop), Takes (X.tr pn xe) W' → EE (X.tr pn xe) G W' e f)
    (hm : ∀ c r, res c = some r → PySem.W.exmOne X.K (.ref (G.cls c)) (.ref Cf) = some true)
    (Fk : FnP X.prog X.w X.K X.mg X.base (L2.CX X.prog X.w) k fk fd ps (spKind X.K G res)) (hr : RoomH k X.A) (hg : Gl X kx) (hmk : X.mg kx = some (.ref fk)) (hk : PySem.W.keepIn X.K (.ref fk) = true) (hb : Binds X.K fd ps []) (hdb : (kx == ("__debug__" : Str)) = false) (hd2 : (nm == ("__debug__" : Str)) = false) (hd3 : (nm == ("__classdict__" : Str)) = false) :
    SS X G W J (.Try [.Return (some e) p5] [.ExceptHandler (some (.Name x np)) (some nm) [.Return (some (.Call (.Name kx p1) [.Name nm p2] [] p3)) p4] pos'] [] [] pos) (tryS J i f res) := by
  have P := ps_try_as (X := X) (x := x) (n := nm) (c := .ref Cf) (i := i) (body := [.Return (some e) p5]) (suite := []) (b₀ := .Return (some (.Call (.Name kx p1) [.Name nm p2] [] p3)) p4) (np := np) (pos := pos) (pos' := pos') (Wout := W)
    (tb := fun W' => tRet (canE X.K G W' f))
    (ts := fun a cls d => fun D σ H => σ[i]? = some (some (.ref a)) ∧ d = none ∧ ∃ c r, cls = .ref (G.cls c) ∧ res c = some r ∧ LamX.Tabs G.tabs H ∧ ∀ H', Same (noT G H) H' → LamX.Tabs G.tabs H' → (∀ b, H b ≠ none → H' b ≠ none) → D.rt (.str r) H')
    hs hf hN hi hln hc tk (fun W' pn xe tk' _ => pss_one (ps_ret (he W' pn xe tk').can)) fun a oe cls d pn hz hfl => by
      refine pss_one ⟨fun pins s σ H D I h => ?_⟩
      obtain ⟨h1, rfl, c, r, rfl, hres, ht, q⟩ := h
      have PEc : PE (X.suite a ((a, oe) :: pn)) (.Call (.Name kx p1) [.Name nm p2] [] p3) (fun σ H Q => σ[i]? = some (some (.ref a)) ∧ LamX.Tabs G.tabs H ∧ ∀ H', Same (noT G H) H' → LamX.Tabs G.tabs H' → (∀ b, H b ≠ none → H' b ≠ none) → Q (.str r) H') := by
        refine ⟨fun pins s σ H Q I h => ?_⟩
        obtain ⟨h1, ht, q⟩ := h
        refine wpAny_Call_Name_kw (ld_glob I hg hmk ?_ hdb)
        have ha : PA (X.suite a ((a, oe) :: pn)) [.Name nm p2] (tCons (tVar i) tNil) := pa_cons (pe_var hi (.inl hln) hd2 hd3) pa_nil
        refine PySem.W.callWith_K (h₀ := X.base) I.ok.mod.kin hk (thn (ha.run p3 pins s σ H (fun vs H1 => vs = [V.ref a] ∧ H = H1) I ⟨_, h1, rfl, rfl⟩) fun us s1 hh => ?_)
        obtain ⟨vs, H1, I1, r1, ev, eH⟩ := hh
        subst ev
        rw [← eH] at I1
        refine ⟨I1.kIn, ?_⟩
        have Fk' : FnP (X.suite a ((a, oe) :: pn)).prog (X.suite a ((a, oe) :: pn)).w (X.suite a ((a, oe) :: pn)).K (X.suite a ((a, oe) :: pn)).mg (X.suite a ((a, oe) :: pn)).base (L2.CX X.prog X.w) k fk fd ps (spKind X.K G res) := Fk
        refine run_fnP (X := X.suite a ((a, oe) :: pn)) (E := fun _ _ _ _ => False) (p := (a, oe)) Fk' ⟨hr.dp, hr.un⟩ List.mem_cons_self hb ?_ I1 r1 ⟨c, r, rfl, hz, hfl, hres, ht, fun H' s' t' l' => q H' s' t' l'⟩
        intro pins2 H2 s2 e2 s3 I2 c2
        obtain ⟨_, _, _, _, _, _, _, _, _, _, _, _, z⟩ := c2
        exact z
      exact (ps_ret PEc).run pins s σ H D I ⟨h1, ht, fun H' s' t' l' => q H' s' t' l'⟩
  refine ⟨_, P, fun σ H ρ F fp D S h => ?_⟩
  refine ⟨ρ, F, fp, S, ?_⟩
  unfold tryS at h
  cases q : f ρ with
  | bad => rw [q] at h; exact h
  | ok u ρ1 =>
    rw [q] at h
    intro v H' F' fp' e' S' r'
    cases u with
    | v a => exact h v σ H' F' fp' e' S' (Jk.refl _ _) r'
    | s j =>
      simp only [giveU] at h
      split at h
      · exact h.elim
      · split at h
        · rename_i a ha
          exact h v σ H' F' fp' e' (S'.unset j) (Jk.refl _ _) (S'.give ⟨r', ha⟩)
        · exact h.elim
  | exc x ρ1 =>
    rw [q] at h
    try dsimp only at h
    split at h
    · rename_i hx
      cases hr : res x.c with
      | none => rw [hr] at h; exact h.elim
      | some r =>
        rw [hr] at h
        intro cls dd H' F' fp' e' S' r'
        obtain ⟨rfl, hd, _⟩ := r'
        have hfs : x.fs = [] := List.isEmpty_iff.mp hx.1
        refine ⟨true, hm x.c r hr, fun _ a ha => ⟨List.getElem?_set_self (by rw [S'.len]; exact hx.2), hd hfs, x.c, r, rfl, hr, S'.sub.t, fun H'' s' t' l' => ?_⟩, fun z => by cases z⟩
        exact h (.str r) σ H'' F' fp' ⟨e'.fr, fun b o hb hm nt => s' b o (noT_at (e'.keep b o hb hm nt) nt), e'.new, e'.nfp, fun b hb => l' b (e'.live b hb)⟩ (S'.step s' t') (Jk.refl _ _) ⟨IsD.str r, fun b o => by simp at o⟩
    · exact h.elim
end Pv

namespace Pv
open PySem PySem.Spec PyProof.Rows L2 PySem.W

/-! ### sorted, of what can be gathered -/
def sortD (ds : List D) : List D := ds.mergeSort fun a b => !ltd b a
def nice (d : D) : Bool := match d with
  | .tup (_ :: _) => true
  | _ => false
def odd (d : D) : Bool := match d with
  | .bl _ => true
  | .int _ => true
  | .str _ => true
  | .lst _ => true
  | _ => false
def okSort (ds : List D) : Bool := cans ds && decide (deps ds ≤ 60) && ds.all (fun d => ds.all fun e => alike (py d) (py e)) && (ds.all nice || ds.all odd) && decide (ds.length ≤ 16777216)
section
variable {X : Cx} {G : Tab} {K : PySem.W.Frag} {F H : Hp} {s : Shared}
def RVD (K : PySem.W.Frag) (G : Tab) (F : Hp) (u : Value) (d : D) : Prop := ∃ v : V, RelV v u ∧ IsD K G F v d
theorem each_in : ∀ {vs : List V} {us : List Value} {ds : List D}, Vals vs us → IsDs K G F vs ds → EachIs (RVD K G F) us ds
  | [], [], _, .nil, r => by cases r; exact .nil
  | v :: vs, u :: us, _, .cons r1 t, r => by
    cases r with
    | cons h hs => exact .cons ⟨v, r1, h⟩ (each_in t hs)
theorem each_out : ∀ {us : List Value} {ds : List D}, EachIs (RVD K G F) us ds → ∃ vs, Vals vs us ∧ IsDs K G F vs ds
  | _, _, .nil => ⟨[], .nil, .nil⟩
  | _, _, .cons ⟨v, h1, h2⟩ t => by
    obtain ⟨vs, g1, g2⟩ := each_out t
    exact ⟨v :: vs, .cons h1 g1, .cons h2 g2⟩
theorem cans_mem : ∀ {ds : List D}, cans ds = true → ∀ d ∈ ds, can d = true
  | [], _, d, h => by cases h
  | e :: ds, c, d, h => by
    simp only [cans, Bool.and_eq_true] at c
    rcases List.mem_cons.mp h with rfl | h
    · exact c.1
    · exact cans_mem c.2 d h
theorem deps_mem : ∀ {ds : List D}, ∀ d ∈ ds, dep d ≤ deps ds
  | [], d, h => by cases h
  | e :: ds, d, h => by
    simp only [deps]
    rcases List.mem_cons.mp h with rfl | h
    · omega
    · have := deps_mem d h
      omega
theorem each_reads {pins : List (Addr × Obj)} {σ : L2.St} (I : Inv X pins σ H s) (sub : Same F H) : ∀ {vs : List V} {us : List Value} {ds : List D}, Vals vs us → IsDs X.K G F vs ds → cans ds = true → EachIs (fun u d => ∃ as, Reads s.heap u (py d) as) us ds
  | [], [], _, .nil, r, c => by cases r; exact .nil
  | v :: vs, u :: us, _, .cons r1 t, r, c => by
    cases r with
    | cons h hs =>
      simp only [cans, Bool.and_eq_true] at c
      exact .cons (Dp.reads I _ v u (dp_of (h.mono sub) c.1) r1) (each_reads I sub t hs c.2)
theorem sortable_of {ds : List D} (h : ds.all nice || ds.all odd) : Sortable (ds.map py) := by
  simp only [Bool.or_eq_true] at h
  rcases h with h | h
  · refine .inl fun d hd => ?_
    obtain ⟨e, he, rfl⟩ := List.mem_map.mp hd
    have := List.all_eq_true.mp h e he
    cases e with
    | tup xs => cases xs with
      | nil => simp [nice] at this
      | cons x xs => exact ⟨py x, pys xs, rfl⟩
    | _ => simp [nice] at this
  · refine .inr fun d hd => ?_
    obtain ⟨e, he, rfl⟩ := List.mem_map.mp hd
    have := List.all_eq_true.mp h e he
    cases e <;> simp_all [odd, py]
theorem alike_of {ds : List D} (h : (ds.all fun d => ds.all fun e => alike (py d) (py e)) = true) : AllAlike (ds.map py) := by
  intro d hd d' hd'
  obtain ⟨e, he, rfl⟩ := List.mem_map.mp hd
  obtain ⟨e', he', rfl⟩ := List.mem_map.mp hd'
  exact List.all_eq_true.mp (List.all_eq_true.mp h e he) e' he'
/-- what is gathered from a thing -/
def Gath (X : Cx) (G : Tab) (pins : List (Addr × Obj)) (σ : L2.St) (u : Value) (s : Shared) (R : List V → List D → Hp → Hp → Prop) : Prop :=
  ∀ Qc : List Value → Shared → Prop, (∀ s1 us vs ds F1 H1, Inv X pins σ H1 s1 → Vals vs us → IsDs X.K G F1 vs ds → Same F1 H1 → R vs ds F1 H1 → Qc us s1) → wpAny (model X.prog X.w) X.A.in1 (collect u) Qc X.xe s
theorem sorted_coll (hu : X.A.units + 64 < cLine) {pins : List (Addr × Obj)} {σ : L2.St} {u : Value} {Q : VK} (h : Gath X G pins σ u s fun _ ds F1 H1 => okSort ds = true ∧ ∀ ys p, IsDs X.K G F1 ys (sortD ds) → H1 p = none → Q (.ref p) (upd H1 p (.lst ys))) :
    wpAny (model X.prog X.w) X.A (call (.builtin "sorted") [u]) (EP X pins σ Q) X.xe s := by
  refine Calls.call_function_entry kind_sorted plain_sorted entry_sorted (args_sorted1 _) ?_
  unfold Builtin.«sorted»
  refine wpAny_bind (m := checkCount "sorted" 1 1 _) (wpAny_pure ?_)
  refine wpAny_bind (h _ fun s1 us vs ds F1 H1 I rv rd sub q => ?_)
  obtain ⟨hok, q⟩ := q
  simp only [okSort, Bool.and_eq_true, decide_eq_true_eq] at hok
  obtain ⟨⟨⟨⟨hc, hdp⟩, hal⟩, hnic⟩, hlen⟩ := hok
  have hl : us.length = ds.length := by rw [← rv.length, rd.length]
  have hz : us.length ≤ sizeLine := by rw [hl, ← lim_eq]; exact hlen
  refine wpAny_bind (wpAny_newList ?_ hz)
  have hoL : (s1.heap.push (seqObj "list" us.toArray 0)).get? s1.heap.objs.size = some (seqObj "list" us.toArray 0) := Heap.get?_push_size _ rfl
  have er := each_reads I sub rv rd hc
  have old : ∀ b o, s1.heap.get? b = some o → (sortingHeap (s1.heap.push (seqObj "list" us.toArray 0)) s1.heap.objs.size us).get? b = some o := fun b o e => sortingHeap_old (Nat.ne_of_lt (Heap.lt_size e)) (Heap.get?_push_of_some _ e)
  have er' : EachIs (fun v b => ∃ as, Reads (sortingHeap (s1.heap.push (seqObj "list" us.toArray 0)) s1.heap.objs.size us) v (py b) as) us ds := er.mono fun _ _ ⟨as, r⟩ => ⟨as, PyProof.Rows.Reads.keeps old r⟩
  refine wpAny_bind (wpAny_holding (wpAny_call_entry slot_list_sort ⟨_, hoL, rfl⟩ entry_list_sort
    (list_sort_vals (s := { s1 with heap := s1.heap.push (seqObj "list" us.toArray 0) }) hoL (SortsAt.data (s := { s1 with heap := sortingHeap (s1.heap.push (seqObj "list" us.toArray 0)) s1.heap.objs.size us }) (each_map (R := fun v d => ∃ as, Reads (sortingHeap (s1.heap.push (seqObj "list" us.toArray 0)) s1.heap.objs.size us) v d as) py er') (alike_of hal) (sortable_of (by simp only [Bool.or_eq_true]; simpa using hnic)) (bound_map fun b hb => ?_)) hz ⟨_, rfl, ?_⟩) (args_list_sort _)))
  · have h1 := deps_mem b hb
    rw [dep_of]
    show X.A.units + 1 + 1 + _ < _
    omega
  have eo := sortVals_data (h' := sortingHeap (s1.heap.push (seqObj "list" us.toArray 0)) s1.heap.objs.size us) false (each_in rv rd) er' (alike_of hal)
  obtain ⟨ys, g1, g2⟩ := each_out eo
  obtain ⟨e', he'⟩ := sortedHeap_at (vs := us) (out := (sortVals (dataKind (sortingHeap (s1.heap.push (seqObj "list" us.toArray 0)) s1.heap.objs.size us) (ds.map py)) false us us).toArray) hoL
  have hy : ys.length ≤ sizeLine := by
    rw [g2.length, List.length_mergeSort, ← hl]; exact hz
  refine wpAny_pure ⟨_, rfl, .ref s1.heap.objs.size, upd H1 s1.heap.objs.size (.lst ys), I.laid (t' := s1.toks) (fun b o e => ?_) (Nat.le_refl _) (show ObjOk X.prog X.w _ _ _ (.lst ys) from ⟨hy, _, e', g1, he'⟩), rfl, q ys _ g2 (I.hok.fresh (Nat.le_refl _))⟩
  have hb : b < s1.heap.objs.size := Heap.lt_size e
  rw [sortedHeap_old (Nat.ne_of_lt hb) (by rw [size_push']; exact Nat.lt_succ_of_lt hb)]
  exact Heap.get?_push_of_some _ e
end
end Pv
namespace Pv
open PySem PySem.Spec PyProof.Rows L2 PySem.W
section
variable {X : Cx} {G : Tab} {K : PySem.W.Frag} {F H : Hp} {s : Shared}
/-! ### what is gathered from lists, tuples, dicts -/
theorem collect_tuple {prog : Program} {w : World} {A : Around} {E : Value → Shared → Prop} {s : Shared} {l : Addr} {vs : List Value} {Q : List Value → Shared → Prop} (hl : s.heap.IsTuple l vs.toArray)
    (h : Q vs { s with heap := (s.heap.push (seqObj "list" #[] 0)).update s.heap.objs.size (Obj.mapSeq (· ++ vs.toArray)) }) (hsz : vs.length ≤ sizeLine) :
    wpAny (model prog w) A (collect (.ref l)) Q E s := by
  obtain ⟨o, ho, hc, n, hd⟩ := id hl
  unfold collect
  refine wpAny_bind (wpAny_runValue (codeAny_builtin entry_proto_collect' ?_))
  show wpAny _ _ (do again (.builtin "list.__iadd__" ⟨[← newList [], .ref l], []⟩)) _ _ s
  refine wpAny_bind (wpAny_newList (wpAny_pure ⟨Code.quiet_builtin _ (by decide +kernel), codeAny_builtin entry_list_iadd' ?_⟩))
  show wpAny _ _ (Builtin.List.listExtendWith (.ref s.heap.objs.size) (.ref l) (.ref s.heap.objs.size)) _ _ { s with heap := s.heap.push (seqObj "list" #[] 0) }
  unfold Builtin.List.listExtendWith
  have ho' : (s.heap.push (seqObj "list" #[] 0)).get? l = some o := Heap.get?_push_of_some _ ho
  refine wpAny_bind (wpAny_typeOf (T := "tuple") ⟨o, ho', hc⟩ ?_)
  have ht : (Value.type "tuple" == Value.type "tuple") = true := by rfl
  rw [if_pos (by rw [ht]; simp)]
  refine wpAny_bind (listItems_at ho' hd ?_)
  refine wpAny_bind (listItems_at (xs := #[]) (n := 0) (Heap.get?_push_size _ rfl) rfl ?_)
  rw [if_neg (by simp)]
  refine wpAny_bind (listUpdate_at (xs := #[]) (n := 0) (Heap.get?_push_size _ rfl) rfl ?_ (Nat.zero_le _) (by show (#[] ++ vs.toArray).size ≤ sizeLine + 1; simp only [Array.size_append, List.size_toArray, List.length_nil]; omega))
  refine wpAny_pure ?_
  show wpAny (model prog w) A (do
      let o ← load s.heap.objs.size
      match o.data with
      | .seq xs _ => pure xs.toList
      | _ => unsupported "internal:collect") Q E { s with heap := (s.heap.push (seqObj "list" #[] 0)).update s.heap.objs.size (Obj.mapSeq (· ++ vs.toArray)) }
  refine wpAny_bind (wpAny_load (get?_update_seq (Heap.get?_push_size _ rfl) _) ?_)
  show wpAny _ _ (pure ((#[] : Array Value) ++ vs.toArray).toList) Q E _
  rw [show ((#[] : Array Value) ++ vs.toArray).toList = vs by simp]
  exact wpAny_pure h
theorem copy_old {h : Heap} {vs : List Value} {b : Addr} {o : Obj} (e : h.get? b = some o) : ((h.push (seqObj "list" #[] 0)).update h.objs.size (Obj.mapSeq (· ++ vs.toArray))).get? b = some o := by
  rw [Heap.get?_update_ne _ _ _ _ (Nat.ne_of_lt (Heap.lt_size e))]
  exact Heap.get?_push_of_some _ e
theorem gath_lst {pins : List (Addr × Obj)} {σ : L2.St} {p : Addr} {vs : List V} {ds : List D} {R : List V → List D → Hp → Hp → Prop} (I : Inv X pins σ H s) (sub : Same F H) (h : SqL X.K H p vs) (hs : IsDs X.K G F vs ds) (q : R vs ds F H) : Gath X G pins σ (.ref p) s R := fun Qc k => by
  obtain ⟨its, rv, hl, hz⟩ := I.list h
  exact collect_list hl.isList (k _ _ vs ds F H (I.kept (t' := s.toks) fun b u e => copy_old e) rv hs sub q) (by rw [← rv.length]; exact hz)
theorem gath_tup {pins : List (Addr × Obj)} {σ : L2.St} {p : Addr} {vs : List V} {ds : List D} {R : List V → List D → Hp → Hp → Prop} (I : Inv X pins σ H s) (sub : Same F H) (h : SqT X.K H p vs) (hs : IsDs X.K G F vs ds) (q : R vs ds F H) : Gath X G pins σ (.ref p) s R := fun Qc k => by
  obtain ⟨its, rv, ⟨o, ho, hc, n, hd⟩, hz⟩ := I.tuple h
  exact collect_tuple ⟨o, ho, hc, n, hd⟩ (k _ _ vs ds F H (I.kept (t' := s.toks) fun b u e => copy_old e) rv hs sub q) (by rw [← rv.length]; exact hz)
end
end Pv

namespace Pv
open PySem PySem.Spec PyProof.Rows L2 PySem.W

/-! ### a rule told by the call itself -/
def rDir (X : Cx) (f : Value) : List V → Hp → VK → Prop := fun xs H Q => ∀ (pins : List (Addr × Obj)) (s : Shared) (σ : L2.St) (us : List Value), Inv X pins σ H s → Vals xs us → wpAny (model X.prog X.w) X.A (call f us) (EP X pins σ Q) X.xe s
theorem callDir {X : Cx} {f : Value} : CallR X f (rDir X f) := fun pins s σ H xs us Q I r h => h pins s σ us I r

/-! ### sorted -/
@[simp] def sortedQ : List D → Option A
  | [.lst ds] => if okSort ds = true then some (.l (sortD ds)) else none
  | [.tup ds] => if okSort ds = true then some (.l (sortD ds)) else none
  | [.scr ns] => if okSort (ns.map .int) = true then some (.l (sortD (ns.map .int))) else none
  | [.dct ks _] => if okSort ks = true then some (.l (sortD ks)) else none
  | _ => none
theorem sorted_ok {X : Cx} {G : Tab} (hc : X.calm = true) (hu : X.A.units + 64 < cLine) : RulOk X.K G (rDir X (.builtin "sorted")) sortedQ := by
  intro F H vs xs a Q sub r e h pins s σ us I rv
  unfold sortedQ at e
  split at e
  · split at e
    · rename_i hok
      cases e
      obtain ⟨v, rfl, r'⟩ := r.one
      obtain ⟨p, ws, rfl, hp, hs⟩ := r'.lst sub
      obtain rfl := Vals.ref1 rv
      exact sorted_coll hu (gath_lst I sub (SqL.of hp) hs ⟨hok, fun ys q i n => h _ _ _ (New.lst sub n i)⟩)
    · cases e
  · split at e
    · rename_i hok
      cases e
      obtain ⟨v, rfl, r'⟩ := r.one
      obtain ⟨p, ws, rfl, hp, hs⟩ := r'.tup
      obtain rfl := Vals.ref1 rv
      exact sorted_coll hu (gath_tup I sub (sub.seqT hp) hs ⟨hok, fun ys q i n => h _ _ _ (New.lst sub n i)⟩)
    · cases e
  · split at e
    · rename_i hok
      cases e
      obtain ⟨v, rfl, r'⟩ := r.one
      obtain ⟨p, rfl, hp⟩ := r'.scr
      obtain rfl := Vals.ref1 rv
      exact sorted_coll hu (gath_lst (F := F) I sub (sub.seq hp) (ints_data _) ⟨hok, fun ys q i n => h _ _ _ (New.lst sub n i)⟩)
    · cases e
  · split at e
    · rename_i ks _ hok
      cases e
      obtain ⟨v, rfl, r'⟩ := r.one
      obtain ⟨p, kvs, rfl, hp, hk, hs⟩ := r'.dct sub
      obtain rfl := Vals.ref1 rv
      refine sorted_coll (G := G) hu fun Qc k => ?_
      obtain ⟨z, lo, vs, rel, dd⟩ := dk_rd I.hok hp
      obtain ⟨ep, hat⟩ := dd.dictAt
      have ek : (kvs.map fun kv => kV kv.1) = vs.map fun p => kV p.1 := by
        have e := congrArg (List.map kV) rel.keys
        rw [List.map_map, List.map_map] at e
        exact e
      refine PySem.W.kdu_collect (A := X.A.in1) (PySem.W.kdl_dict (knd := mixKind X.prog X.w) (kvs := vs) (ep := ep) lo) (I.ok.hd hc) hat (by rw [← rel.length]; exact z) fun h' tk acc hk' hacc => ?_
      have hv : Vals (vs.map fun p => kV p.1) acc.toList := keys_at (by rw [Array.length_toList]; exact hacc.1) fun j v e => hacc.2 j v (by rw [← Array.getElem?_toList]; exact e)
      refine k _ acc.toList (kvs.map fun kv => kV kv.1) ks F H (I.kept (t' := tk) hk') (by rw [ek]; exact hv) ?_ sub ⟨hok, fun ys q i n => h _ _ _ (New.lst sub n i)⟩
      rw [← hk]
      exact keyd F kvs
    · cases e
  · cases e
where
  keyd {X : Cx} {G : Tab} (F : Hp) : ∀ kvs : List (Key × V), IsDs X.K G F (kvs.map fun kv => kV kv.1) (kvs.map fun p => kD p.1)
    | [] => .nil
    | (.inl i, _) :: r => .cons (.int i) (keyd F r)
    | (.inr x, _) :: r => .cons (.str x) (keyd F r)
end Pv
namespace Pv
open PySem PySem.Spec PyProof.Rows L2 PySem.W
/-! ### repr -/
mutual
def pyR : D → PyData
  | .non => .none
  | .bl b => .bool b
  | .int i => .int i
  | .str x => .str x
  | .tup xs => .tuple (pyRs xs)
  | .lst xs => .list (pyRs xs)
  | .dct _ _ => .dict [] | .fn _ => .none | .cls _ => .none | .ty _ => .none | .scr _ => .none | .exn _ => .none
def pyRs : List D → List PyData
  | [] => []
  | d :: ds => pyR d :: pyRs ds
end
mutual
/-- no list within; the dicts within are empty -/
def noL : D → Bool
  | .non => true | .bl _ => true | .int _ => true | .str _ => true
  | .tup xs => noLs xs
  | .dct [] [] => true
  | _ => false
def noLs : List D → Bool
  | [] => true
  | d :: ds => noL d && noLs ds
end
mutual
/-- numbers of at most 36 figures, texts of plain signs -/
def okP : D → Bool
  | .int i => decide (i.natAbs < 10 ^ 36)
  | .str x => x.cps.toList.all fun c => decide (c < 16 ^ 8)
  | .tup xs => okPs xs
  | .lst xs => okPs xs
  | .non => true | .bl _ => true | .dct _ _ => true | .fn _ => true | .cls _ => true | .ty _ => true | .scr _ => true | .exn _ => true
def okPs : List D → Bool
  | [] => true
  | d :: ds => okP d && okPs ds
end
mutual
def wgt : D → Nat
  | .str x => x.cps.size
  | .tup xs => wgts xs
  | .lst xs => wgts xs
  | .int _ => 120
  | .non => 0 | .bl _ => 0 | .dct _ _ => 0 | .fn _ => 0 | .cls _ => 0 | .ty _ => 0 | .scr _ => 0 | .exn _ => 0
def wgts : List D → Nat
  | [] => 0
  | d :: ds => wgt d + 1 + wgts ds
end
mutual
theorem pyR_of : ∀ d : D, can d = true → pyR d = py d
  | .non, _ => rfl | .bl _, _ => rfl | .int _, _ => rfl | .str _, _ => rfl
  | .tup xs, h => by simp only [pyR, py, pyRs_of xs (by simpa [can] using h)]
  | .lst xs, h => by simp only [pyR, py, pyRs_of xs (by simpa [can] using h)]
  | .dct _ _, h => by simp [can] at h
  | .fn _, h => by simp [can] at h
  | .cls _, h => by simp [can] at h
  | .ty _, h => by simp [can] at h
  | .scr _, h => by simp [can] at h
  | .exn _, h => by simp [can] at h
theorem pyRs_of : ∀ ds : List D, cans ds = true → pyRs ds = pys ds
  | [], _ => rfl
  | d :: ds, h => by
    simp only [cans, Bool.and_eq_true] at h
    simp only [pyRs, pys, pyR_of d h.1, pyRs_of ds h.2]
end
theorem big_int (i : Int) (h : i.natAbs < 10 ^ 36) : (PyData.shown (.int i)).length ≤ 40 := by
  simp only [PyData.shown]
  cases i with
  | ofNat n =>
    have := PyProof.Rows.toString_length_le (v := (Int.ofNat n)) (by simp) (k := 36) (by decide) (by simp at h; simp; omega)
    exact Nat.le_trans this (by decide)
  | negSucc n =>
    have h1 := PyProof.Rows.toString_length_le (v := (Int.ofNat (n + 1))) (Int.natCast_nonneg _) (k := 36) (by decide) (by simp at h ⊢; omega)
    have e : (toString (Int.negSucc n) : String) = "-" ++ (toString (Int.ofNat (n + 1)) : String) := rfl
    show (Str.ofString (toString (Int.negSucc n))).length ≤ 40
    rw [e, PyProof.Rows.ofString_length, String.toList_append, List.length_append]
    rw [PyProof.Rows.ofString_length] at h1
    have : ("-" : String).toList.length = 1 := rfl
    omega
mutual
theorem short_of : ∀ d : D, okP d = true → (pyR d).leavesShort 40 = true
  | .non, _ => by simp [pyR, PyData.leavesShort]
  | .bl _, _ => by simp [pyR, PyData.leavesShort]
  | .int i, h => by
    simp only [pyR, PyData.leavesShort, decide_eq_true_eq]
    exact big_int i (by simpa [okP] using h)
  | .str x, h => by
    simp only [pyR, PyData.leavesShort]
    simpa [okP] using h
  | .tup xs, h => by
    simp only [pyR, PyData.leavesShort]
    exact shorts_of xs (by simpa [okP] using h)
  | .lst xs, h => by
    simp only [pyR, PyData.leavesShort]
    exact shorts_of xs (by simpa [okP] using h)
  | .dct _ _, h => by simp [pyR, PyData.leavesShort, PyData.leavesShortKv]
  | .fn _, h => by simp [pyR, PyData.leavesShort]
  | .cls _, h => by simp [pyR, PyData.leavesShort]
  | .ty _, h => by simp [pyR, PyData.leavesShort]
  | .scr _, h => by simp [pyR, PyData.leavesShort]
  | .exn _, h => by simp [pyR, PyData.leavesShort]
theorem shorts_of : ∀ ds : List D, okPs ds = true → PyData.leavesShortAll 40 (pyRs ds) = true
  | [], _ => by simp [pyRs, PyData.leavesShortAll]
  | d :: ds, h => by
    simp only [okPs, Bool.and_eq_true] at h
    simp [pyRs, PyData.leavesShortAll, short_of d h.1, shorts_of ds h.2]
end
mutual
theorem show_of : ∀ d : D, okP d = true → (pyR d).showable = true
  | .non, _ => by simp [pyR, PyData.showable]
  | .bl _, _ => by simp [pyR, PyData.showable]
  | .int i, h => by
    simp only [pyR, PyData.showable, decide_eq_true_eq]
    have h' : i.natAbs < 10 ^ 36 := by simpa [okP] using h
    by_cases h0 : i.natAbs = 0
    · rw [h0]; decide
    · exact (Nat.log2_lt h0).mpr (Nat.lt_of_lt_of_le h' (by decide))
  | .str x, h => by simp [pyR, PyData.showable]
  | .tup xs, h => by
    simp only [pyR, PyData.showable]
    exact shows_of xs (by simpa [okP] using h)
  | .lst xs, h => by
    simp only [pyR, PyData.showable]
    exact shows_of xs (by simpa [okP] using h)
  | .dct _ _, h => by simp [pyR, PyData.showable, PyData.showableKv]
  | .fn _, h => by simp [pyR, PyData.showable]
  | .cls _, h => by simp [pyR, PyData.showable]
  | .ty _, h => by simp [pyR, PyData.showable]
  | .scr _, h => by simp [pyR, PyData.showable]
  | .exn _, h => by simp [pyR, PyData.showable]
theorem shows_of : ∀ ds : List D, okPs ds = true → PyData.showableAll (pyRs ds) = true
  | [], _ => by simp [pyRs, PyData.showableAll]
  | d :: ds, h => by
    simp only [okPs, Bool.and_eq_true] at h
    simp [pyRs, PyData.showableAll, show_of d h.1, shows_of ds h.2]
end
mutual
theorem wgt_of : ∀ d : D, okP d = true → (pyR d).weight ≤ wgt d
  | .non, _ => by simp [pyR, PyData.weight, wgt]
  | .bl _, _ => by simp [pyR, PyData.weight, wgt]
  | .int i, h => by
    have h' : i.natAbs < 10 ^ 36 := by simpa [okP] using h
    simp only [pyR, PyData.weight, wgt]
    split
    · omega
    · rename_i h0
      have h0' : i.natAbs ≠ 0 := by simpa using h0
      have := (Nat.log2_lt (k := 120) h0').mpr (Nat.lt_of_lt_of_le h' (by decide))
      omega
  | .str x, _ => by simp [pyR, PyData.weight, wgt]
  | .tup xs, h => by have := wgts_of xs (by simpa [okP] using h); simpa [pyR, PyData.weight, wgt] using this
  | .lst xs, h => by have := wgts_of xs (by simpa [okP] using h); simpa [pyR, PyData.weight, wgt] using this
  | .dct _ _, _ => by simp [pyR, PyData.weight, PyData.weightKv, wgt]
  | .fn _, _ => by simp [pyR, PyData.weight, wgt]
  | .cls _, _ => by simp [pyR, PyData.weight, wgt]
  | .ty _, _ => by simp [pyR, PyData.weight, wgt]
  | .scr _, _ => by simp [pyR, PyData.weight, wgt]
  | .exn _, _ => by simp [pyR, PyData.weight, wgt]
theorem wgts_of : ∀ ds : List D, okPs ds = true → PyData.weightAll (pyRs ds) ≤ wgts ds
  | [], _ => by simp [pyRs, PyData.weightAll, wgts]
  | d :: ds, h => by
    simp only [okPs, Bool.and_eq_true] at h
    have h1 := wgt_of d h.1
    have h2 := wgts_of ds h.2
    simp only [pyRs, PyData.weightAll, wgts]
    omega
end
mutual
theorem depR_of : ∀ d : D, (pyR d).depth ≤ dep d + 1
  | .non => by simp [pyR, PyData.depth]
  | .bl _ => by simp [pyR, PyData.depth]
  | .int i => by simp [pyR, PyData.depth]
  | .str x => by simp [pyR, PyData.depth]
  | .tup xs => by have := depRs_of xs; simp only [pyR, PyData.depth, dep]; omega
  | .lst xs => by have := depRs_of xs; simp only [pyR, PyData.depth, dep]; omega
  | .dct _ _ => by simp [pyR, PyData.depth, PyData.depthKv, dep]
  | .fn _ => by simp [pyR, PyData.depth]
  | .cls _ => by simp [pyR, PyData.depth]
  | .ty _ => by simp [pyR, PyData.depth]
  | .scr _ => by simp [pyR, PyData.depth]
  | .exn _ => by simp [pyR, PyData.depth]
theorem depRs_of : ∀ ds : List D, PyData.depthAll (pyRs ds) ≤ deps ds + 1
  | [] => by simp [pyRs, PyData.depthAll]
  | d :: ds => by have h1 := depR_of d; have h2 := depRs_of ds; simp only [pyRs, PyData.depthAll, deps]; omega
end
section
variable {X : Cx} {G : Tab} {F H : Hp} {s : Shared} {pins : List (Addr × Obj)} {σ : L2.St}
mutual
theorem readsN (I : Inv X pins σ H s) (sub : Same F H) : ∀ {v : V} {d : D} {u : Value}, IsD X.K G F v d → noL d = true → RelV v u → ∃ as, Reads s.heap u (pyR d) as ∧ sysModules ∉ as
  | _, _, _, .non, _, r => by cases r; exact ⟨_, .none, by simp⟩
  | _, _, _, .bl b, _, r => by cases r; exact ⟨_, .bool _, by simp⟩
  | _, _, _, .int i, _, r => by obtain ⟨t, rfl⟩ := r; exact ⟨_, .int _ _, by simp⟩
  | _, _, _, .str x, _, r => by obtain ⟨t, rfl⟩ := r; exact ⟨_, .str _ _, by simp⟩
  | _, _, _, .tup h hs, c, r => by
    cases r
    obtain ⟨its, rv, ⟨o, ho, hc, n, hd⟩, hz⟩ := I.tuple (sub.seqT h)
    obtain ⟨as, g, hn⟩ := readsNs I sub hs (by simpa [noL] using c) rv
    exact ⟨as, .tuple ho hc hd (by simpa using g), hn⟩
  | _, _, _, .lst _ _, c, _ => by simp [noL] at c
  | _, _, _, .scr _, c, _ => by simp [noL] at c
  | _, .dct ks ds, _, .dct (a := a) (kvs := kvs) h hk hs, c, r => by
    cases r
    have hk0 : kvs = [] := by
      cases kvs with
      | nil => rfl
      | cons q qs =>
        rw [← hk] at c
        simp [noL] at c
    subst hk0
    obtain ⟨z, lo, vs, rel, o, es, ep, ho, hx, hd, _, hp, _⟩ := dk_rd I.hok (sub.rd h)
    have hv : vs = [] := by
      have := rel.length
      cases vs with
      | nil => rfl
      | cons _ _ => simp at this
    subst hv
    have he : es.toList = [] := by cases e : es.toList with
      | nil => rfl
      | cons _ _ => rw [e] at hp; cases hp
    exact ⟨_, .dict (kvs := []) ho hx.1 hd (by rw [he]; exact .nil) (by rw [he]; exact .nil), by
      have : a ≠ sysModules := by simpa using lo
      simp; exact fun e => this e.symm⟩
  | _, _, _, .fn f, c, _ => by simp [noL] at c
  | _, _, _, .cls f, c, _ => by simp [noL] at c
  | _, _, _, .ty f, c, _ => by simp [noL] at c
  | _, _, _, .exn f, c, _ => by simp [noL] at c
theorem readsNs (I : Inv X pins σ H s) (sub : Same F H) : ∀ {vs : List V} {ds : List D} {us : List Value}, IsDs X.K G F vs ds → noLs ds = true → Vals vs us → ∃ as, ReadsAll s.heap us (pyRs ds) as ∧ sysModules ∉ as
  | _, _, _, .nil, _, r => by cases r; exact ⟨_, .nil, by simp⟩
  | _, _, _, .cons h t, c, r => by
    cases r with
    | cons r1 r2 =>
      simp only [noLs, Bool.and_eq_true] at c
      obtain ⟨as, g1, n1⟩ := readsN I sub h c.1 r1
      obtain ⟨bs, g2, n2⟩ := readsNs I sub t c.2 r2
      exact ⟨as ++ bs, .cons g1 g2, by simp [n1, n2]⟩
end
end
def okRep (d : D) : Bool := okP d && (can d || noL d) && decide (wgt d ≤ 100000) && decide (dep d ≤ 50)
def reprD (d : D) : Str := (pyR d).shown
@[simp] def reprQ : List D → Option A
  | [d] => if okRep d = true then some (.d (.str (reprD d))) else none
  | _ => none
theorem repr_ok {X : Cx} {G : Tab} (hg : X.A.guards = some []) (hu : X.A.units + 64 < cLine) : RulOk X.K G (rDir X (.builtin "repr")) reprQ := by
  intro F H vs xs a Q sub r e h pins s σ us I rv
  unfold reprQ at e
  split at e
  · split at e
    · rename_i d hok
      cases e
      obtain ⟨v, rfl, r'⟩ := r.one
      obtain ⟨u, rfl, ru⟩ := vals1 rv
      simp only [okRep, Bool.and_eq_true, Bool.or_eq_true, decide_eq_true_eq] at hok
      obtain ⟨⟨⟨h1, h2⟩, h3⟩, h4⟩ := hok
      have hd := r'.isD sub
      have fin : ∀ h' u' tk, (∀ b o, s.heap.get? b = some o → h'.get? b = some o) → EP X pins σ Q (.str (pyR d).shown u') { s with heap := h', toks := tk } := fun h' u' tk k => ⟨.str _, H, I.kept k, ⟨u', rfl⟩, h _ _ _ (New.old sub (.str _))⟩
      have hsz : (pyR d).shown.length ≤ sizeLine := by
        have := PyData.shown_le 40 (by decide) _ (short_of d h1)
        have hw := wgt_of d h1
        rw [← lim_eq]
        omega
      have hdep := depR_of d
      have go : ∀ as, Reads s.heap u (pyR d) as → ((pyR d).hasDict = true → sysModules ∉ as) → wpAny (model X.prog X.w) X.A (call (.builtin "repr") [u]) (EP X pins σ Q) X.xe s := by
        intro as rd hsm
        cases hd with
        | non => obtain rfl : u = Value.none := ru; exact P.repr_of_none (fin _ _ _ fun b o e => e)
        | bl b => obtain rfl : u = Value.bool b := ru; exact P.repr_of_bool (fin _ _ _ fun b o e => e)
        | int i => obtain ⟨t, rfl⟩ := ru; exact P.repr_of_int (of_decide_eq_true (show_of (.int i) h1)) (fin _ _ _ fun b o e => e)
        | str x => obtain ⟨t, rfl⟩ := ru; exact P.repr_of_str (fin _ _ _ fun b o e => e) hsz
        | fn f => simp [can, noL] at h2
        | cls f => simp [can, noL] at h2
        | ty f => simp [can, noL] at h2
        | exn f => simp [can, noL] at h2
        | scr f => simp [can, noL] at h2
        | tup _ _ => cases ru; exact repr_of_reads' rd (show_of _ h1) hsm hg (by omega) (fun b o e => e) fin hsz
        | lst _ _ => cases ru; exact repr_of_reads' rd (show_of _ h1) hsm hg (by omega) (fun b o e => e) fin hsz
        | dct _ _ _ => cases ru; exact repr_of_reads' rd (show_of _ h1) hsm hg (by omega) (fun b o e => e) fin hsz
      rcases h2 with h2 | h2
      · obtain ⟨as, rd⟩ := Dp.reads I _ v u (dp_of hd h2) ru
        rw [← pyR_of d h2] at rd
        exact go as rd fun hh => by
          have := PyData.hasDict_of_canLay _ (canLay_of d h2)
          rw [← pyR_of d h2] at this
          rw [this] at hh; cases hh
      · obtain ⟨as, rd, hn⟩ := readsN I (Same.refl H) hd h2 ru
        exact go as rd fun _ => hn
    · cases e
  · cases e
end Pv

namespace Pv
open PySem PySem.Spec PyProof.Rows L2 PySem.W
/-! ### min, max of what is alike -/
mutual
theorem py_inj : ∀ x y : D, can x = true → can y = true → py x = py y → x = y
  | x, .non, hx, _, e => by cases x <;> simp [py, can] at e hx ⊢
  | x, .bl b, hx, _, e => by cases x <;> simp [py, can] at e hx ⊢; exact e
  | x, .int b, hx, _, e => by cases x <;> simp [py, can] at e hx ⊢; exact e
  | x, .str b, hx, _, e => by cases x <;> simp [py, can] at e hx ⊢; exact e
  | x, .tup ys, hx, hy, e => by
    cases x with
    | tup xs =>
      simp only [py, PyData.tuple.injEq] at e
      rw [pys_inj xs ys (by simpa [can] using hx) (by simpa [can] using hy) e]
    | _ => simp [py, can] at e hx
  | x, .lst ys, hx, hy, e => by
    cases x with
    | lst xs =>
      simp only [py, PyData.list.injEq] at e
      rw [pys_inj xs ys (by simpa [can] using hx) (by simpa [can] using hy) e]
    | _ => simp [py, can] at e hx
  | _, .dct _ _, _, hy, _ => by simp [can] at hy
  | _, .fn _, _, hy, _ => by simp [can] at hy
  | _, .cls _, _, hy, _ => by simp [can] at hy
  | _, .ty _, _, hy, _ => by simp [can] at hy
  | _, .scr _, _, hy, _ => by simp [can] at hy
  | _, .exn _, _, hy, _ => by simp [can] at hy
theorem pys_inj : ∀ xs ys : List D, cans xs = true → cans ys = true → pys xs = pys ys → xs = ys
  | [], [], _, _, _ => rfl
  | [], _ :: _, _, _, e => by simp [pys] at e
  | _ :: _, [], _, _, e => by simp [pys] at e
  | x :: xs, y :: ys, hx, hy, e => by
    simp only [cans, Bool.and_eq_true] at hx hy
    simp only [pys, List.cons.injEq] at e
    rw [py_inj x y hx.1 hy.1 e.1, pys_inj xs ys hx.2 hy.2 e.2]
end
def minL (x : D) (xs : List D) : D := xs.foldl (fun a y => if ltd y a = true then y else a) x
def maxL (x : D) (xs : List D) : D := xs.foldl (fun a y => if ltd a y = true then y else a) x
theorem minL_py : ∀ (xs : List D) (x : D), py (minL x xs) = minD (py x) (pys xs)
  | [], x => rfl
  | y :: ys, x => by
    have := minL_py ys (if ltd y x = true then y else x)
    unfold minL minD at this ⊢
    simp only [pys, List.foldl_cons]
    rw [this]
    congr 1
    unfold ltd
    split <;> rfl
theorem maxL_py : ∀ (xs : List D) (x : D), py (maxL x xs) = maxD (py x) (pys xs)
  | [], x => rfl
  | y :: ys, x => by
    have := maxL_py ys (if ltd x y = true then y else x)
    unfold maxL maxD at this ⊢
    simp only [pys, List.foldl_cons]
    rw [this]
    congr 1
    unfold ltd
    split <;> rfl
theorem minL_mem : ∀ (xs : List D) (x : D), minL x xs ∈ x :: xs
  | [], x => by simp [minL]
  | y :: ys, x => by
    have := minL_mem ys (if ltd y x = true then y else x)
    unfold minL at this ⊢
    simp only [List.foldl_cons]
    rcases List.mem_cons.mp this with h | h
    · rw [h]; split <;> simp
    · simp [h]
theorem maxL_mem : ∀ (xs : List D) (x : D), maxL x xs ∈ x :: xs
  | [], x => by simp [maxL]
  | y :: ys, x => by
    have := maxL_mem ys (if ltd x y = true then y else x)
    unfold maxL at this ⊢
    simp only [List.foldl_cons]
    rcases List.mem_cons.mp this with h | h
    · rw [h]; split <;> simp
    · simp [h]
def mmL (mx : Bool) (x : D) (xs : List D) : D := if mx then maxL x xs else minL x xs
def mmN (mx : Bool) : String := if mx then "max" else "min"
def okMM (ds : List D) : Bool := cans ds && decide (deps ds ≤ 60) && (ds.all fun d => ds.all fun e => alike (py d) (py e)) && ds.all fun d => !isNon d
@[simp] def seqOf : D → Option (List D)
  | .lst ds => some ds
  | .tup ds => some ds
  | .scr ns => some (ns.map .int)
  | _ => none
section
variable {X : Cx} {G : Tab} {F H : Hp} {s : Shared} {pins : List (Addr × Obj)} {σ : L2.St}
theorem okMM_al {ds : List D} (h : okMM ds = true) : AlikeAll (pys ds) ∧ cans ds = true ∧ deps ds ≤ 60 := by
  simp only [okMM, Bool.and_eq_true, decide_eq_true_eq] at h
  obtain ⟨⟨⟨h1, h2⟩, h3⟩, h4⟩ := h
  refine ⟨⟨?_, fun x hx => ?_⟩, h1, h2⟩
  · rw [pys_map]; exact alike_of h3
  · rw [pys_map] at hx
    obtain ⟨d, hd, rfl⟩ := List.mem_map.mp hx
    have a := List.all_eq_true.mp h4 d hd
    have b := cans_mem h1 d hd
    cases d <;> simp [py, isNon, can] at a b ⊢
/-- a list or a tuple, its values as data -/
def SeqIs (X : Cx) (s : Shared) (u : Value) (us : List Value) : Prop := (∃ l, u = .ref l ∧ s.heap.IsList l us.toArray) ∨ ∃ l, u = .ref l ∧ s.heap.IsTuple l us.toArray
theorem seq_is (I : Inv X pins σ H s) (sub : Same F H) {v : V} {d : D} {ds : List D} {u : Value} (h : Fl X.K G F H v d) (e : seqOf d = some ds) (r : RelV v u) : ∃ vs us, SeqIs X s u us ∧ Vals vs us ∧ IsDs X.K G F vs ds ∧ us.length ≤ 16777216 := by
  unfold seqOf at e
  split at e
  · cases e
    obtain ⟨p, ws, rfl, hp, hs⟩ := h.lst sub
    cases r
    obtain ⟨its, rv, hl, hz⟩ := I.list (SqL.of hp)
    exact ⟨ws, its, .inl ⟨p, rfl, hl.isList⟩, rv, hs, by rw [← rv.length, lim_eq]; exact hz⟩
  · cases e
    obtain ⟨p, ws, rfl, hp, hs⟩ := h.tup
    cases r
    obtain ⟨its, rv, ⟨o, ho, hc, n, hd⟩, hz⟩ := I.tuple (sub.seqT hp)
    exact ⟨ws, its, .inr ⟨p, rfl, ⟨o, ho, hc, n, hd⟩⟩, rv, hs, by rw [← rv.length, lim_eq]; exact hz⟩
  · cases e
    obtain ⟨p, rfl, hp⟩ := h.scr
    cases r
    obtain ⟨its, rv, hl, hz⟩ := I.list (sub.seq hp)
    exact ⟨_, its, .inl ⟨p, rfl, hl.isList⟩, rv, ints_data _, by rw [← rv.length, lim_eq]; exact hz⟩
  · cases e
theorem reads_seq (I : Inv X pins σ H s) (sub : Same F H) {vs : List V} {us : List Value} {ds : List D} (rv : Vals vs us) (hs : IsDs X.K G F vs ds) (hc : cans ds = true) : ∃ as, ReadsAll s.heap us.toArray.toList (pys ds) as := by
  obtain ⟨as, h⟩ := each_readsAll (h := s.heap) py (each_reads I sub rv hs hc)
  rw [← pys_map] at h
  exact ⟨as, by simpa using h⟩
/-- an item found by its data -/
theorem item_is (I : Inv X pins σ H s) (sub : Same F H) {vs : List V} {us : List Value} {ds : List D} (rv : Vals vs us) (hs : IsDs X.K G F vs ds) (hc : cans ds = true) (hal : AlikeAll (pys ds)) {i : Nat} {u : Value} {m : D} (hm : m ∈ ds) (hu : us.toArray[i]? = some u) {h' : Heap} (k : ∀ b o, s.heap.get? b = some o → h'.get? b = some o) {bs : List Addr} (r : Reads h' u (py m) bs) :
    ∃ v, RelV v u ∧ IsD X.K G F v m := by
  have hu' : us[i]? = some u := by simpa using hu
  obtain ⟨v, hv, rvu⟩ : ∃ v, vs[i]? = some v ∧ RelV v u := by
    have := rv.length
    have hi : i < us.length := (List.getElem?_eq_some_iff.mp hu').1
    have hiv : i < vs.length := by omega
    obtain ⟨w, e, rw'⟩ := rv.get (List.getElem?_eq_getElem hiv)
    rw [hu'] at e; cases e
    exact ⟨_, List.getElem?_eq_getElem hiv, rw'⟩
  obtain ⟨d, hd, id⟩ := hs.getV hv
  have hdm : d ∈ ds := List.mem_of_getElem? hd
  obtain ⟨as, ra⟩ := Dp.reads I _ v u (dp_of (id.mono sub) (cans_mem hc d hdm)) rvu
  have e := alike_unique _ _ _ _ _ (hal.1 _ (by rw [pys_map]; exact List.mem_map.mpr ⟨d, hdm, rfl⟩) _ (by rw [pys_map]; exact List.mem_map.mpr ⟨m, hm, rfl⟩)) (PyProof.Rows.Reads.keeps k ra) r
  exact ⟨v, rvu, py_inj d m (cans_mem hc d hdm) (cans_mem hc m hm) e ▸ id⟩
@[simp] def mmQ (mx : Bool) : List D → Option A
  | [d] => match seqOf d with
    | some (x :: xs) => if okMM (x :: xs) = true then some (.d (mmL mx x xs)) else none
    | _ => none
  | _ => none
theorem mm_ok (hc : X.calm = true) (hu : X.A.units + 64 < cLine) (mx : Bool) : RulOk X.K G (rDir X (.builtin (mmN mx))) (mmQ mx) := by
  intro F H vs xs a Q sub r e h pins s σ us I rv
  unfold mmQ at e
  split at e
  · rename_i d
    split at e
    · rename_i x xs eq
      split at e
      · rename_i hok
        cases e
        obtain ⟨v, rfl, r'⟩ := r.one
        obtain ⟨u, rfl, ru⟩ := vals1 rv
        obtain ⟨ws, its, sq, rw', rs, hz⟩ := seq_is I sub r' eq ru
        obtain ⟨hal, hcn, hdp⟩ := okMM_al hok
        obtain ⟨as, rd⟩ := reads_seq I sub rw' rs hcn
        have hb : X.A.units + 1 + PyData.depthAll (py x :: pys xs) < cLine := by
          have := deps_of (x :: xs)
          simp only [pys] at this
          omega
        have hh := I.ok.hd hc
        have fin : ∀ (m : D) (i : Nat) (v : Value) (h' : Heap) (tk : Nat) (bs : List Addr), m ∈ x :: xs → its.toArray[i]? = some v → Reads h' v (py m) bs → (∀ b o, s.heap.get? b = some o → h'.get? b = some o) → m = mmL mx x xs → EP X pins σ Q v { s with heap := h', toks := tk } := by
          intro m i v h' tk bs hm hv hr hk em
          obtain ⟨w, rw1, iw⟩ := item_is I sub rw' rs hcn hal hm hv hk hr
          exact ⟨w, H, I.kept hk, rw1, h _ _ _ (New.old sub (em ▸ iw))⟩
        cases mx with
        | true =>
          have mm : maxL x xs ∈ x :: xs := maxL_mem xs x
          rcases sq with ⟨l, rfl, hl⟩ | ⟨l, rfl, hl⟩
          · exact max_list_data hh hl rd hal hb fun i v h' tk bs hv hr hk => fin _ i v h' tk bs mm hv (by rw [maxL_py]; exact hr) hk rfl
          · exact max_tuple_data hh hl rd hal hb fun i v h' tk bs hv hr hk => fin _ i v h' tk bs mm hv (by rw [maxL_py]; exact hr) hk rfl
        | false =>
          have mm : minL x xs ∈ x :: xs := minL_mem xs x
          rcases sq with ⟨l, rfl, hl⟩ | ⟨l, rfl, hl⟩
          · exact min_list_data hh hl rd hal hb fun i v h' tk bs hv hr hk => fin _ i v h' tk bs mm hv (by rw [minL_py]; exact hr) hk rfl
          · exact min_tuple_data hh hl rd hal hb fun i v h' tk bs hv hr hk => fin _ i v h' tk bs mm hv (by rw [minL_py]; exact hr) hk rfl
      · cases e
    · cases e
  · cases e
/-- max(e, default=k), k written -/
@[simp] def mmdD (mx : Bool) (k d : D) : Option A := match seqOf d with
  | some [] => some (.d k)
  | some (x :: xs) => if okMM (x :: xs) = true then some (.d (mmL mx x xs)) else none
  | none => none
variable {W : WX} {a c : Expr} {fa : SemE} {pos p kp : Pos}
@[simp] def mmdS (mx : Bool) (k : D) (f : SemE) : SemE := fun ρ => (f ρ).bind fun u ρ1 => match viewU ρ1 u with
  | some d => outA (mmdD mx k d) ρ1
  | none => .bad
theorem ee_mmd {x : Str} (hc : X.calm = true) (hu : X.A.units + 64 < cLine) {mx : Bool} {k : D} {kv : V} (hg : Gl X x) (hm : X.mg x = none) (hv : bootBuiltins x = some (.builtin (mmN mx))) (hn : x ≠ "__name__") (hdb : (x == ("__debug__" : Str)) = false) (ha : EE X G W a fa) (hs : starless a = true) (hk : PE X c (tC kv)) (hkd : ∀ F, IsD X.K G F kv k) :
    EE X G W (.Call (.Name x p) [a] [⟨some "default", c, kp⟩] pos) (mmdS mx k fa) := by
  obtain ⟨t, pa, qa⟩ := ha.ex
  have hst : starEach [a] X.env = (false, eval a X.env) :: starEach [] X.env := starEach_c hs _ _
  have hcall : CallRK X (.builtin (mmN mx)) [Str.ofString "default"] (fun xs zs H Q => ∀ (pins : List (Addr × Obj)) (s : Shared) (σ : L2.St) (us ws : List Value), Inv X pins σ H s → Vals xs us → Vals zs ws → wpAny (model X.prog X.w) X.A (call (.builtin (mmN mx)) us ([Str.ofString "default"].zip ws)) (EP X pins σ Q) X.xe s) :=
    fun pins s σ H xs zs us ws Q I r r' h => h pins s σ us ws I r r'
  refine ⟨_, pe_callBK hcall hg hm hv (pa_cons pa pa_nil hst) (pk_cons hk pk_nil) hn hdb (by rw [hst]; rfl) (by rw [hst]; rfl) rfl rfl rfl, fun σ H ρ F fp Q S h => ?_⟩
  refine qa σ H ρ F fp _ S (h.bind fun u ρ1 v F1 fp1 H1 _ e1 S1 r1 h1 => ?_)
  intro pins s σ' us ws I rv rz
  split at h1
  · rename_i d ed
    have r' := fl_of S1 r1 ed
    obtain ⟨u', rfl, ru⟩ := vals1 rv
    obtain ⟨z, rfl, rzz⟩ := vals1 rz
    have sub := S1.sub
    unfold mmdD at h1
    split at h1
    · rename_i eq
      obtain ⟨wsv, its, sq, rw', rs, hz⟩ := seq_is I sub r' eq ru
      cases rs
      cases rw'
      have fin : ∀ h' tk, (∀ b o, s.heap.get? b = some o → h'.get? b = some o) → EP X pins σ' Q z { s with heap := h', toks := tk } := fun h' tk kk => ⟨kv, H1, I.kept kk, rzz, h1.nowD S1 (hkd _)⟩
      have hal : AlikeAll [] := ⟨fun x hx => by simp at hx, fun x hx => by simp at hx⟩
      have hb : X.A.units + 1 + PyData.depthAll [] < cLine := by simp [PyData.depthAll]; omega
      cases mx with
      | true =>
        rcases sq with ⟨l, rfl, hl⟩ | ⟨l, rfl, hl⟩
        · exact max_list_default (I.ok.hd hc) hl (.nil : ReadsAll s.heap [] [] []) hal hb (fun _ => fin) fun y ys i v h' tk bs e => by cases e
        · exact max_tuple_default (I.ok.hd hc) hl (.nil : ReadsAll s.heap [] [] []) hal hb (fun _ => fin) fun y ys i v h' tk bs e => by cases e
      | false =>
        rcases sq with ⟨l, rfl, hl⟩ | ⟨l, rfl, hl⟩
        · exact min_list_default (I.ok.hd hc) hl (.nil : ReadsAll s.heap [] [] []) hal hb (fun _ => fin) fun y ys i v h' tk bs e => by cases e
        · exact min_tuple_default (I.ok.hd hc) hl (.nil : ReadsAll s.heap [] [] []) hal hb (fun _ => fin) fun y ys i v h' tk bs e => by cases e
    · rename_i x xs eq
      split at h1
      · rename_i hok
        obtain ⟨wsv, its, sq, rw', rs, hz⟩ := seq_is I sub r' eq ru
        obtain ⟨hal, hcn, hdp⟩ := okMM_al hok
        obtain ⟨as, rd⟩ := reads_seq I sub rw' rs hcn
        have hb : X.A.units + 1 + PyData.depthAll (py x :: pys xs) < cLine := by
          have := deps_of (x :: xs)
          simp only [pys] at this
          omega
        have hh := I.ok.hd hc
        have fin : ∀ (m : D) (i : Nat) (v : Value) (h' : Heap) (tk : Nat) (bs : List Addr), m ∈ x :: xs → its.toArray[i]? = some v → Reads h' v (py m) bs → (∀ b o, s.heap.get? b = some o → h'.get? b = some o) → m = mmL mx x xs → EP X pins σ' Q v { s with heap := h', toks := tk } := by
          intro m i v h' tk bs hm hv hr hk em
          obtain ⟨w, rw1, iw⟩ := item_is I sub rw' rs hcn hal hm hv hk hr
          exact ⟨w, H1, I.kept hk, rw1, h1.nowD S1 (em ▸ iw)⟩
        cases mx with
        | true =>
          have mm : maxL x xs ∈ x :: xs := maxL_mem xs x
          rcases sq with ⟨l, rfl, hl⟩ | ⟨l, rfl, hl⟩
          · exact max_list_default hh hl rd hal hb (fun e => by cases e) fun y ys i v h' tk bs e hv hr hk => by cases e; exact fin _ i v h' tk bs mm hv (by rw [maxL_py]; exact hr) hk rfl
          · exact max_tuple_default hh hl rd hal hb (fun e => by cases e) fun y ys i v h' tk bs e hv hr hk => by cases e; exact fin _ i v h' tk bs mm hv (by rw [maxL_py]; exact hr) hk rfl
        | false =>
          have mm : minL x xs ∈ x :: xs := minL_mem xs x
          rcases sq with ⟨l, rfl, hl⟩ | ⟨l, rfl, hl⟩
          · exact min_list_default hh hl rd hal hb (fun e => by cases e) fun y ys i v h' tk bs e hv hr hk => by cases e; exact fin _ i v h' tk bs mm hv (by rw [minL_py]; exact hr) hk rfl
          · exact min_tuple_default hh hl rd hal hb (fun e => by cases e) fun y ys i v h' tk bs e hv hr hk => by cases e; exact fin _ i v h' tk bs mm hv (by rw [minL_py]; exact hr) hk rfl
      · exact h1.elim
    · exact h1.elim
  · exact h1.elim
end
end Pv

namespace Pv
open PySem PySem.Spec PyProof.Rows L2
/-! ### set(xs), of a list, of a tuple: the loop's work is told by the kind of the items -/
def freshSet (w : World) : Obj := { cls := .type "set", dict := none, data := .set #[] 0 (.fresh 0 0 (!w.params.followText "set-order")) }
/-- the loop of set.update makes, out of the new set at S, a set of which P holds -/
def SetLoop (prog : Program) (w : World) (A : Around) (h0 : Heap) (n : Nat) (items : Array Value) (P : Heap → Addr → Prop) : Prop :=
  ∀ {I : Addr} {fp wr : List Addr} {G : Array GenState → Array GenState → Prop} {Pv : Nat → Value → Prop} {St : Nat → Shared → Prop} (W : WalksS prog w A.in1 I fp wr G n Pv St) (S : Addr) (s : Shared) (R : Result → Shared → Prop),
    S ∉ fp → (∀ i v, Pv i v → items[i]? = some v) → (∀ b ∈ wr, h0.get? b = none) → h0.get? S = none → (∀ b o, h0.get? b = some o → s.heap.get? b = some o) → St 0 s → s.heap.get? S = some (freshSet w) →
    (∀ s', Moved (S :: wr) G s s' → P s'.heap S → R (.ok (.ret .none)) s') → codeAny (model prog w) A (.builtin "set.update.loop" ⟨[.ref S, .ref I], []⟩) R s
section
variable {P : Program} {w : World} {A : Around} {E : Value → Shared → Prop} {s : Shared}
set_option maxRecDepth 100000 in
set_option maxHeartbeats 3200000 in
theorem call_set_list {l : Addr} {items : Array Value} {PS : Heap → Addr → Prop} {Q : Value → Shared → Prop} (hh : A.handled = none) (hl : s.heap.IsList l items) (loop : SetLoop P w A.in1.in1 s.heap items.size items PS)
    (h : ∀ (h' : Heap) (tk : Nat), PS h' s.heap.objs.size → (∀ b o, s.heap.get? b = some o → h'.get? b = some o) → Q (.ref s.heap.objs.size) { s with heap := h', toks := tk }) :
    wpAny (model P w) A (call (.type "set") [.ref l]) Q E s := by
  obtain ⟨c, tl, hmro⟩ := F.called_set.mro
  have hmade := F.called_set.made
  have hsub := F.called_set.sub
  refine wpAny_call (codeAny_of_tree ?_)
  show wpAny _ _ (callAny (.type "set") _) _ _ _
  refine wpAny_pure ⟨Code.quiet_builtin _ (by decide +kernel), codeAny_builtin F.entry_type_call ?_⟩
  rw [Around.under_plain (weight_type_call_type "set" [.ref l] []) rfl]
  have h1 := F.called_set.notType
  have h2 := F.called_set.canCreate
  have hct := F.typeCall_set_1 (.ref l)
  repeat (any_goals (first | assumption | wp_step))
  refine codeAny_mono (code_set_led1 (.ref l) (E := E) (Q₁ := fun obj s₁ => obj = .ref s.heap.objs.size ∧ s₁ = { s with heap := s.heap.push (freshSet w) }) ⟨rfl, rfl⟩) fun r s₁ hr => ?_
  cases r with
  | error e => exact hr
  | ok fl =>
    cases fl with
    | ret obj =>
      obtain ⟨rfl, rfl⟩ := hr
      have hS : (s.heap.push (freshSet w)).get? s.heap.objs.size = some (freshSet w) := Heap.get?_push_size _ rfl
      have hT : Shared.TypeIs { s with heap := s.heap.push (freshSet w) } (.ref s.heap.objs.size) "set" := ⟨_, hS, rfl⟩
      have hli := F.called_set.init.lookup
      have hbi := F.called_set.init.bind (.ref s.heap.objs.size)
      repeat (any_goals (first | assumption | wp_step))
      refine codeAny_mono (codeAny_call_builtin (R := wants (fun r s₂ => r = .none ∧ ∃ h' tk, s₂ = { s with heap := h', toks := tk } ∧ PS h' s.heap.objs.size ∧
          (∀ b o, s.heap.get? b = some o → h'.get? b = some o)) E) F.called_set.init.plain F.entry_set_init (check_set_init_1 hT ?_)) fun r₂ s₂ hr₂ => ?_
      · obtain ⟨ol, hol, hcl, nl, hdl⟩ := hl
        obtain ⟨ocls, odict, odata, oslots⟩ := ol
        simp only at hcl hdl
        subst hcl; subst hdl
        have hol' : (s.heap.push (freshSet w)).get? l = some { cls := .type "list", dict := odict, data := .seq items nl, slots := oslots } := Heap.get?_push_of_some _ hol
        have hsls := F.sub_list_set
        have hslf := F.sub_list_frozenset
        have hne : (Value.type "list" == Value.type "dict") = false := by decide
        have hl1 : (s.heap.push (freshSet w)).IsList l items := ⟨_, hol', rfl, nl, rfl⟩
        unfold Builtin.«set.__init__» noKeywords Builtin.Frozenset.updateFrom
        generalize hPI : pyIter = PI
        wp_walk
        subst hPI
        refine wpAny_pyIter_list hl1 ?_
        refine wpAny_bind (wpAny_runValue ?_)
        have hlS : l < s.heap.objs.size := Heap.lt_size hol
        have hh3 : A.in1.in1.in1.handled = none := by simp [hh]
        have hneI : l ≠ (s.heap.push (freshSet w)).objs.size := by
          rw [Heap.size_push]; exact Nat.ne_of_lt (Nat.lt_succ_of_lt hlS)
        have hSf : s.heap.objs.size ∉ [(s.heap.push (freshSet w)).objs.size, l] := by
          rw [Heap.size_push]; simp only [List.mem_cons, List.mem_singleton, List.not_mem_nil, or_false, not_or]
          exact ⟨Nat.ne_of_lt (Nat.lt_succ_self _), Nat.ne_of_gt hlS⟩
        have none_of : ∀ b, s.heap.objs.size ≤ b → s.heap.get? b = none := fun b hb => by
          cases q : s.heap.get? b with
          | none => rfl
          | some o => exact absurd (Nat.lt_of_lt_of_le (Heap.lt_size q) hb) (Nat.lt_irrefl _)
        refine loop ((Walks.list hh3 _ l hneI items).toS) s.heap.objs.size _ _ hSf (fun i v hv => hv) (fun b hb => none_of b (by
            rw [List.mem_singleton.mp hb, Heap.size_push]
            exact Nat.le_succ _)) (none_of _ (Nat.le_refl _)) (fun b o e => Heap.get?_push_of_some _ (Heap.get?_push_of_some _ e))
          ⟨⟨_, Heap.get?_push_size _ rfl, rfl, rfl⟩, (hl1.push _)⟩ (Heap.get?_push_of_some _ hS) ?hR
        case hR =>
          intro s' hm hP
          obtain ⟨h', g2, d', tk', os'⟩ := s'
          have eg : g2 = s.gens := hm.gens
          have ed : d' = s.drawn := hm.drawn
          have eo : os' = s.os := hm.os
          subst eg; subst ed; subst eo
          show wpAny _ _ _ _ _ _
          refine wpAny_pure ?_
          show wpAny _ _ (ret Value.none) _ _ _
          refine wpAny_pure ⟨rfl, h', tk', rfl, hP, fun b o e => ?_⟩
          have hb0 : b < s.heap.objs.size := Heap.lt_size e
          have hb1 : b ≠ s.heap.objs.size := Nat.ne_of_lt hb0
          have hb2 : b ≠ (s.heap.push (freshSet w)).objs.size := by
            rw [Heap.size_push]; exact Nat.ne_of_lt (Nat.lt_succ_of_lt hb0)
          exact hm.heap b o (by simp only [List.mem_cons, List.mem_singleton, List.not_mem_nil, or_false, not_or]; exact ⟨hb1, hb2⟩) (Heap.get?_push_of_some _ (Heap.get?_push_of_some _ e))
      · cases r₂ with
        | error e => exact hr₂
        | ok fl₂ =>
          cases fl₂ with
          | ret r =>
            obtain ⟨rfl, h', tk, rfl, hS', hk'⟩ := hr₂
            repeat (any_goals (first | assumption | wp_step))
            exact h _ _ hS' hk'
          | _ => exact hr₂.elim
    | _ => exact hr.elim
set_option maxRecDepth 100000 in
set_option maxHeartbeats 3200000 in
theorem call_set_tuple {l : Addr} {items : Array Value} {PS : Heap → Addr → Prop} {Q : Value → Shared → Prop} (hh : A.handled = none) (hl : s.heap.IsTuple l items) (loop : SetLoop P w A.in1.in1 s.heap items.size items PS)
    (h : ∀ (h' : Heap) (tk : Nat), PS h' s.heap.objs.size → (∀ b o, s.heap.get? b = some o → h'.get? b = some o) → Q (.ref s.heap.objs.size) { s with heap := h', toks := tk }) :
    wpAny (model P w) A (call (.type "set") [.ref l]) Q E s := by
  obtain ⟨c, tl, hmro⟩ := F.called_set.mro
  have hmade := F.called_set.made
  have hsub := F.called_set.sub
  refine wpAny_call (codeAny_of_tree ?_)
  show wpAny _ _ (callAny (.type "set") _) _ _ _
  refine wpAny_pure ⟨Code.quiet_builtin _ (by decide +kernel), codeAny_builtin F.entry_type_call ?_⟩
  rw [Around.under_plain (weight_type_call_type "set" [.ref l] []) rfl]
  have h1 := F.called_set.notType
  have h2 := F.called_set.canCreate
  have hct := F.typeCall_set_1 (.ref l)
  repeat (any_goals (first | assumption | wp_step))
  refine codeAny_mono (code_set_led1 (.ref l) (E := E) (Q₁ := fun obj s₁ => obj = .ref s.heap.objs.size ∧ s₁ = { s with heap := s.heap.push (freshSet w) }) ⟨rfl, rfl⟩) fun r s₁ hr => ?_
  cases r with
  | error e => exact hr
  | ok fl =>
    cases fl with
    | ret obj =>
      obtain ⟨rfl, rfl⟩ := hr
      have hS : (s.heap.push (freshSet w)).get? s.heap.objs.size = some (freshSet w) := Heap.get?_push_size _ rfl
      have hT : Shared.TypeIs { s with heap := s.heap.push (freshSet w) } (.ref s.heap.objs.size) "set" := ⟨_, hS, rfl⟩
      have hli := F.called_set.init.lookup
      have hbi := F.called_set.init.bind (.ref s.heap.objs.size)
      repeat (any_goals (first | assumption | wp_step))
      refine codeAny_mono (codeAny_call_builtin (R := wants (fun r s₂ => r = .none ∧ ∃ h' tk, s₂ = { s with heap := h', toks := tk } ∧ PS h' s.heap.objs.size ∧
          (∀ b o, s.heap.get? b = some o → h'.get? b = some o)) E) F.called_set.init.plain F.entry_set_init (check_set_init_1 hT ?_)) fun r₂ s₂ hr₂ => ?_
      · obtain ⟨ol, hol, hcl, nl, hdl⟩ := hl
        obtain ⟨ocls, odict, odata, oslots⟩ := ol
        simp only at hcl hdl
        subst hcl; subst hdl
        have hol' : (s.heap.push (freshSet w)).get? l = some { cls := .type "tuple", dict := odict, data := .seq items nl, slots := oslots } := Heap.get?_push_of_some _ hol
        have hsls := F.sub_tuple_set
        have hslf := F.sub_tuple_frozenset
        have hne : (Value.type "tuple" == Value.type "dict") = false := by decide
        have hl1 : (s.heap.push (freshSet w)).IsTuple l items := ⟨_, hol', rfl, nl, rfl⟩
        unfold Builtin.«set.__init__» noKeywords Builtin.Frozenset.updateFrom
        generalize hPI : pyIter = PI
        wp_walk
        subst hPI
        refine wpAny_pyIter_tuple hl1 ?_
        refine wpAny_bind (wpAny_runValue ?_)
        have hlS : l < s.heap.objs.size := Heap.lt_size hol
        have hh3 : A.in1.in1.in1.handled = none := by simp [hh]
        have hneI : l ≠ (s.heap.push (freshSet w)).objs.size := by
          rw [Heap.size_push]; exact Nat.ne_of_lt (Nat.lt_succ_of_lt hlS)
        have hSf : s.heap.objs.size ∉ [(s.heap.push (freshSet w)).objs.size, l] := by
          rw [Heap.size_push]; simp only [List.mem_cons, List.mem_singleton, List.not_mem_nil, or_false, not_or]
          exact ⟨Nat.ne_of_lt (Nat.lt_succ_self _), Nat.ne_of_gt hlS⟩
        have none_of : ∀ b, s.heap.objs.size ≤ b → s.heap.get? b = none := fun b hb => by
          cases q : s.heap.get? b with
          | none => rfl
          | some o => exact absurd (Nat.lt_of_lt_of_le (Heap.lt_size q) hb) (Nat.lt_irrefl _)
        refine loop ((Walks.tuple hh3 _ l hneI items).toS) s.heap.objs.size _ _ hSf (fun i v hv => hv) (fun b hb => none_of b (by
            rw [List.mem_singleton.mp hb, Heap.size_push]
            exact Nat.le_succ _)) (none_of _ (Nat.le_refl _)) (fun b o e => Heap.get?_push_of_some _ (Heap.get?_push_of_some _ e))
          ⟨⟨_, Heap.get?_push_size _ rfl, rfl, rfl⟩, (hl1.push _)⟩ (Heap.get?_push_of_some _ hS) ?hR
        case hR =>
          intro s' hm hP
          obtain ⟨h', g2, d', tk', os'⟩ := s'
          have eg : g2 = s.gens := hm.gens
          have ed : d' = s.drawn := hm.drawn
          have eo : os' = s.os := hm.os
          subst eg; subst ed; subst eo
          show wpAny _ _ _ _ _ _
          refine wpAny_pure ?_
          show wpAny _ _ (ret Value.none) _ _ _
          refine wpAny_pure ⟨rfl, h', tk', rfl, hP, fun b o e => ?_⟩
          have hb0 : b < s.heap.objs.size := Heap.lt_size e
          have hb1 : b ≠ s.heap.objs.size := Nat.ne_of_lt hb0
          have hb2 : b ≠ (s.heap.push (freshSet w)).objs.size := by
            rw [Heap.size_push]; exact Nat.ne_of_lt (Nat.lt_succ_of_lt hb0)
          exact hm.heap b o (by simp only [List.mem_cons, List.mem_singleton, List.not_mem_nil, or_false, not_or]; exact ⟨hb1, hb2⟩) (Heap.get?_push_of_some _ (Heap.get?_push_of_some _ e))
      · cases r₂ with
        | error e => exact hr₂
        | ok fl₂ =>
          cases fl₂ with
          | ret r =>
            obtain ⟨rfl, h', tk, rfl, hS', hk'⟩ := hr₂
            repeat (any_goals (first | assumption | wp_step))
            exact h _ _ hS' hk'
          | _ => exact hr₂.elim
    | _ => exact hr.elim

/-- whole numbers -/
theorem loop_ints (ns : List Int) {items : Array Value} (hi : IntsAre items.toList ns) (hb : ns.length + 1 < scanBound) : SetLoop P w A s.heap items.size items (fun h a => ∃ c, c ≤ ns.length ∧ SetR w h a (fun j => decide (j ∈ ns)) c) := by
  intro I fp wr G Pv St W S s1 R hSf hval hwr hS0 hk hst hfr hR
  have hn : items.size = ns.length := by
    have q := IntsAre.length hi
    rw [Array.length_toList] at q
    exact q
  refine set_update_ints W S hSf ns hn hb (fun i v hv => ?_) (items.size - 0) 0 s1 (by omega) (Nat.zero_le _) hst ⟨0, Nat.le_refl 0, setR_new_at hfr⟩ fun s' c hm hc hS' => hR s' hm ⟨c, by omega, hS'⟩
  have hv' := hval i v hv
  have hi' : i < ns.length := by rw [← hn]; exact (Array.getElem?_eq_some_iff.mp hv').1
  obtain ⟨t, e⟩ := PyProof.Rows.IntsAre.int_at hi i v (by rw [Array.getElem?_toList]; exact hv')
  refine ⟨ns[i], t, List.getElem?_eq_getElem hi', ?_⟩
  rw [e, List.getD_eq_getElem?_getD, List.getElem?_eq_getElem hi'] <;> rfl
/-- tuples of whole numbers -/
theorem loop_tups (ks : List (Addr × List Int)) {items : Array Value} (hi : items.toList = ks.map fun p => Value.ref p.1) (hk : ∀ p ∈ ks, IsT P w s.heap p.2 p.1) (hf : ks.length < 64) (hu : A.in1.units < cLine) :
    SetLoop P w A s.heap items.size items (fun h a => ∃ L es ep t, SetTR P w h a L es ep t ∧ Got ks ks.length L) := by
  intro I fp wr G Pv St W S s1 R hSf hval hwr hS0 hkp hst hfr hR
  have hn : items.size = ks.length := by
    have q := congrArg List.length hi
    rw [Array.length_toList, List.length_map] at q
    exact q
  refine set_update_tups W S hSf ks hn hf (fun i v hv => ?_) s.heap hk hS0 hwr hu (items.size - 0) 0 s1 (by omega) (Nat.zero_le _) hst hkp ⟨[], #[], 0, _, setTR_fresh hfr, Got.zero ks⟩ fun s' L es ep t hm hS' g k' => hR s' hm ⟨L, es, ep, t, hS', by rw [← hn]; exact g⟩
  have hv' := hval i v hv
  rw [← Array.getElem?_toList, hi, List.getElem?_map] at hv'
  cases e : ks[i]? with
  | none => rw [e] at hv'; cases hv'
  | some p => rw [e] at hv'; cases hv'; exact ⟨p, rfl, rfl⟩
end
end Pv

namespace Pv
open PySem PySem.Spec PyProof.Rows L2 PySem.W
/-! ### sorted(set(xs)), len(set(xs)) -/
def insU {α : Type} (lt : α → α → Bool) (k : α) : List α → List α
  | [] => [k]
  | x :: xs => if lt k x = true then k :: x :: xs else if lt x k = true then x :: insU lt k xs else x :: xs
/-- risen, each once -/
def usort {α : Type} (lt : α → α → Bool) : List α → List α
  | [] => []
  | k :: ks => insU lt k (usort lt ks)
/-- a strict order in which any two stand -/
structure Lin {α : Type} (lt : α → α → Bool) : Prop where
  ir : ∀ a, lt a a = false
  tr : ∀ a b c, lt a b = true → lt b c = true → lt a c = true
  tri : ∀ a b, lt a b = false → lt b a = false → a = b
section
variable {α : Type} {lt : α → α → Bool}
theorem mem_insU (L : Lin lt) (k y : α) : ∀ xs, y ∈ insU lt k xs ↔ y = k ∨ y ∈ xs
  | [] => by simp [insU]
  | x :: xs => by
    unfold insU
    split
    · simp
    · rename_i h1
      split
      · rw [List.mem_cons, mem_insU L k y xs, List.mem_cons]
        constructor
        · rintro (h | h | h)
          · exact .inr (.inl h)
          · exact .inl h
          · exact .inr (.inr h)
        · rintro (h | h | h)
          · exact .inr (.inl h)
          · exact .inl h
          · exact .inr (.inr h)
      · rename_i h2
        have e : k = x := L.tri k x (by simpa using h1) (by simpa using h2)
        subst e
        simp
theorem mem_usort (L : Lin lt) (y : α) : ∀ xs, y ∈ usort lt xs ↔ y ∈ xs
  | [] => by simp [usort]
  | x :: xs => by rw [usort, mem_insU L, mem_usort L y xs, List.mem_cons]
theorem insU_pw (L : Lin lt) (k : α) : ∀ xs, xs.Pairwise (fun a b => lt a b = true) → (insU lt k xs).Pairwise (fun a b => lt a b = true)
  | [], _ => by simp [insU]
  | x :: xs, h => by
    obtain ⟨h1, h2⟩ := List.pairwise_cons.mp h
    unfold insU
    split
    · rename_i hk
      refine List.pairwise_cons.mpr ⟨fun y hy => ?_, h⟩
      rcases List.mem_cons.mp hy with rfl | hy
      · exact hk
      · exact L.tr _ _ _ hk (h1 y hy)
    · split
      · rename_i hk
        refine List.pairwise_cons.mpr ⟨fun y hy => ?_, insU_pw L k xs h2⟩
        rcases (mem_insU L k y xs).mp hy with rfl | hy
        · exact hk
        · exact h1 y hy
      · exact h
theorem usort_pw (L : Lin lt) : ∀ xs, (usort lt xs).Pairwise (fun a b => lt a b = true)
  | [] => .nil
  | x :: xs => insU_pw L x _ (usort_pw L xs)
theorem usort_nodup (L : Lin lt) (xs : List α) : (usort lt xs).Nodup := (usort_pw L xs).imp fun {a b} h e => by rw [e, L.ir] at h; cases h
theorem usort_len (L : Lin lt) (xs : List α) : (usort lt xs).length ≤ xs.length := by
  have : ∀ k xs, (insU lt k xs).length ≤ xs.length + 1 := by
    intro k xs
    induction xs with
    | nil => simp [insU]
    | cons x xs ih =>
      unfold insU
      split
      · simp
      · split
        · simp; omega
        · simp
  induction xs with
  | nil => simp [usort]
  | cons x xs ih => rw [usort]; have := this x (usort lt xs); simp; omega
/-- what else is risen, each once, of the same -/
theorem usort_unique (L : Lin lt) {xs ys : List α} (h : ys.Pairwise fun a b => lt a b = true) (m : ∀ y, y ∈ ys ↔ y ∈ xs) : usort lt xs = ys := by
  have n1 := usort_nodup L xs
  have n2 : ys.Nodup := h.imp fun {a b} h e => by rw [e, L.ir] at h; cases h
  have p : (usort lt xs).Perm ys := (List.perm_ext_iff_of_nodup n1 n2).mpr fun a => by rw [mem_usort L, m]
  exact p.eq_of_pairwise (le := fun a b => lt a b = true) (fun a b _ _ h1 h2 => by have := L.tr _ _ _ h1 h2; rw [L.ir] at this; cases this) (usort_pw L xs) h
end
def ltI (a b : Int) : Bool := decide (a < b)
def ltT (a b : List Int) : Bool := decide (a < b)
theorem linI : Lin ltI := ⟨fun a => by simp [ltI], fun a b c h1 h2 => by simp [ltI] at *; omega, fun a b h1 h2 => by simp [ltI] at *; omega⟩
theorem linT : Lin ltT := ⟨fun a => by simp [ltT], fun a b c h1 h2 => by
  simp only [ltT, decide_eq_true_eq] at *
  exact List.lt_trans h1 h2, fun a b h1 h2 => by
  simp only [ltT, decide_eq_false_iff_not] at h1 h2
  exact List.le_antisymm (List.not_lt.mp h2) (List.not_lt.mp h1)⟩
/-! ### whole numbers, tuples of them -/
def toI : D → Option Int
  | .int i => some i
  | _ => none
def toIs : List D → Option (List Int)
  | [] => some []
  | d :: ds => match toI d, toIs ds with
    | some i, some is => some (i :: is)
    | _, _ => none
def toT : D → Option (List Int)
  | .tup ds => toIs ds
  | _ => none
def toTs : List D → Option (List (List Int))
  | [] => some []
  | d :: ds => match toT d, toTs ds with
    | some i, some is => some (i :: is)
    | _, _ => none
def tupI (k : List Int) : D := .tup (k.map .int)
theorem toIs_eq : ∀ {ds : List D} {is : List Int}, toIs ds = some is → ds = is.map .int
  | [], is, h => by simp [toIs] at h; subst h; rfl
  | d :: ds, is, h => by
    unfold toIs at h
    split at h
    · rename_i i js e1 e2
      cases h
      rw [toIs_eq e2]
      cases d <;> simp [toI] at e1
      rw [e1]; rfl
    · cases h
theorem toIs_map : ∀ is : List Int, toIs (is.map .int) = some is
  | [] => rfl
  | i :: is => by simp [toIs, toI, toIs_map is]
theorem toTs_eq : ∀ {ds : List D} {ks : List (List Int)}, toTs ds = some ks → ds = ks.map tupI
  | [], is, h => by simp [toTs] at h; subst h; rfl
  | d :: ds, is, h => by
    unfold toTs at h
    split at h
    · rename_i i js e1 e2
      cases h
      rw [toTs_eq e2]
      cases d <;> simp [toT] at e1
      rw [toIs_eq e1]; rfl
    · cases h
theorem toTs_map : ∀ ks : List (List Int), toTs (ks.map tupI) = some ks
  | [] => rfl
  | k :: ks => by simp [toTs, toT, tupI, toIs_map k]; rw [show (List.map tupI ks) = ks.map tupI from rfl, toTs_map ks]
@[simp] def setL (ds : List D) : Option (List D) := match toIs ds with
  | some ns => if ns.length ≤ 4000 then some ((usort ltI ns).map .int) else none
  | none => match toTs ds with
    | some ks => if ks.length < 64 ∧ ks.all (fun k => !k.isEmpty) = true then some ((usort ltT ks).map tupI) else none
    | none => none
theorem ltd_int (i j : Int) : ltd (.int i) (.int j) = ltI i j := by simp only [ltd, py, dataLt_int, ltI]
theorem pys_ints : ∀ k : List Int, pys (k.map .int) = k.map .int
  | [] => rfl
  | i :: k => by simp [pys, py, pys_ints k]
theorem ltd_tup (k l : List Int) : ltd (tupI k) (tupI l) = ltT k l := by
  simp only [ltd, tupI, py, pys_ints, dataLt_tuple]
  exact dataLt_ints k l
/-- a sort of what is mapped -/
theorem sortD_map {α : Type} {lt : α → α → Bool} (L : Lin lt) (f : α → D) (hf : ∀ a b, ltd (f a) (f b) = lt a b) (xs : List α) : sortD (xs.map f) = (xs.mergeSort fun a b => !lt b a).map f := by
  unfold sortD
  rw [List.map_mergeSort]
  intro a _ b _
  rw [hf]
theorem sortU {α : Type} {lt : α → α → Bool} (L : Lin lt) {xs zs : List α} (hn : zs.Nodup) (hm : ∀ a, a ∈ zs ↔ a ∈ xs) : zs.mergeSort (fun a b => !lt b a) = usort lt xs := by
  have pm := List.mergeSort_perm zs fun a b => !lt b a
  have sr := List.pairwise_mergeSort (le := fun a b => !lt b a) (fun a b c h1 h2 => by
    simp only [Bool.not_eq_true'] at *
    cases h : lt c a with
    | false => rfl
    | true =>
      cases h3 : lt b c with
      | true => have := L.tr _ _ _ h3 h; rw [this] at h1; cases h1
      | false =>
        have := L.tri _ _ h3 h2
        subst this
        rw [h] at h1; cases h1) (fun a b => by
    cases h : lt b a with
    | false => simp
    | true =>
      cases h3 : lt a b with
      | false => simp
      | true => have := L.tr _ _ _ h3 h; rw [L.ir] at this; cases this) zs
  have nd : (zs.mergeSort fun a b => !lt b a).Nodup := pm.nodup_iff.mpr hn
  refine (usort_unique L ?_ fun y => by rw [pm.mem_iff, hm]).symm
  have := sr.and nd
  refine this.imp fun {a b} h => ?_
  obtain ⟨h1, h2⟩ := h
  simp only [Bool.not_eq_true'] at h1
  cases h3 : lt a b with
  | true => rfl
  | false => exact absurd (L.tri _ _ h3 h1) h2
end Pv

namespace Pv
open PySem PySem.Spec PyProof.Rows L2 PySem.W
theorem perm_lift {α β : Type} {f : α → β} {xs ys : List β} (p : xs.Perm ys) : ∀ L : List α, ys = L.map f → ∃ L' : List α, L'.Perm L ∧ xs = L'.map f := by
  induction p with
  | nil => intro L e; cases L with
    | nil => exact ⟨[], .nil, rfl⟩
    | cons _ _ => cases e
  | cons x _ ih => intro L e; cases L with
    | nil => cases e
    | cons a L =>
      simp only [List.map_cons, List.cons.injEq] at e
      obtain ⟨L', p', e'⟩ := ih L e.2
      exact ⟨a :: L', .cons a p', by rw [List.map_cons, e.1, e']⟩
  | swap x y l => intro L e; cases L with
    | nil => cases e
    | cons a L => cases L with
      | nil => cases e
      | cons b L =>
        simp only [List.map_cons, List.cons.injEq] at e
        exact ⟨b :: a :: L, .swap a b L, by rw [List.map_cons, List.map_cons, e.1, e.2.1, e.2.2]⟩
  | trans _ _ ih1 ih2 =>
    intro L e
    obtain ⟨L2, p2, e2⟩ := ih2 L e
    obtain ⟨L1, p1, e1⟩ := ih1 L2 e2
    exact ⟨L1, p1.trans p2, e1⟩
theorem nodup_le {α : Type} [DecidableEq α] : ∀ (zs ns : List α), zs.Nodup → (∀ k ∈ zs, k ∈ ns) → zs.length ≤ ns.length
  | [], _, _, _ => Nat.zero_le _
  | z :: zs, ns, hn, h => by
    obtain ⟨h1, h2⟩ := List.nodup_cons.mp hn
    have hz := h z (List.mem_cons_self ..)
    have := nodup_le zs (ns.erase z) h2 fun k hk => (List.mem_erase_of_ne (fun e => h1 (by rw [← e]; exact hk))).mpr (h k (List.mem_cons_of_mem _ hk))
    have l := List.length_erase_of_mem hz
    have p := List.length_pos_of_mem hz
    simp only [List.length_cons]
    omega
section
variable {X : Cx} {G : Tab} {K : PySem.W.Frag} {F H : Hp} {s : Shared} {pins : List (Addr × Obj)} {σ : L2.St}
theorem isds_ints : ∀ {vs : List V} {ns : List Int}, IsDs K G F vs (ns.map .int) → vs = ns.map V.int
  | _, [], .nil => rfl
  | _, n :: ns, .cons h t => by
    cases h
    rw [isds_ints t]; rfl
theorem isds_tups : ∀ {vs : List V} {ks : List (List Int)}, IsDs K G F vs (ks.map tupI) → ∃ ps : List (Addr × List Int), vs = ps.map (fun p => V.ref p.1) ∧ ps.map (·.2) = ks ∧ ∀ p ∈ ps, SqT K F p.1 (p.2.map V.int)
  | _, [], .nil => ⟨[], rfl, rfl, fun p h => by cases h⟩
  | _, k :: ks, .cons h t => by
    obtain ⟨ps, e1, e2, e3⟩ := isds_tups t
    cases h with
    | tup hp hs =>
      have := isds_ints hs
      subst this
      exact ⟨(_, k) :: ps, by rw [e1]; rfl, by rw [← e2]; rfl, fun p hp' => by
        rcases List.mem_cons.mp hp' with rfl | hp'
        · exact hp
        · exact e3 p hp'⟩
theorem isds_of_tups : ∀ {ps : List (Addr × List Int)}, (∀ p ∈ ps, SqT K F p.1 (p.2.map V.int)) → IsDs K G F (ps.map fun p => V.ref p.1) ((ps.map (·.2)).map tupI)
  | [], _ => .nil
  | p :: ps, h => .cons (.tup (h p (List.mem_cons_self ..)) (ints_data _)) (isds_of_tups fun q hq => h q (List.mem_cons_of_mem _ hq))
theorem cans_ints : ∀ ns : List Int, cans (ns.map .int) = true
  | [] => rfl
  | _ :: ns => by simp [cans, can, cans_ints ns]
theorem cans_tups : ∀ ks : List (List Int), cans (ks.map tupI) = true
  | [] => rfl
  | k :: ks => by simp only [List.map_cons, cans, tupI, can, cans_ints, Bool.true_and]; exact cans_tups ks
theorem deps_ints' : ∀ ns : List Int, deps (ns.map .int) = 0
  | [] => rfl
  | _ :: ns => by simp [deps, dep, deps_ints' ns]
theorem deps_tups : ∀ ks : List (List Int), deps (ks.map tupI) ≤ 1
  | [] => by simp [deps]
  | k :: ks => by
    have := deps_tups ks
    simp only [List.map_cons, deps]
    have h2 : dep (tupI k) = 1 := by simp [tupI, dep, deps_ints']
    omega
theorem okSort_ints {ns : List Int} (h : ns.length ≤ 16777216) : okSort (ns.map .int) = true := by
  simp only [okSort, cans_ints, deps_ints', Bool.and_eq_true, Bool.or_eq_true, decide_eq_true_eq, List.length_map]
  refine ⟨⟨⟨⟨trivial, by omega⟩, ?_⟩, .inr ?_⟩, h⟩
  · simp [py, alike]
  · simp [odd]
theorem alike_tupI (k l : List Int) : alike (py (tupI k)) (py (tupI l)) = true := by
  simp only [tupI, py, pys_ints, alike, alike_ints]
theorem okSort_tups {ks : List (List Int)} (h : ks.length ≤ 16777216) (hne : ∀ k ∈ ks, k ≠ []) : okSort (ks.map tupI) = true := by
  have := deps_tups ks
  simp only [okSort, cans_tups, Bool.and_eq_true, Bool.or_eq_true, decide_eq_true_eq, List.length_map]
  refine ⟨⟨⟨⟨trivial, by omega⟩, ?_⟩, .inl ?_⟩, h⟩
  · refine List.all_eq_true.mpr fun d hd => List.all_eq_true.mpr fun e he => ?_
    obtain ⟨k, _, rfl⟩ := List.mem_map.mp hd
    obtain ⟨l, _, rfl⟩ := List.mem_map.mp he
    exact alike_tupI k l
  · refine List.all_eq_true.mpr fun d hd => ?_
    obtain ⟨k, hk, rfl⟩ := List.mem_map.mp hd
    cases k with
    | nil => exact absurd rfl (hne _ hk)
    | cons _ _ => rfl
/-- the set of what is in a list or a tuple, and then -/
theorem set_then (hc : X.calm = true) (hu : X.A.units + 64 < cLine) {v : V} {d : D} {ds out : List D} {u : Value} {Q : VK} {bn : String} {fin : List D → VK → Prop} (I : Inv X pins σ H s) (sub : Same F H) (r : Fl X.K G F H v d) (eq : seqOf d = some ds) (eo : setL ds = some out) (ru : RelV v u)
    (hI : ∀ ns s1 a c, toIs ds = some ns → Inv X pins σ H s1 → SetR X.w s1.heap a (fun j => decide (j ∈ ns)) c → wpAny (model X.prog X.w) X.A (call (.builtin bn) [.ref a]) (EP X pins σ Q) X.xe s1)
    (hT : ∀ (ps : List (Addr × List Int)) s1 a L es ep t, toTs ds = some (ps.map (·.2)) → (∀ p ∈ ps, SqT X.K F p.1 (p.2.map V.int)) → Inv X pins σ H s1 → SetTR X.prog X.w s1.heap a L es ep t → Got ps ps.length L → wpAny (model X.prog X.w) X.A (call (.builtin bn) [.ref a]) (EP X pins σ Q) X.xe s1) :
    wpAny (model X.prog X.w) X.A (call (.type "set") [u]) (fun v s' => wpAny (model X.prog X.w) X.A (call (.builtin bn) [v]) (EP X pins σ Q) X.xe s') X.xe s := by
  obtain ⟨vs, us, sq, rv, rs, hz⟩ := seq_is I sub r eq ru
  unfold setL at eo
  split at eo
  · rename_i ns e1
    split at eo
    · rename_i hn
      have e2 := toIs_eq e1
      subst e2
      have := isds_ints rs
      subst this
      have hi : IntsAre us.toArray.toList ns := by simpa using rv.ints
      have lp : SetLoop X.prog X.w X.A.in1.in1 s.heap us.toArray.size us.toArray (fun h a => ∃ c, c ≤ ns.length ∧ SetR X.w h a (fun j => decide (j ∈ ns)) c) := loop_ints ns hi (by unfold scanBound; omega)
      rcases sq with ⟨l, rfl, hl⟩ | ⟨l, rfl, hl⟩
      · exact call_set_list (PS := fun h a => ∃ c, c ≤ ns.length ∧ SetR X.w h a (fun j => decide (j ∈ ns)) c) (I.ok.hd hc) hl @lp fun h' tk ⟨c, _, hS⟩ hk => hI ns _ _ c e1 (I.kept (t' := tk) hk) hS
      · exact call_set_tuple (PS := fun h a => ∃ c, c ≤ ns.length ∧ SetR X.w h a (fun j => decide (j ∈ ns)) c) (I.ok.hd hc) hl @lp fun h' tk ⟨c, _, hS⟩ hk => hI ns _ _ c e1 (I.kept (t' := tk) hk) hS
    · cases eo
  · split at eo
    · rename_i ks e1
      split at eo
      · rename_i hn
        have e2 := toTs_eq e1
        subst e2
        obtain ⟨ps, g1, g2, g3⟩ := isds_tups rs
        subst g1
        subst g2
        have hi : us.toArray.toList = ps.map fun p => Value.ref p.1 := by simpa using refs_of_vals rv
        have lp : SetLoop X.prog X.w X.A.in1.in1 s.heap us.toArray.size us.toArray (fun h a => ∃ L es ep t, SetTR X.prog X.w h a L es ep t ∧ Got ps ps.length L) :=
          loop_tups ps hi (fun p hp => I.isT (sub.seqT (g3 p hp))) (by simpa using hn.1) (by show X.A.units + 1 + 1 + 1 < cLine; omega)
        rcases sq with ⟨l, rfl, hl⟩ | ⟨l, rfl, hl⟩
        · exact call_set_list (PS := fun h a => ∃ L es ep t, SetTR X.prog X.w h a L es ep t ∧ Got ps ps.length L) (I.ok.hd hc) hl @lp fun h' tk ⟨L, es, ep, t, hS, g⟩ hk => hT ps _ _ L es ep t e1 g3 (I.kept (t' := tk) hk) hS g
        · exact call_set_tuple (PS := fun h a => ∃ L es ep t, SetTR X.prog X.w h a L es ep t ∧ Got ps ps.length L) (I.ok.hd hc) hl @lp fun h' tk ⟨L, es, ep, t, hS, g⟩ hk => hT ps _ _ L es ep t e1 g3 (I.kept (t' := tk) hk) hS g
      · cases eo
    · cases eo
theorem inv_walk (I : Inv X pins σ H s) {s1 : Shared} (k : ∀ b o, s.heap.get? b = some o → s1.heap.get? b = some o) (g : s1.gens = s.gens) (o : s1.os = s.os) : Inv X pins σ H s1 :=
  I.call' (ch := []) o (Un.kept k) (I.hok.kept k) (by rw [g]; exact I.bare) fun b z => by cases z
/-- what is gathered from a set -/
theorem gath_setI (hc : X.calm = true) {a : Addr} {ns : List Int} {c : Nat} {R : List V → List D → Hp → Hp → Prop} (I : Inv X pins σ H s) (sub : Same F H) (S : SetR X.w s.heap a (fun j => decide (j ∈ ns)) c)
    (q : ∀ zs : List Int, zs.Nodup → (∀ k, k ∈ zs ↔ k ∈ ns) → R (zs.map V.int) (zs.map D.int) F H) : Gath X G pins σ (.ref a) s R := fun Qc k => by
  obtain ⟨o, es, ep, t, ho, hex, hd, g, nd, hm, hb, hf, hn, hr, hl⟩ := S
  refine collect_set (P := X.prog) (A := X.A.in1) (I.ok.hd hc) ⟨o, ho, hex.1, hd⟩ hf hb hr hl fun s1 vs k1 hz g1 o1 pm => ?_
  have hI : IntsAre vs (vs.map Builtin.Re.reRawOf) := ints_of vs fun v hv => by
    obtain ⟨e, he, q⟩ := List.mem_map.mp (pm.mem_iff.mp hv)
    obtain ⟨k, tk, h1, _⟩ := g e he
    exact ⟨k, tk, by rw [← q]; exact h1⟩
  have pk : (vs.map Builtin.Re.reRawOf).Perm (es.toList.map L2.keyOf) := by
    have q := pm.map Builtin.Re.reRawOf
    rw [List.map_map] at q
    exact q
  refine k s1 vs _ _ F H (inv_walk I k1 g1 o1) (vals_of_ints hI) (ints_data _) sub (q _ (pk.nodup_iff.mpr nd) fun j => ?_)
  rw [pk.mem_iff, ← hm j]
  simp
theorem gath_setT (hc : X.calm = true) {a : Addr} {ps L : List (Addr × List Int)} {es : Array (Int × Value)} {ep : Nat} {t : SetTable} {R : List V → List D → Hp → Hp → Prop} (I : Inv X pins σ H s) (sub : Same F H) (S : SetTR X.prog X.w s.heap a L es ep t) (g : Got ps ps.length L) (hp : ∀ p ∈ ps, SqT X.K F p.1 (p.2.map V.int))
    (q : ∀ (vs : List V) (zs : List (List Int)), zs.Nodup → (∀ k, k ∈ zs ↔ k ∈ ps.map (·.2)) → R vs (zs.map tupI) F H) : Gath X G pins σ (.ref a) s R := fun Qc k => by
  obtain ⟨o, ho, hex, hd⟩ := S.ob
  have hsz := S.size
  have hfew := S.few
  refine collect_set (P := X.prog) (A := X.A.in1) (I.ok.hd hc) ⟨o, ho, hex.1, hd⟩ S.fits (by unfold scanBound; omega) S.tab.ris S.led fun s1 vs k1 hz g1 o1 pm => ?_
  have hes : es.toList.map (·.2) = L.map fun q => Value.ref q.1 := by
    rw [S.rows]
    unfold L2.rowsOf
    rw [List.map_map] <;> rfl
  rw [hes] at pm
  obtain ⟨L', pl, rfl⟩ := perm_lift pm L rfl
  have hsub : ∀ p ∈ L', p ∈ ps := fun p h => List.mem_of_mem_take (g.sub p (pl.mem_iff.mp h))
  refine k s1 _ (L'.map fun p => V.ref p.1) ((L'.map (·.2)).map tupI) F H (inv_walk I k1 g1 o1) (vals_of_refs L') (isds_of_tups fun p h => hp p (hsub p h)) sub (q _ _ ((pl.map (·.2)).nodup_iff.mpr S.nd) fun j => ?_)
  constructor
  · intro h
    obtain ⟨p, hp', rfl⟩ := List.mem_map.mp h
    exact List.mem_map.mpr ⟨p, hsub p hp', rfl⟩
  · intro h
    obtain ⟨p, hp', rfl⟩ := List.mem_map.mp h
    exact (pl.map (·.2)).mem_iff.mpr (g.all p (by rw [List.take_length]; exact hp'))
variable {W : WX} {a : Expr} {fa : SemE} {pos p p2 q : Pos}
@[simp] def sortedSetS (f : SemE) : SemE := fun ρ => (f ρ).bind fun u ρ1 => match viewU ρ1 u with
  | some d => match (seqOf d).bind setL with
    | some out => .ok (.v (.l out)) ρ1
    | none => .bad
  | none => .bad
@[simp] def lenSetS (f : SemE) : SemE := fun ρ => (f ρ).bind fun u ρ1 => match viewU ρ1 u with
  | some d => match (seqOf d).bind toIs with
    | some ns => if ns.length ≤ 4000 then .ok (.v (.d (.int (usort ltI ns).length))) ρ1 else .bad
    | none => .bad
  | none => .bad
theorem ee_sortedSet (hc : X.calm = true) (hu : X.A.units + 64 < cLine) (hg : Gl X "sorted") (hm : X.mg "sorted" = none) (hg2 : Gl X "set") (hm2 : X.mg "set" = none) (ha : EE X G W a fa) (hs : starless a = true) :
    EE X G W (.Call (.Name "sorted" p) [.Call (.Name "set" p2) [a] [] q] [] pos) (sortedSetS fa) := by
  obtain ⟨t, pa, qa⟩ := ha.ex
  have hst : starEach [a] X.env = (false, eval a X.env) :: starEach [] X.env := starEach_c hs _ _
  refine ⟨fun σ H Q => t σ H fun x H1 => ∀ (pins : List (Addr × Obj)) (s : Shared) (σ : L2.St) (u : Value), Inv X pins σ H1 s → RelV x u →
    wpAny (model X.prog X.w) X.A (call (.type "set") [u]) (fun v s' => wpAny (model X.prog X.w) X.A (call (.builtin "sorted") [v]) (EP X pins σ Q) X.xe s') X.xe s, ⟨fun pins s σ H Q I h => ?_⟩, fun σ H ρ F fp Q S h => ?_⟩
  · refine Call_ (ld_blt (u := .builtin "sorted") I hg hm (by decide +kernel) ?_)
    refine PyProof.Rows.callWith_builtin1 (PyProof.Rows.args_cons ?_ rfl) rfl rfl
    refine Call_ (ld_blt I hg2 hm2 boot_set ?_)
    refine PyProof.Rows.callWith_type1 (PyProof.Rows.args_cons (thn (pa.run pins s σ H _ I h) fun v s1 ⟨x, H1, I1, r1, q1⟩ => PyProof.Rows.args_nil ?_) hst) hst rfl
    refine wpAny_mono (q1 pins s1 σ v I1 r1) (fun v' s2 h2 => PyProof.Rows.args_nil h2) fun _ _ e => e
  · refine qa σ H ρ F fp _ S (h.bind fun u ρ1 v F1 fp1 H1 _ e1 S1 r1 h1 => ?_)
    intro pins s σ' u' I ru
    split at h1
    · rename_i d ed
      split at h1
      · rename_i out eo
        obtain ⟨ds, eq, eo⟩ := Option.bind_eq_some_iff.mp eo
        have r' := fl_of S1 r1 ed
        have fin : ∀ ys p, IsDs X.K G F1 ys out → H1 p = none → Q (.ref p) (upd H1 p (.lst ys)) := fun ys p i n => h1.new S1 (New.lst S1.sub n i)
        refine set_then (fin := fun _ _ => True) hc hu I S1.sub r' eq eo ru (fun ns s1 a c e1 I1 hS => ?_) fun ps s1 a L es ep t e1 hp I1 hS g => ?_
        · simp only [setL, e1] at eo
          split at eo
          · rename_i hn
            cases eo
            refine sorted_coll (G := G) hu (gath_setI hc I1 S1.sub.s hS fun zs nd hm => ⟨okSort_ints ?_, fun ys p i n => fin ys p ?_ n⟩)
            · have : zs.length ≤ ns.length := nodup_le zs _ nd fun k hk => (hm k).mp hk
              omega
            · rw [sortD_map linI _ (fun a b => ltd_int a b), sortU linI nd hm] at i
              exact i
          · cases eo
        · have e0 : toIs ds = none ∨ ds = [] := by
            rw [toTs_eq e1]
            cases ps with
            | nil => exact .inr rfl
            | cons p ps => exact .inl rfl
          have eo' : out = (usort ltT (ps.map (·.2))).map tupI ∧ ((ps.map (·.2)).length < 64 ∧ (ps.map (·.2)).all (fun k => !k.isEmpty) = true) := by
            rcases e0 with e0 | e0
            · simp only [setL, e0, e1] at eo
              split at eo
              · rename_i hn
                cases eo
                exact ⟨rfl, hn⟩
              · cases eo
            · have : ps = [] := by
                have := toTs_eq e1
                rw [e0] at this
                cases ps with
                | nil => rfl
                | cons _ _ => cases this
              subst this
              subst e0
              simp [setL, toIs, usort] at eo
              subst eo
              exact ⟨rfl, by simp, by simp⟩
          obtain ⟨rfl, hn, hne⟩ := eo'
          refine sorted_coll (G := G) hu (gath_setT hc I1 S1.sub.s hS g hp fun vs zs nd hm => ⟨okSort_tups ?_ fun k hk => ?_, fun ys p i n => fin ys p ?_ n⟩)
          · have : zs.length ≤ (ps.map (·.2)).length := nodup_le zs _ nd fun k hk => (hm k).mp hk
            omega
          · have := List.all_eq_true.mp hne k ((hm k).mp hk)
            intro e
            rw [e] at this
            simp at this
          · rw [sortD_map linT _ (fun a b => ltd_tup a b), sortU linT nd hm] at i
            exact i
      · exact h1.elim
    · exact h1.elim
theorem ee_lenSet (hc : X.calm = true) (hu : X.A.units + 64 < cLine) (hg : Gl X "len") (hm : X.mg "len" = none) (hg2 : Gl X "set") (hm2 : X.mg "set" = none) (ha : EE X G W a fa) (hs : starless a = true) :
    EE X G W (.Call (.Name "len" p) [.Call (.Name "set" p2) [a] [] q] [] pos) (lenSetS fa) := by
  obtain ⟨t, pa, qa⟩ := ha.ex
  have hst : starEach [a] X.env = (false, eval a X.env) :: starEach [] X.env := starEach_c hs _ _
  refine ⟨fun σ H Q => t σ H fun x H1 => ∀ (pins : List (Addr × Obj)) (s : Shared) (σ : L2.St) (u : Value), Inv X pins σ H1 s → RelV x u →
    wpAny (model X.prog X.w) X.A (call (.type "set") [u]) (fun v s' => wpAny (model X.prog X.w) X.A (call (.builtin "len") [v]) (EP X pins σ Q) X.xe s') X.xe s, ⟨fun pins s σ H Q I h => ?_⟩, fun σ H ρ F fp Q S h => ?_⟩
  · refine Call_ (ld_blt (u := .builtin "len") I hg hm (by decide +kernel) ?_)
    refine PyProof.Rows.callWith_builtin1 (PyProof.Rows.args_cons ?_ rfl) rfl rfl
    refine Call_ (ld_blt I hg2 hm2 boot_set ?_)
    refine PyProof.Rows.callWith_type1 (PyProof.Rows.args_cons (thn (pa.run pins s σ H _ I h) fun v s1 ⟨x, H1, I1, r1, q1⟩ => PyProof.Rows.args_nil ?_) hst) hst rfl
    refine wpAny_mono (q1 pins s1 σ v I1 r1) (fun v' s2 h2 => PyProof.Rows.args_nil h2) fun _ _ e => e
  · refine qa σ H ρ F fp _ S (h.bind fun u ρ1 v F1 fp1 H1 _ e1 S1 r1 h1 => ?_)
    intro pins s σ' u' I ru
    split at h1
    · rename_i d ed
      split at h1
      · rename_i ns eo
        obtain ⟨ds, eq, e0⟩ := Option.bind_eq_some_iff.mp eo
        split at h1
        · rename_i hn
          have r' := fl_of S1 r1 ed
          refine set_then (fin := fun _ _ => True) (out := (usort ltI ns).map .int) hc hu I S1.sub r' eq (by simp only [setL, e0]; rw [if_pos hn]) ru (fun ns' s1 a c e1 I1 hS => ?_) fun ps s1 a L es ep t e1 hp I1 hS g => ?_
          · rw [e0] at e1
            cases e1
            obtain ⟨o, es, ep, t, ho, hex, hd, g, nd, hm, hb, hf, hn', hr, hl⟩ := hS
            refine call_len_set ho hex hd hf (by unfold scanBound at hb; omega) ⟨.int es.size, H1, I1.tok _, ⟨_, rfl⟩, ?_⟩
            have pm : (es.toList.map L2.keyOf).Perm (usort ltI ns) := (List.perm_ext_iff_of_nodup nd (usort_nodup linI ns)).mpr fun k => by rw [mem_usort linI, ← hm k]; simp
            have hl' := pm.length_eq
            rw [List.length_map, Array.length_toList] at hl'
            rw [hl']
            exact h1.nowD S1 (IsD.int _)
          · have : ps = [] := by
              have h2 := toTs_eq e1
              have h3 := toIs_eq e0
              rw [h2] at h3
              cases ps with
              | nil => rfl
              | cons p ps => cases ns <;> simp [tupI] at h3
            subst this
            have hds := toTs_eq e1
            subst hds
            simp [toIs] at e0
            subst e0
            obtain ⟨o, ho, hex, hd⟩ := hS.ob
            have hL : L = [] := by
              have := g.len
              simpa using this
            have hz := hS.size
            refine call_len_set ho hex hd hS.fits (by rw [hz, hL]; simp) ⟨.int es.size, H1, I1.tok _, ⟨_, rfl⟩, ?_⟩
            rw [hz, hL]
            exact h1.nowD S1 (IsD.int _)
        · exact h1.elim
      · exact h1.elim
    · exact h1.elim
end
end Pv

namespace Pv
open PySem PySem.Spec PyProof.Rows L2 PySem.W
/-! ### enumerate -/
theorem meets_enumT (l : Addr) (items : Array Value) (n : Nat) (dct : Option Addr) (sl : Array (Option Value)) :
    Meets (Builtin.«enumerate.__new__» ⟨[.type "enumerate", .ref l], []⟩) (fun _ R s => s.heap.get? l = some { cls := .type "tuple", dict := dct, data := .seq items n, slots := sl } ∧
      R (.ok (.ret (.ref (s.heap.push { cls := .type "tuple_iterator", data := .fields #[.ref l, .int 0 0] }).objs.size)))
        { s with heap := (s.heap.push { cls := .type "tuple_iterator", data := .fields #[.ref l, .int 0 0] }).push { cls := .type "enumerate", data := .fields #[.none, .bool false, .ref s.heap.objs.size, rawInt 0, .none, .none] } }) :=
  .of_wp fun prog w A R s h => by
    obtain ⟨hp, g, d, tk, os⟩ := s; obtain ⟨hl, h⟩ := h
    have hsub := sub_enumerate
    have hL : Heap.IsTuple (Shared.heap ⟨hp, g, d, tk, os⟩) l items := ⟨_, hl, rfl, n, rfl⟩
    wp_walk using AutoSeq1.wpAny_loadPart' hl
    refine wpAny_stack_any fun st => wpAny_pure ?_
    split
    · rename_i c _ _ _ _ _
      cases (c == Value.type "enumerate")
      · wp_walk using AutoSeq1.wpAny_loadPart' hl, wpAny_pyIter_tuple hL
        exact ⟨_, rfl, h⟩
      · wp_walk using AutoSeq1.wpAny_loadPart' hl, wpAny_pyIter_tuple hL
        exact ⟨_, rfl, h⟩
    · wp_walk using AutoSeq1.wpAny_loadPart' hl, wpAny_pyIter_tuple hL
      exact ⟨_, rfl, h⟩
theorem call_enumT {prog : Program} {w : World} {A : Around} {E : Value → Shared → Prop} {s : Shared} {l : Addr} {items : Array Value} {Q : Value → Shared → Prop} (hL : s.heap.IsTuple l items)
    (h : ∀ h', IsEnum h' (s.heap.objs.size + 1) s.heap.objs.size 0 .none → h'.IsTupleIter s.heap.objs.size l 0 → h'.objs.size = s.heap.objs.size + 2 →
      (∀ b o, s.heap.get? b = some o → h'.get? b = some o) → Q (.ref (s.heap.objs.size + 1)) { s with heap := h' }) :
    wpAny (model prog w) A (call (.type "enumerate") [.ref l]) Q E s := by
  obtain ⟨⟨c, dct, dt, sl⟩, hl, hc, n, hd⟩ := hL
  replace hc : c = .type "tuple" := hc
  replace hd : dt = .seq items n := hd
  subst hc hd
  refine callType_new PySem.F.called_enumerate (by decide) (PySem.F.typeCall_enumerate_1 _) (PySem.F.newCall_enumerate_1 _) (fun obj => PySem.F.args_object_init_2 obj _) PySem.F.entry_enumerate_new
    (meets_enumT l items n dct sl) ⟨hl, ?_⟩
  have hz : (s.heap.push { cls := .type "tuple_iterator", data := .fields #[.ref l, .int 0 0] }).objs.size = s.heap.objs.size + 1 := Heap.size_push ..
  show _ ∧ _
  rw [hz]
  have he : IsEnum ((s.heap.push { cls := .type "tuple_iterator", data := .fields #[.ref l, .int 0 0] }).push
      { cls := .type "enumerate", data := .fields #[.none, .bool false, .ref s.heap.objs.size, rawInt 0, .none, .none] }) (s.heap.objs.size + 1) s.heap.objs.size 0 .none := by
    have := Heap.get?_push_size (s.heap.push { cls := .type "tuple_iterator", data := .fields #[.ref l, .int 0 0] })
      (o := { cls := .type "enumerate", data := .fields #[.none, .bool false, .ref s.heap.objs.size, rawInt 0, .none, .none] }) rfl
    rw [hz] at this; exact this
  refine ⟨⟨_, he, rfl⟩, h _ he ⟨_, Heap.get?_push_of_some _ (Heap.get?_push_size _ rfl), rfl, rfl⟩ (by rw [Heap.size_push, hz]) fun b o x => Heap.get?_push_of_some _ (Heap.get?_push_of_some _ x)⟩
theorem Draws_tuple {prog : Program} {w : World} {A : Around} (hh : A.handled = none) (it l : Addr) (hne : l ≠ it) (items : Array Value) :
    Draws prog w A it [it, l] items.size (fun i v => items[i]? = some v) (fun i h => h.IsTupleIter it l i ∧ h.IsTuple l items) where
  live := fun _ _ st => let ⟨o, ho, _⟩ := st.1; ⟨o, ho⟩
  frame := fun _ _ _ st hk => ⟨st.1.at fun o e => hk it (by simp) o e, st.2.at fun o e => hk l (by simp) o e⟩
  item := fun i s Q E hi st hQ => by
    refine RZ.nextOf_tuple_item st.1 st.2 (x := items[i]) (by simp [hi]) fun h' hit' hs' => ?_
    exact hQ _ h' s.toks (by simp [hi]) ⟨hit', st.2.extBut hs'.extBut hne⟩ hs'
  done := fun s Q E st hE => RZ.nextOf_tuple_end hh st.1 st.2 (by simp) fun h' e he hx => hE h' e he hx
def IteT (K : PySem.W.Frag) (a : Addr) : It :=
  ⟨fun i H => ∃ (xs : List V) (x : V), SqT K H a xs ∧ xs[i]? = some x, fun i H v H' => ∃ T x, v = .ref T ∧ H T = none ∧ H' = upd H T (.tup [.int (i : Nat), x]) ∧ ∀ xs, SqT K H a xs → xs[i]? = some x, fun i H => ∃ xs : List V, SqT K H a xs ∧ xs.length ≤ i⟩
theorem turn_enumT {P : Program} {w : World} {K : PySem.W.Frag} {elts : List Expr} {kk : Nat} {tpos : Pos} (a e it : Addr) (hai : a ≠ it) (hae : a ≠ e) :
    Turn P w K (.Tuple elts kk tpos) (IteT K a) [e, it] e (fun i h => (∃ old, IsEnum h e it ((i : Nat) : Int) old) ∧ h.IsTupleIter it a i ∧ e ≠ it) where
  mem := by simp
  obj := fun i h st b hb => by
    obtain ⟨⟨old, he⟩, ⟨o, ho, hc, hd⟩, _⟩ := st
    have e' : b = e ∨ b = it := by simpa using hb
    rcases e' with z | z
    · rw [z]; exact ⟨_, he, fun v q => nomatch q⟩
    · rw [z]; exact ⟨o, ho, fun v q => by rw [hd] at q; cases q⟩
  keep := fun i h h' st k => let ⟨⟨old, he⟩, hi, hne⟩ := st; ⟨⟨old, k e (by simp) _ he⟩, hi.at fun o q => k it (by simp) o q, hne⟩
  item := by
    intro X hP hw hK hc i pins s σ H E I hf st hg
    subst hP hw hK
    obtain ⟨⟨old, he⟩, hit, hne⟩ := st
    obtain ⟨xs, x, hq, hx⟩ := hg
    obtain ⟨its, rv, ⟨o, ho, hcl, n, hd⟩, hz⟩ := I.tuple hq
    obtain ⟨u, hu, ru⟩ := rv.get hx
    have hel : e < s.heap.objs.size := Heap.lt_size he
    have hil : it < s.heap.objs.size := by obtain ⟨_, q, _⟩ := hit; exact Heap.lt_size q
    have hlt : i < its.toArray.size := by
      have := (List.getElem?_eq_some_iff.mp hu).1
      simpa using this
    refine wpAny_pyNext_enum_itemD (Draws_tuple (A := X.A.in1) (I.ok.hd hc) it a hai its.toArray) he ⟨hit, ⟨o, ho, hcl, n, hd⟩⟩ hlt hne (by simp [hne, Ne.symm hae]) fun x' h' tk hP ho' hst' hT hsz hk => ?_
    have hux : x' = u := by
      have : its[i]? = some x' := by simpa using hP
      rw [hu] at this; cases this; rfl
    subst hux
    refine ⟨_, rfl, wpAny_letOwnedTupleGo_enum (s := { s with heap := h', toks := tk + 1 }) ho' fun h'' he' sb => ?_⟩
    have hT2 : h''.get? s.heap.objs.size = some { cls := .type "tuple", data := .seq #[.int i tk, x'] } := (sb.2 _ (Nat.ne_of_gt hel)).trans hT
    have new : ObjOk X.prog X.w (upd H s.heap.objs.size (.tup [.int (i : Nat), x])) h'' s.heap.objs.size (.tup [.int (i : Nat), x]) :=
      ⟨by show 2 ≤ sizeLine; decide, [.int i tk, x'], .cons ⟨_, rfl⟩ (.cons ru .nil), ⟨_, hT2, rfl, _, rfl⟩⟩
    have I1 : Inv X pins σ (upd H s.heap.objs.size (.tup [.int (i : Nat), x])) { s with heap := h'', toks := tk + 1 } :=
      I.turnedNew (ch := [e, it]) (fun b ob hb q => (sb.2 b (fun z => hb (by simp [z]))).trans (hk b ob (fun z => hb (by simp [z])) (fun z => hb (by simp [z])) q)) hf (Nat.le_refl _) new
    refine ⟨.ref s.heap.objs.size, _, I1, rfl, ⟨_, x, rfl, I.hok.fresh (Nat.le_refl _), rfl, fun ys hy => by rw [I.tuple_inj hy hq]; exact hx⟩, ⟨⟨x', ?_⟩, hst'.1.at fun o q => (sb.2 it (Ne.symm hne)).trans q, hne⟩, fun b hb => ?_⟩
    · have e1 : ((i + 1 : Nat) : Int) = (i : Int) + 1 := by omega
      rw [e1]; exact he'
    · have hb' : b < s.heap.objs.size := by
        have e' : b = e ∨ b = it := by simpa using hb
        rcases e' with z | z
        · rw [z]; exact hel
        · rw [z]; exact hil
      rw [upd_ne (Nat.ne_of_lt hb')]
      exact (hf b hb).1
  done := by
    intro X hP hw hK hc i pins s σ H E I hf st hg
    subst hP hw hK
    obtain ⟨⟨old, he⟩, hit, hne⟩ := st
    obtain ⟨xs, hq, hx⟩ := hg
    obtain ⟨its, rv, ⟨o, ho, hcl, n, hd⟩, hz⟩ := I.tuple hq
    obtain ⟨f0, f1, f2, f3, f4, f5⟩ := hf it (by simp)
    have hl := rv.length
    have D0 : Draws X.prog X.w X.A.in1 it [it, a] i (fun i v => its.toArray[i]? = some v) (fun j h => h.IsTupleIter it a j ∧ h.IsTuple a its.toArray ∧ j = i) :=
      { live := fun _ _ st => let ⟨o, ho, _⟩ := st.1; ⟨o, ho⟩
        frame := fun _ _ _ st hk => ⟨st.1.at fun o e => hk it (by simp) o e, st.2.1.at fun o e => hk a (by simp) o e, st.2.2⟩
        item := fun j s Q E hi st hQ => by have := st.2.2; omega
        done := fun s Q E st hE => RZ.nextOf_tuple_end (I.ok.hd hc) st.1 st.2.1 (by simp; omega) fun h' e he hx => hE h' e he hx }
    exact wpAny_pyNext_enum_endD D0 he ⟨hit, ⟨o, ho, hcl, n, hd⟩, rfl⟩ fun h' eb => ⟨rfl, I.turned (t' := s.toks) (fun b o hb q => eb b o hb q) f0 f1 f3 f4 f5⟩
  self := fun A i s Q E st h => let ⟨⟨_, he⟩, _⟩ := st; wpAny_pyIter_enum he h
def iEnumT (K : PySem.W.Frag) (ta : TA) : TI := fun σ H R => ta σ H fun vs H1 => ∃ a xs, vs = [.ref a] ∧ SqT K H1 a xs ∧ R (IteT K a) H1
theorem pi_enumT {X : Cx} {e : Expr} {ta : TA} {p pos tpos : Pos} {elts : List Expr} {kk : Nat} (hg : Gl X "enumerate") (hm : X.mg "enumerate" = none) (ha : PA X [e] ta) (hs : starEach [e] X.env = [(false, eval e X.env)]) :
    PI X (.Tuple elts kk tpos) (.Call (.Name "enumerate" p) [e] [] pos) (iEnumT X.K ta) := by
  refine ⟨fun pins s σ H R I h => ?_⟩
  refine Call_ (ld_blt I hg hm boot_enumerate (PyProof.Rows.callWith_type1 (thn (ha.run pos pins s σ H _ I h) fun us s1 ⟨vs, H1, I1, r1, q1⟩ => ?_) hs rfl))
  obtain ⟨a, xs, ex, hq, q⟩ := q1
  subst ex
  cases r1 with
  | cons r rr =>
    cases rr
    cases r
    obtain ⟨its, rv, ⟨o, ho, hcl, n, hd⟩, hz⟩ := I1.tuple hq
    have hal : a < s1.heap.objs.size := Heap.lt_size ho
    refine call_enumT ⟨o, ho, hcl, n, hd⟩ fun h' he hit hsz hk => wpAny_pyIter_enum he ?_
    have I2 : Inv X pins σ H1 { s1 with heap := h' } := I1.kept (t' := s1.toks) hk
    refine ⟨s1.heap.objs.size + 1, [s1.heap.objs.size + 1, s1.heap.objs.size], _, _, H1, rfl, I2, turn_enumT a (s1.heap.objs.size + 1) s1.heap.objs.size (Nat.ne_of_lt hal) (Nat.ne_of_lt (Nat.lt_succ_of_lt hal)), ⟨⟨.none, he⟩, hit, Nat.succ_ne_self _⟩, fun b hb => ?_, q⟩
    have e' : b = s1.heap.objs.size + 1 ∨ b = s1.heap.objs.size := by simpa using hb
    have hle : s1.heap.objs.size ≤ b := by
      rcases e' with z | z
      · rw [z]; exact Nat.le_add_right _ _
      · rw [z]; exact Nat.le_refl _
    exact I1.fpOk hle (I1.hok.fresh hle)
def enumD (ds : List D) : List D := (List.range ds.length).zipWith (fun i d => .tup [.int (i : Nat), d]) ds
theorem enumD_get {ds : List D} {i : Nat} {d : D} (h : (enumD ds)[i]? = some d) : ∃ x, ds[i]? = some x ∧ d = .tup [.int (i : Nat), x] := by
  unfold enumD at h
  rw [List.getElem?_zipWith] at h
  cases e : ds[i]? with
  | none => rw [e] at h; simp at h
  | some x =>
    have hi : i < ds.length := (List.getElem?_eq_some_iff.mp e).1
    rw [e, List.getElem?_range hi] at h
    simp at h
    exact ⟨x, rfl, h.symm⟩
theorem enumD_len (ds : List D) : (enumD ds).length = ds.length := by simp [enumD]
section
variable {K : PySem.W.Frag} {G : Tab} {F : Hp}
theorem it_enumL {p : Addr} {vs : List V} {ds : List D} (h : SqL K F p vs) (hs : IsDs K G F vs ds) : ItIs K G F (Ite K p) (enumD ds) where
  go := fun i F2 H2 a b c => by
    have hl := hs.length
    rw [enumD_len] at c
    exact ⟨vs, vs[i]'(by omega), b.seq (a.seq h), List.getElem?_eq_getElem _⟩
  stop := fun i F2 H2 a b c => ⟨vs, b.seq (a.seq h), by rw [hs.length]; rw [enumD_len] at c; exact c⟩
  yld := fun i F2 H2 x H3 d a b c y => by
    obtain ⟨T, w, rfl, hT, rfl, y1⟩ := y
    obtain ⟨z, c1, rfl⟩ := enumD_get c
    obtain ⟨v, g1, g2⟩ := hs.get c1
    have e := y1 _ (b.seq (a.seq h))
    rw [g1] at e
    cases e
    exact .inr ⟨T, _, hT, rfl, (fun _ z => by cases z), pair_new b hT (.int _) (g2.mono a)⟩
theorem it_enumT {p : Addr} {vs : List V} {ds : List D} (h : SqT K F p vs) (hs : IsDs K G F vs ds) : ItIs K G F (IteT K p) (enumD ds) where
  go := fun i F2 H2 a b c => by
    have hl := hs.length
    rw [enumD_len] at c
    exact ⟨vs, vs[i]'(by omega), b.seqT (a.seqT h), List.getElem?_eq_getElem _⟩
  stop := fun i F2 H2 a b c => ⟨vs, b.seqT (a.seqT h), by rw [hs.length]; rw [enumD_len] at c; exact c⟩
  yld := fun i F2 H2 x H3 d a b c y => by
    obtain ⟨T, w, rfl, hT, rfl, y1⟩ := y
    obtain ⟨z, c1, rfl⟩ := enumD_get c
    obtain ⟨v, g1, g2⟩ := hs.get c1
    have e := y1 _ (b.seqT (a.seqT h))
    rw [g1] at e
    cases e
    exact .inr ⟨T, _, hT, rfl, (fun _ z => by cases z), pair_new b hT (.int _) (g2.mono a)⟩
end
section
variable {X : Cx} {G : Tab} {W : WX} {a : Expr} {fa : SemE} {pos p tpos : Pos} {elts : List Expr} {kk : Nat}
@[simp] def enumQ (x : D) (ρ : Ev) : Out (List D) := match x with
  | .lst ds => .ok (enumD ds) ρ
  | .tup ds => .ok (enumD ds) ρ
  | _ => .bad
@[simp] def enumI (f : SemE) : SemI := fun ρ => (dE f ρ).bind enumQ
theorem ei_enum (hg : Gl X "enumerate") (hm : X.mg "enumerate" = none) (ha : EE X G W a fa) (hs : starless a = true) : EI X G W (.Tuple elts kk tpos) (.Call (.Name "enumerate" p) [a] [] pos) (enumI fa) := by
  obtain ⟨t, pa, qa⟩ := ha.ex
  have hst : starEach [a] X.env = [(false, eval a X.env)] := starEach_c hs _ _
  refine ⟨_, PI.or (pi_enum hg hm (pa_cons pa pa_nil (starEach_c hs _ _)) hst) (pi_enumT hg hm (pa_cons pa pa_nil (starEach_c hs _ _)) hst), fun σ H ρ F fp R S h => ?_⟩
  cases ev : dE fa ρ with
  | bad => simp only [enumI] at h; rw [ev] at h; exact h.elim
  | exc x ρ1 =>
    simp only [enumI] at h
    exact .inl (run_dE qa S h fun x ρ' v F' fp' H' z => by rw [ev] at z; cases z)
  | ok x ρ1 =>
    simp only [enumI] at h
    by_cases ht : ∃ ds, x = .tup ds
    · obtain ⟨ds, rfl⟩ := ht
      refine .inr (run_dE qa S h fun x ρ' v F' fp' H' z e1 S1 r1 h1 => ?_)
      rw [ev] at z; cases z
      cases r1 with
      | tup hp hs => exact ⟨_, _, rfl, S1.sub.seqT hp, Run.now h1 S1 (it_enumT hp hs)⟩
    · refine .inl (run_dE qa S h fun x ρ' v F' fp' H' z e1 S1 r1 h1 => ?_)
      rw [ev] at z; cases z
      simp only [enumQ] at h1
      split at h1
      · cases r1 with
        | lst hp hs => exact ⟨_, _, rfl, SqL.of (S1.sub _ _ hp), Run.now h1 S1 (it_enumL (SqL.of hp) hs)⟩
      · exact absurd ⟨_, rfl⟩ ht
      · exact h1.elim
end
end Pv

namespace Pv
open PySem PySem.Spec PyProof.Rows L2 PySem.W
/-! ### slices of tuples with a step -/
def stepL {α : Type} (xs : List α) (lo hi : Option Int) (st : Int) : List α :=
  (List.range (Builtin.Slice.slicePlaces (Builtin.Slice.sliceAdjust lo hi st xs.length).1 (Builtin.Slice.sliceAdjust lo hi st xs.length).2 st)).filterMap fun (m : Nat) => xs[((Builtin.Slice.sliceAdjust lo hi st xs.length).1 + (m : Int) * st).toNat]?
theorem stepL_map {α β : Type} (f : α → β) (xs : List α) (lo hi : Option Int) (st : Int) : stepL (xs.map f) lo hi st = (stepL xs lo hi st).map f := by
  unfold stepL
  rw [List.length_map, List.map_filterMap]
  congr 1
  funext m
  simp
section
variable {prog : Program} {w : World} {A : Around} {E : Value → Shared → Prop} {s : Shared}
theorem sliceApplied_step {sl : Addr} {vl vu vs : Value} {lo hi : Option Int} {st : Int} {n : Nat} {Q : Int × Int × Nat → Shared → Prop} (hs : s.heap.IsSliceOf sl vl vu vs) (pl : IsPart vl lo) (pu : IsPart vu hi) (ps : IsPart vs (some st)) (h0 : st ≠ 0)
    (h : Q ((Builtin.Slice.sliceAdjust lo hi st n).1, st, Builtin.Slice.slicePlaces (Builtin.Slice.sliceAdjust lo hi st n).1 (Builtin.Slice.sliceAdjust lo hi st n).2 st) s) : wpAny (model prog w) A (Builtin.Slice.sliceApplied (.ref sl) (pure (n : Int))) Q E s := by
  obtain ⟨os, hos, hcs, hds⟩ := id hs
  unfold Builtin.Slice.sliceApplied Builtin.Slice.sliceFields
  refine wpAny_bind (wpAny_bind (wpAny_field hos hds (x := vl) rfl (wpAny_bind (wpAny_field hos hds (x := vu) rfl (wpAny_bind (wpAny_field hos hds (x := vs) rfl (wpAny_pure ?_)))))))
  refine wpAny_bind (HT.slicePart_ ps ?_)
  show wpAny _ _ (if (st == 0) = true then _ else _) _ _ s
  rw [if_neg (by simpa using h0)]
  exact wpAny_bind (HT.slicePart_ pl (wpAny_bind (HT.slicePart_ pu (wpAny_bind (wpAny_pure (wpAny_pure h))))))
theorem getItem_tuple_step {t sl : Addr} {items : Array Value} {vl vu vs : Value} {lo hi : Option Int} {st : Int} {Q : Value → Shared → Prop} (ht : IsTup s.heap t items) (hs : s.heap.IsSliceOf sl vl vu vs) (pl : IsPart vl lo) (pu : IsPart vu hi) (ps : IsPart vs (some st)) (h0 : st ≠ 0) (h1 : st ≠ 1)
    (h : Q (.ref s.heap.objs.size) { s with heap := s.heap.push { cls := .type "tuple", data := .seq (stepL items.toList lo hi st).toArray } })
    (hsz : (stepL items.toList lo hi st).length ≤ sizeLine) : wpAny (model prog w) A (getItem (.ref t) (.ref sl)) Q E s := by
  have htake : sizeOk (.seq (stepL items.toList lo hi st).toArray) := by
    show (stepL items.toList lo hi st).toArray.size ≤ sizeLine
    rw [List.size_toArray]; exact hsz
  obtain ⟨os, hos, hcs, hds⟩ := id hs
  have hTs : s.TypeIs (.ref sl) "slice" := ⟨os, hos, hcs⟩
  unfold getItem
  try with_reducible refine wpAny_holding ?_
  first | refine wpAny_bind (wpAny_pure ?_) | skip
  refine wpAny_bind (wpAny_sequenceKey ht.typeIs (by decide) ?_)
  refine wpAny_bind (wpAny_callSpecial?_slot (name := Str.ofString "__getitem__") ht.typeIs PyProof.Rows.slot_tuple_getitem
    (wpAny_call_entry PyProof.Rows.slot_tuple_getitem ht.typeIs entry_tuple_getitem ?_ (args_tuple_getitem _ _)))
  show wpAny _ _ (Builtin.Tuple.tupleItemsOf (.ref t) >>= _) _ _ s
  refine wpAny_bind (tupleItemsOf_ ht ?_)
  refine wpAny_bind (wpAny_typeOf hTs ?_)
  rw [if_pos (by decide)]
  refine wpAny_bind (sliceApplied_step hs pl pu ps h0 ?_)
  have hno : ¬ ((((Builtin.Slice.sliceAdjust lo hi st items.size).1 == 0 && st == 1 && (Builtin.Slice.slicePlaces (Builtin.Slice.sliceAdjust lo hi st items.size).1 (Builtin.Slice.sliceAdjust lo hi st items.size).2 st) == items.size) = true)) := by
    have : (st == 1) = false := by simpa using h1
    rw [this]; simp
  show wpAny _ _ (if ((Builtin.Slice.sliceAdjust lo hi st items.size).1 == 0 && st == 1 && (Builtin.Slice.slicePlaces (Builtin.Slice.sliceAdjust lo hi st items.size).1 (Builtin.Slice.sliceAdjust lo hi st items.size).2 st) == items.size) = true then _ else _) _ _ s
  rw [if_neg hno]
  have e : ((List.range (Builtin.Slice.slicePlaces (Builtin.Slice.sliceAdjust lo hi st items.size).1 (Builtin.Slice.sliceAdjust lo hi st items.size).2 st)).filterMap fun (k : Nat) => items[((Builtin.Slice.sliceAdjust lo hi st items.size).1 + (k : Int) * st).toNat]?).toArray = (stepL items.toList lo hi st).toArray := by
    unfold stepL
    simp only [Array.length_toList, Array.getElem?_toList]
  rw [e]
  first
    | exact wpAny_bind (m := Builtin.Tuple.tupleExact _) (wpAny_newObj_type (wpAny_pure ⟨_, rfl, wpAny_pure h⟩) htake)
    | exact wpAny_bind (m := Builtin.Tuple.tupleExact _) (wpAny_newObj_type (wpAny_bind (wpAny_pure (wpAny_pure ⟨_, rfl, wpAny_pure h⟩))) htake)
    | exact wpAny_bind (wpAny_bind (m := Builtin.Tuple.tupleExact _) (wpAny_newObj_type (wpAny_pure (wpAny_pure ⟨_, rfl, wpAny_pure h⟩)) htake))
    | exact wpAny_bind (wpAny_bind (m := Builtin.Tuple.tupleExact _) (wpAny_newObj_type (wpAny_pure ⟨_, rfl, wpAny_pure h⟩) htake))
end
section
variable {X : Cx} {G : Tab} {K : PySem.W.Frag} {W : WX} {F : Hp} {a : Expr} {lo hi : Option Expr} {c : Expr} {fa : SemE} {fl fh : Option SemE} {fc : SemE} {pos p2 : Pos}
theorem isds_pick {ι : Type} (g : ι → Nat) {vs : List V} {ds : List D} (h : IsDs K G F vs ds) : ∀ is : List ι, IsDs K G F (is.filterMap fun m => vs[g m]?) (is.filterMap fun m => ds[g m]?)
  | [] => .nil
  | i :: is => by
    cases e : ds[g i]? with
    | none =>
      have e2 : vs[g i]? = none := by
        cases e3 : vs[g i]? with
        | none => rfl
        | some v => obtain ⟨d, q, _⟩ := h.getV e3; rw [e] at q; cases q
      rw [List.filterMap_cons, List.filterMap_cons, e, e2]
      exact isds_pick g h is
    | some d =>
      obtain ⟨v, e2, r⟩ := h.get e
      rw [List.filterMap_cons, List.filterMap_cons, e, e2]
      exact .cons r (isds_pick g h is)
theorem IsDs.step {vs : List V} {ds : List D} (h : IsDs K G F vs ds) (lo hi : Option Int) (st : Int) : IsDs K G F (stepL vs lo hi st) (stepL ds lo hi st) := by
  unfold stepL
  rw [h.length]
  exact isds_pick _ h _
@[simp] def stepQ (x : D) (lo hi : Option Int) (st : Int) : Option A := match x with
  | .tup xs => if st ≠ 0 ∧ st ≠ 1 ∧ (stepL xs lo hi st).length ≤ 16777216 then some (.d (.tup (stepL xs lo hi st))) else none
  | _ => none
@[simp] def stepU (u : U) (lo hi st : Option Int) (ρ : Ev) : Out U := match viewU ρ u, st with
  | some x, some st => outA (stepQ x lo hi st) ρ
  | _, _ => .bad
@[simp] def slpS (f : SemE) (l h : Option SemE) (g : SemE) : SemE := fun ρ => (f ρ).bind fun u ρ1 => (partS l ρ1).bind fun l ρ2 => (partS h ρ2).bind fun h ρ3 => (partS (some g) ρ3).bind fun st ρ4 => stepU u l h st ρ4
theorem ee_step (ha : EE X G W a fa) (hl : EO X G W lo fl) (hh : EO X G W hi fh) (hc : EE X G W c fc) : EE X G W (.Subscript a (.Slice lo hi (some c) p2) pos) (slpS fa fl fh fc) := by
  obtain ⟨ta, pa, qa⟩ := ha.ex
  obtain ⟨tl, pl, ql⟩ := hl.ex
  obtain ⟨th, ph, qh⟩ := hh.ex
  obtain ⟨tc, pc, qc⟩ := (EO.some hc).ex
  refine ⟨fun σ H Q => ta σ H fun x H1 => tl σ H1 fun l H2 => th σ H2 fun h H3 => tc σ H3 fun st H4 => ∃ p xs st', x = .ref p ∧ st = some st' ∧ SqT X.K H4 p xs ∧ st' ≠ 0 ∧ st' ≠ 1 ∧ (stepL xs l h st').length ≤ sizeLine ∧ ∀ q, H4 q = none → Q (.ref q) (upd H4 q (.tup (stepL xs l h st'))), ⟨fun pins s σ H Q I h => ?_⟩, fun σ H ρ F fp Q S h => ?_⟩
  · refine Subscript_ (thn (pa.run pins s σ H _ I h) fun v s1 ⟨x, H1, I1, r1, q1⟩ => ?_)
    refine wpAny_Slice (thn (pl.run pins s1 σ H1 _ I1 q1) fun vl s2 ⟨l, H2, I2, pl', q2⟩ => thn (ph.run pins s2 σ H2 _ I2 q2) fun vu s3 ⟨u, H3, I3, pu', q3⟩ => ?_)
    refine thn (pc.run pins s3 σ H3 _ I3 q3) fun vs s4 ⟨o, H4, I4, ps', q4⟩ => ?_
    obtain ⟨p, xs, st, rfl, rfl, hx, h0, h1, hz', q⟩ := q4
    cases r1
    have I5 : Inv X pins σ H4 { s4 with heap := s4.heap.push { cls := .type "slice", data := .fields #[vl, vu, vs] } } := I4.kept (t' := s4.toks) fun b ob q => Heap.get?_push_of_some _ q
    obtain ⟨its, r, ht, hz⟩ := I5.tuple hx
    show wpAny (model X.prog X.w) X.A (subscriptTail a (.Slice lo hi (some c) p2) (.ref p) (.ref s4.heap.objs.size)) (EP X pins σ Q) X.xe { s4 with heap := s4.heap.push { cls := .type "slice", data := .fields #[vl, vu, vs] } }
    have len : (stepL its.toArray.toList l u st).length = (stepL xs l u st).length := by
      have := congrArg List.length (show (stepL its l u st).map (fun _ => ()) = (stepL xs l u st).map (fun _ => ()) by rw [← stepL_map, ← stepL_map]; congr 1; have e := r.length; exact List.ext_getElem (by simp [e]) (by simp))
      simpa using this
    refine tail_any (ops := [.ref p, .ref s4.heap.objs.size]) ht.typeIs (PyProof.Rows.slot_tuple_getitem.lookup) ?_ (by with_unfolding_all rfl)
    refine getItem_tuple_step ht (Heap.IsSliceOf.new _ vl vu vs) pl' pu' ps' h0 h1 ?_ (by rw [len]; exact hz')
    have rr : Vals (stepL xs l u st) (stepL its.toArray.toList l u st) := by
      have : ∀ is : List Nat, ∀ g : Nat → Nat, Vals (is.filterMap fun m => xs[g m]?) (is.filterMap fun m => its[g m]?) := by
        intro is g
        induction is with
        | nil => exact .nil
        | cons i is ih =>
          cases e : xs[g i]? with
          | none =>
            have e2 : its[g i]? = none := by
              rw [List.getElem?_eq_none_iff] at e ⊢
              have := r.length
              omega
            rw [List.filterMap_cons, List.filterMap_cons, e, e2]; exact ih
          | some v =>
            obtain ⟨u, e2, ru⟩ := r.get e
            rw [List.filterMap_cons, List.filterMap_cons, e, e2]; exact .cons ru ih
      have e := r.length
      have e0 : its.toArray.toList = its := by simp
      rw [e0]
      unfold stepL
      rw [← e]
      exact this _ _
    refine ⟨.ref _, _, I5.laid (t' := s4.toks) (o := .tup (stepL xs l u st)) (fun b ob q => Heap.get?_push_of_some _ q) (Nat.le_refl _) ?_, rfl, q _ (I5.hok.fresh (Nat.le_refl _))⟩
    exact ⟨hz', _, rr, ⟨_, Heap.get?_push_size _ rfl, rfl, _, rfl⟩⟩
  · refine qa σ H ρ F fp _ S (h.bind fun u ρ1 v F1 fp1 H1 _ e1 S1 r1 h1 => ?_)
    refine ql σ H1 ρ1 F1 _ _ (S1.but r1) (Run.bindT (T := OwnU H1 v u) (fun b z => RU.own_fp r1 z) h1 fun l ρ2 l' F2 fp2 H2 _ e2 S2 r2 h2 => ?_)
    have r1' := r1.keep e2 S2
    have S2' := S2.more (gp := fun b => fp2 b ∨ OwnU H1 v u b) fun _ z => .inl z
    refine qh σ H2 ρ2 F2 _ _ (S2'.but r1') (Run.bindT (T := OwnU H2 v u) (fun b z => RU.own_fp r1' z) h2 fun k ρ3 k' F3 fp3 H3 _ e3 S3 r3 h3 => ?_)
    have r1'' := r1'.keep e3 S3
    have S3' := S3.more (gp := fun b => fp3 b ∨ OwnU H2 v u b) fun _ z => .inl z
    refine qc σ H3 ρ3 F3 _ _ (S3'.but r1'') (Run.bindT (T := OwnU H3 v u) (fun b z => RU.own_fp r1'' z) h3 fun j ρ4 j' F4 fp4 H4 _ e4 S4 r4 h4 => ?_)
    have r1''' := r1''.keep e4 S4
    cases r2
    cases r3
    cases r4
    have S4' := S4.more (gp := fun b => fp4 b ∨ OwnU H3 v u b) fun _ z => .inl z
    cases ev : viewU ρ4 u with
    | none => simp only [stepU, ev] at h4; exact h4.elim
    | some x =>
      cases j with
      | none => simp only [stepU, ev] at h4; exact h4.elim
      | some st =>
        simp only [stepU, ev] at h4
        have rx := fl_of S4' r1''' ev
        cases q : stepQ x l k st with
        | none => rw [q] at h4; exact h4.elim
        | some a0 =>
          rw [q] at h4
          unfold stepQ at q
          split at q
          · split at q
            · rename_i hcc
              cases q
              obtain ⟨p, vs, rfl, hp, hs⟩ := rx.tup
              have hlen : (stepL vs l k st).length = _ := (hs.step l k st).length
              exact ⟨p, vs, st, rfl, rfl, S4'.sub.seqT hp, hcc.1, hcc.2.1, by rw [hlen, ← lim_eq]; exact hcc.2.2, fun q n => h4.new S4' (New.tup S4'.sub n (hs.step l k st))⟩
            · cases q
          · cases q
end
end Pv

namespace Pv
open PySem PySem.Spec PyProof.Rows L2 PySem.W
/-! ### isinstance(x, (T, U)) -/
@[simp] def isiTQ : List D → Option A
  | [x, .tup [.ty n, .ty m]] => match tyOf x with
    | some t => if okTy n = true ∧ okTy m = true then bA (isiB t n || isiB t m) else none
    | none => none
  | _ => none
theorem isiT_ok {X : Cx} {G : Tab} : RulOk X.K G (rDir X (.builtin "isinstance")) isiTQ := by
  intro F H vs xs a Q sub r e h pins s σ us I rv
  unfold isiTQ at e
  split at e
  · rename_i x n m
    split at e
    · rename_i t q1
      split at e
      · rename_i hn
        cases e
        obtain ⟨v, w, rfl, r1, r2⟩ := r.two
        obtain ⟨p, ws, rfl, hp, hs⟩ := r2.tup
        obtain ⟨u1, u2, rfl, e1, e2⟩ := vals2 rv
        cases (show u2 = Value.ref p from e2)
        cases hs with
        | cons h1 hs =>
          cases hs with
          | cons h2 hs =>
            cases hs
            cases h1
            cases h2
            obtain ⟨its, rr, ⟨o, ho, hc, nn, hd⟩, hz⟩ := I.tuple (sub.seqT hp)
            obtain ⟨y1, y2, rfl, z1, z2⟩ := vals2 rr
            cases (show y1 = Value.type n from z1)
            cases (show y2 = Value.type m from z2)
            obtain ⟨P, Z, pp, hx⟩ := kit_of I e1 (tyX_of (r1.isD sub) q1)
            obtain ⟨oc, od, dt, sl⟩ := o
            simp only at hc hd
            subst hc hd
            have ek : PySem.W.kitAny X.K (.type t) [.type n, .type m] = some (isiB t n || isiB t m) := by
              simp only [PySem.W.kitAny, kit_tab q1 hn.1, kit_tab q1 hn.2]
              cases isiB t n <;> cases isiB t m <;> rfl
            exact PySem.W.kia_tup Z I.kIn pp ho ek hx fun tk => ⟨.bl _, H, I.tok tk, rfl, h _ _ _ (New.old sub (IsD.bl _))⟩
      · cases e
    · cases e
  · cases e
/-! ### a, b = x, y where one of the names is read in a block within -/
section
variable {X : Cx} {G : Tab} {W : WX} {J : List Nat} {a b c : Expr} {pos : Pos}
theorem RU.ownH {K : PySem.W.Frag} {F H : Hp} {fp : Addr → Prop} {σ : L2.St} {ρ : Ev} {v : V} {x : A} {p b : Addr} {o : HO} (hp : H p = none) (r : RU K G F fp H σ ρ v (.v x)) (q : Own (upd H p o) v x b) : Own H v x b :=
  (r.1.own_iff fun b u _ e => same_new hp b u e).1 q
theorem RU.newH {K : PySem.W.Frag} {F H : Hp} {fp : Addr → Prop} {σ : L2.St} {ρ : Ev} {v : V} {x : A} {p : Addr} {o : HO} (S : Sk K G F fp H σ ρ) (hp : H p = none) (r : RU K G F fp H σ ρ v (.v x)) : RU K G F fp (upd H p o) σ ρ v (.v x) :=
  ⟨r.1.frame (Same.refl _) fun b u _ e => same_new hp b u e, fun b q => ⟨(r.2 b (r.ownH hp q)).1, (r.2 b (r.ownH hp q)).2.1, fun i w c s z => (r.2 b (r.ownH hp q)).2.2 i w c s ((S.own_iff (same_new hp) s).1 z)⟩⟩
theorem swpN2 {x y : Str} {px py pt : Pos} {kt k2 : Nat} {pt2 : Pos} {env : PySem.Env} (h : env.scope.names.lookup x ≠ some .local ∨ env.scope.names.lookup y ≠ some .local) : swappedStores [.Tuple [.Name x px, .Name y py] kt pt] (.Tuple [a, b] k2 pt2) env = pure none := by
  by_cases hx : env.scope.names.lookup x = some .local <;> by_cases hy : env.scope.names.lookup y = some .local
  · exact absurd h (by simp [hx, hy])
  all_goals
    unfold swappedStores
    by_cases h1 : py.line = px.line <;> simp [Env.kindOf, List.filterMap_cons, hx, hy, h1, Expr.pos]
theorem ss_par2c {i j : Nat} {x y : Str} {px py pt : Pos} {kt k2 : Nat} {pt2 : Pos} {ga : SemA} (hJi : i ∉ J) (hJj : j ∉ J) (hc : X.calm = true) (hN : X.N.Nodup) (hi : X.N[i]? = some x) (hj : X.N[j]? = some y)
    (lx : Loc X.env.scope x) (fx : X.fn x = true ∨ X.env.scope.names.lookup x = some .local) (ly : Loc X.env.scope y) (fy : X.fn y = true ∨ X.env.scope.names.lookup y = some .local) (ha : EA X G W [a, b] ga)
    (hw : swappedStores [.Tuple [.Name x px, .Name y py] kt pt] (.Tuple [a, b] k2 pt2) X.env = pure none) : SS X G W J (.Assign [.Tuple [.Name x px, .Name y py] kt pt] (.Tuple [a, b] k2 pt2) pos) (par2S i j ga) := by
  obtain ⟨t, p, q⟩ := ha.ex
  refine ⟨_, ps_asg (pe_tup p) (pg_tup (n := 2) hc (pgs_cons (pg_name hN hi lx fx) (pgs_cons (pg_name hN hj ly fy) pgs_nil))) rfl hw rfl, fun σ H ρ F fp D S h => ?_⟩
  refine q σ H ρ F fp _ S (SRun.bindE h fun us ρ1 vs F1 fp1 H1 _ e1 S1 r1 h1 => ?_)
  refine srun_toAs S1 r1 h1 fun as ρ2 F2 e2 S2 r2 h2 => ?_
  split at h2
  · cases r2 with
    | cons ra r2 da =>
      cases r2 with
      | cons rb r2 db =>
        cases r2
        refine ⟨by show 2 ≤ sizeLine; decide, fun p hp => ⟨p, _, rfl, SqT.of upd_same, rfl, _, _, rfl, _, _, rfl, rfl, ?_⟩⟩
        exact h2 _ _ F2 fp1 (Ex.newH hp) (((S2.newH hp).setU (ra.newH S2 hp)).setU ((rb.newH S2 hp).set fun b o o' => da b (ra.ownH hp o) (.inl (rb.ownH hp o')))) ((Jk.set hJi).trans (Jk.set hJj))
  · exact h2.elim
theorem swpN3 {x y z : Str} {px py pz pt : Pos} {kt k2 : Nat} {pt2 : Pos} {env : PySem.Env} (h : env.scope.names.lookup x ≠ some .local ∨ env.scope.names.lookup y ≠ some .local ∨ env.scope.names.lookup z ≠ some .local) : swappedStores [.Tuple [.Name x px, .Name y py, .Name z pz] kt pt] (.Tuple [a, b, c] k2 pt2) env = pure none := by
  by_cases hx : env.scope.names.lookup x = some .local <;> by_cases hy : env.scope.names.lookup y = some .local <;> by_cases hz : env.scope.names.lookup z = some .local
  · exact absurd h (by simp [hx, hy, hz])
  all_goals
    unfold swappedStores
    by_cases h1 : py.line = px.line <;> by_cases h2 : pz.line = px.line <;> simp [Env.kindOf, List.filterMap_cons, hx, hy, hz, h1, h2, Expr.pos]
theorem ss_par3c {i j l : Nat} {x y z : Str} {px py pz pt : Pos} {kt k2 : Nat} {pt2 : Pos} {ga : SemA} (hJi : i ∉ J) (hJj : j ∉ J) (hJl : l ∉ J) (hc : X.calm = true) (hN : X.N.Nodup) (hi : X.N[i]? = some x) (hj : X.N[j]? = some y) (hl : X.N[l]? = some z)
    (lx : Loc X.env.scope x) (fx : X.fn x = true ∨ X.env.scope.names.lookup x = some .local) (ly : Loc X.env.scope y) (fy : X.fn y = true ∨ X.env.scope.names.lookup y = some .local) (lz : Loc X.env.scope z) (fz : X.fn z = true ∨ X.env.scope.names.lookup z = some .local) (ha : EA X G W [a, b, c] ga)
    (hw : swappedStores [.Tuple [.Name x px, .Name y py, .Name z pz] kt pt] (.Tuple [a, b, c] k2 pt2) X.env = pure none) :
    SS X G W J (.Assign [.Tuple [.Name x px, .Name y py, .Name z pz] kt pt] (.Tuple [a, b, c] k2 pt2) pos) (par3S i j l ga) := by
  obtain ⟨t, p, q⟩ := ha.ex
  refine ⟨_, ps_asg (pe_tup p) (pg_tup (n := 3) hc (pgs_cons (pg_name hN hi lx fx) (pgs_cons (pg_name hN hj ly fy) (pgs_cons (pg_name hN hl lz fz) pgs_nil)))) rfl hw rfl, fun σ H ρ F fp D S h => ?_⟩
  refine q σ H ρ F fp _ S (SRun.bindE h fun us ρ1 vs F1 fp1 H1 _ e1 S1 r1 h1 => ?_)
  refine srun_toAs S1 r1 h1 fun as ρ2 F2 e2 S2 r2 h2 => ?_
  split at h2
  · cases r2 with
    | cons ra r2 da =>
      cases r2 with
      | cons rb r2 db =>
        cases r2 with
        | cons rc r2 dc =>
          cases r2
          refine ⟨by show 3 ≤ sizeLine; decide, fun p hp => ⟨p, _, rfl, SqT.of upd_same, rfl, _, _, rfl, ⟨_, _, rfl, ⟨_, _, rfl, ⟨rfl, ?_⟩⟩⟩⟩⟩
          exact h2 _ _ F2 fp1 (Ex.newH hp) ((((S2.newH hp).setU (ra.newH S2 hp)).setU ((rb.newH S2 hp).set fun b o o' => da b (ra.ownH hp o) (.inl (rb.ownH hp o')))).setU (((rc.newH S2 hp).set fun b o o' => da b (ra.ownH hp o) (.inr (.inl (rc.ownH hp o')))).set fun b o o' => db b (rb.ownH hp o) (.inl (rc.ownH hp o')))) (((Jk.set hJi).trans (Jk.set hJj)).trans (Jk.set hJl))
  · exact h2.elim
end
end Pv

namespace Pv
open PySem PySem.Spec PyProof.Rows L2 PySem.W LiI
/-! ### sorted(d.items()), of a dict of one's own -/
def itemsD (kvs : List (D × D)) : List D := kvs.map fun p => .tup [p.1, p.2]
@[simp] def ownM (u : U) (ρ : Ev) : Option (List (D × D)) := match u with
  | .v (.m kvs) => some kvs
  | .s i => match ρ[i]? with
    | some (some (.m kvs)) => some kvs
    | _ => none
  | _ => none
@[simp] def sortItemsS (f : SemE) : SemE := fun ρ => (f ρ).bind fun u ρ1 => match ownM u ρ1 with
  | some kvs => if okSort (itemsD kvs) = true then .ok (.v (.l (sortD (itemsD kvs)))) ρ1 else .bad
  | none => .bad
theorem own_mU {K : PySem.W.Frag} {G : Tab} {F H : Hp} {fp : Addr → Prop} {σ : L2.St} {ρ : Ev} {v : V} {u : U} {kvs : List (D × D)} (S : Sk K G F fp H σ ρ) (r : RU K G F fp H σ ρ v u) (e : ownM u ρ = some kvs) : ∃ p kws, v = .ref p ∧ H p = some (.dK kws) ∧ KwIs K G F kws kvs := by
  cases u with
  | v a =>
    cases a with
    | m ks => cases e; exact r.1
    | d _ => cases e
    | l _ => cases e
    | n _ _ => cases e
  | s i =>
    simp only [ownM] at e
    split at e
    · rename_i ks hs
      cases e
      exact S.is (i := i) (v := v) ⟨r, hs⟩
    · cases e
theorem kD_is (K : PySem.W.Frag) (G : Tab) (F : Hp) (k : Key) : IsD K G F (kV k) (kD k) := by
  cases k with
  | inl i => exact .int i
  | inr x => exact .str x
theorem putT_same : ∀ (as : List Addr) (kws : List (Key × V)) {F H : Hp}, Same F H → Same (putT F as kws) (putT H as kws)
  | [], _, _, _, h => h
  | _ :: _, [], _, _, h => h
  | a :: as, p :: kws, F, H, h => putT_same as kws fun b o e => by
    by_cases hb : b = a
    · subst hb; rw [upd_same] at e ⊢; exact e
    · rw [upd_ne hb] at e ⊢; exact h b o e
theorem putT_old : ∀ (as : List Addr) (kws : List (Key × V)) {H : Hp}, as.Nodup → (∀ a ∈ as, H a = none) → Same H (putT H as kws)
  | [], _, H, _, _ => Same.refl H
  | _ :: _, [], H, _, _ => Same.refl H
  | a :: as, p :: kws, H, nd, h => by
    have nd' := List.nodup_cons.mp nd
    refine (same_new (h a (List.mem_cons_self ..))).trans (putT_old as kws nd'.2 fun b hb => ?_)
    rw [upd_ne (fun z => nd'.1 (by rw [← z]; exact hb))]
    exact h b (List.mem_cons_of_mem _ hb)
theorem putT_nt : ∀ (as : List Addr) (kws : List (Key × V)) {H : Hp} (b : Addr) (ps : Array Value), putT H as kws b = some (.tbl ps) → H b = some (.tbl ps)
  | [], _, H, b, ps, h => by simpa [putT] using h
  | _ :: _, [], H, b, ps, h => by simpa [putT] using h
  | a :: as, p :: kws, H, b, ps, h => by
    have h := putT_nt as kws b ps h
    by_cases e : b = a
    · subst e; rw [upd_same] at h; cases h
    · rwa [upd_ne e] at h
theorem putT_new : ∀ (as : List Addr) (kws : List (Key × V)) {H : Hp} (b : Addr) (o : HO), putT H as kws b = some o → H b = some o ∨ b ∈ as
  | [], _, _, _, _, h => .inl h
  | _ :: _, [], _, _, _, h => .inl h
  | a :: as, p :: kws, H, b, o, h => by
    rcases putT_new as kws b o h with h | h
    · by_cases hb : b = a
      · exact .inr (by rw [hb]; exact List.mem_cons_self ..)
      · rw [upd_ne hb] at h; exact .inl h
    · exact .inr (List.mem_cons_of_mem _ h)
theorem items_isds {K : PySem.W.Frag} {G : Tab} {F F' : Hp} (e : Same F F') : ∀ {as : List Addr} {kws : List (Key × V)} {kvs : List (D × D)}, Paired (fun (t : Addr) (q : Key × V) => F' t = some (.tup [kV q.1, q.2])) as kws → KwIs K G F kws kvs → IsDs K G F' (as.map V.ref) (itemsD kvs)
  | [], [], kvs, _, h => by
    cases kvs with
    | nil => exact .nil
    | cons p kvs => have := h.1; simp at this
  | a :: as, q :: kws, kvs, .cons h t, k => by
    cases kvs with
    | nil => have := k.1; simp at this
    | cons p kvs =>
      obtain ⟨k1, k2⟩ := k
      simp only [List.map_cons, List.cons.injEq] at k1
      simp only [List.map_cons] at k2
      cases k2 with
      | cons r rs =>
        refine .cons (.tup (.inl (.inl h)) (.cons ?_ (.cons (r.mono e) .nil))) (items_isds e t ⟨k1.2, rs⟩)
        rw [← k1.1]
        exact kD_is K G F' q.1
section
variable {X : Cx} {G : Tab} {W : WX} {a : Expr} {fa : SemE} {p apos cpos pos : Pos}
/-- the view's items gathered: each a new tuple -/
theorem gath_items {F H : Hp} {pins : List (Addr × Obj)} {σ : L2.St} {s : Shared} {r d : Addr} {kws : List (Key × V)} {kvs : List (D × D)} {R : List V → List D → Hp → Hp → Prop} (hc : X.A.handled = none) (I : Inv X pins σ H s) (sub : Same F H) (hv : s.heap.IsItemsView r d) (hd : H d = some (.dK kws)) (hk : KwIs X.K G F kws kvs)
    (q : ∀ (as : List Addr), as.Nodup → (∀ t ∈ as, H t = none) → R (as.map V.ref) (itemsD kvs) (putT F as kws) (putT H as kws)) : Gath X G pins σ (.ref r) s R := fun Qc k => by
  obtain ⟨hz, hs0, vs, kv, hdo⟩ := I.hok d _ hd
  obtain ⟨ep, hat⟩ := hdo.dictAt
  have lk : kws.length = vs.length := Paired.length kv
  refine kdx_collect (A := X.A.in1) (knd := mixKind X.prog X.w) (kvs := vs) (ep := ep) hc hv hat (by omega) fun h' tk as hk' hl hG => ?_
  have nd : as.Nodup := List.Pairwise.imp (fun {a b} (h : a < b) => Nat.ne_of_lt h) hG.rise
  have new : ∀ t ∈ as, H t = none := fun t ht => I.hok.fresh (Nat.le_of_lt (hG.above t ht))
  have atP := putT_at as kws H (by omega) nd
  have off : ∀ b, b ∉ as → putT H as kws b = H b := fun b h1 => putT_off as kws _ h1
  have low : ∀ b o, s.heap.get? b = some o → b ∉ as := fun b o e z => absurd (Heap.lt_size e) (Nat.not_lt.mpr (Nat.le_of_lt (hG.above b z)))
  have kp : ∀ b u, H b = some u → (putT H as kws) b = some u := fun b u e => by
    rw [off b (fun z => by rw [new b z] at e; cases e)]
    exact e
  have J : Inv X pins σ (putT H as kws) { s with heap := h', toks := tk } := by
    refine I.call' (ch := []) rfl ⟨fun b o q _ _ _ => hk' b o q, fun b o q _ _ _ => ⟨o.slots, hk' b o q⟩, fun b o q n _ => ?_, fun b o q _ => ⟨o, hk' b o q⟩, fun b xs q => kp b _ q, fun b o u q => kp b _ q, fun b ps q => ⟨#[], by rw [kp b _ q]; simp⟩⟩ (fun b u q => ?_) I.bare fun b z => by simp at z
    · rw [off b (low b o q)]
      exact n
    · by_cases hb : b ∈ as
      · obtain ⟨j, pk, e1, e2, e3⟩ := paired_ix atP hb
        rw [e3] at q
        cases q
        obtain ⟨key, k, x, f1, f2, f3⟩ := hG.pairs j b e1
        obtain ⟨qv, g1, g2, g3⟩ := L2.paired_get kv e2
        rw [f1] at g1
        cases g1
        have rk : RelV (kV pk.1) key := by
          rw [g2]
          exact relV_key (show keyIs k key = true from f2)
        exact ⟨by show 2 ≤ sizeLine; decide, [key, x], .cons rk (.cons g3 .nil), ⟨_, f3, rfl, _, rfl⟩⟩
      · rw [off b hb] at q
        exact (I.hok b u q).stay (fun d v _ y => hk' d v y) (fun d y => kp d _ y) fun d xs y => kp d _ y
  have atF := putT_at as kws F (by omega) nd
  have oldF : Same F (putT F as kws) := putT_old as kws nd fun t ht => by
    cases q : F t with
    | none => rfl
    | some u => have := sub t u q; rw [new t ht] at this; cases this
  exact k _ _ (as.map V.ref) (itemsD kvs) (putT F as kws) (putT H as kws) J (vals_refs as) (items_isds oldF atF hk) (putT_same as kws sub) (q as nd new)
theorem ee_sortItems (hc : X.calm = true) (hu : X.A.units + 64 < cLine) (hg : Gl X "sorted") (hm : X.mg "sorted" = none) (ha : EE X G W a fa) (hbase : attributeBase a "items" X.env (eval a X.env) = eval a X.env) (hline : (apos.endLine == cpos.line) = true) :
    EE X G W (.Call (.Name "sorted" p) [.Call (.Attribute a "items" apos) [] [] cpos] [] pos) (sortItemsS fa) := by
  obtain ⟨t, pa, qa⟩ := ha.ex
  refine ⟨fun σ H Q => t σ H fun x H1 => ∃ (F : Hp) (d : Addr) (kws : List (Key × V)) (kvs : List (D × D)), x = .ref d ∧ Same F H1 ∧ H1 d = some (.dK kws) ∧ KwIs X.K G F kws kvs ∧ okSort (itemsD kvs) = true ∧
      ∀ (as : List Addr) ys p, as.Nodup → (∀ t ∈ as, H1 t = none) → IsDs X.K G (putT F as kws) ys (sortD (itemsD kvs)) → putT H1 as kws p = none → Q (.ref p) (upd (putT H1 as kws) p (.lst ys)), ⟨fun pins s σ H Q I h => ?_⟩, fun σ H ρ F fp Q S h => ?_⟩
  · refine Call_ (ld_blt (u := .builtin "sorted") I hg hm (by decide +kernel) ?_)
    refine PyProof.Rows.callWith_builtin1 (PyProof.Rows.args_cons ?_ rfl) rfl rfl
    refine wpAny_Call_method (T := "dict") (id := "dict.items") hbase rfl hline F.plainAttrs_dict F.slot_dict_items F.type_dict_items (thn (pa.run pins s σ H _ I h) fun u s1 ⟨x, H1, I1, rx, F1, d, kws, kvs, ex, sub, hd, hk, hok, q⟩ => ?_)
    subst ex
    obtain rfl : u = Value.ref d := rx
    obtain ⟨hz, hs0, vs, kv, hdo⟩ := I1.hok d _ hd
    obtain ⟨ep, hat⟩ := hdo.dictAt
    have I2 : Inv X pins σ H1 { s1 with heap := s1.heap.push { cls := .type "dict_items", data := .fields #[.ref d] } } := I1.kept (t' := s1.toks) fun b ob q => Heap.get?_push_of_some _ q
    refine ⟨hdo.typeIs, hdo.mapOf.noDict, ?_⟩
    show wpAny _ _ (callWith cpos (.builtin "dict.items") [.ref d] [] []) _ X.xe s1
    refine method_meetsIn F.slot_dict_items F.entry_dict_items rfl (PySem.evalArgs_none ⟨rfl, hdo.typeIs, F.args_dict_items_1 _, _, meets_dict_items (mixKind X.prog X.w) d hs0, ⟨vs, hdo⟩, ?_⟩)
    refine PyProof.Rows.args_nil ?_
    exact sorted_coll (G := G) hu (gath_items (I1.ok.hd hc) I2 sub ⟨_, Heap.get?_push_size _ rfl, rfl, rfl⟩ hd hk fun as nd new => ⟨hok, fun ys p i n => q as ys p nd new i n⟩)
  · refine qa σ H ρ F fp _ S (h.bind fun u ρ1 v F1 fp1 H1 _ e1 S1 r1 h1 => ?_)
    split at h1
    · rename_i kvs em
      split at h1
      · rename_i hok
        obtain ⟨d, kws, rfl, hd, hk⟩ := own_mU S1 r1 em
        refine ⟨F1, d, kws, kvs, rfl, S1.sub, hd, hk, hok, fun as ys p nd new i n => ?_⟩
        have newF : ∀ t ∈ as, F1 t = none := fun t ht => by
          cases q : F1 t with
          | none => rfl
          | some u => have := S1.sub t u q; rw [new t ht] at this; cases this
        have oH : Same H1 (putT H1 as kws) := putT_old as kws nd new
        have oF : Same F1 (putT F1 as kws) := putT_old as kws nd newF
        have sFH : Same (putT F1 as kws) (putT H1 as kws) := putT_same as kws S1.sub
        have pH : H1 p = none := by
          cases q : H1 p with
          | none => rfl
          | some u => have := oH p u q; rw [n] at this; cases this
        have pF : putT F1 as kws p = none := by
          cases q : putT F1 as kws p with
          | none => rfl
          | some u => have := sFH p u q; rw [n] at this; cases this
        refine h1.new S1 (F' := putT F1 as kws) ⟨oH.trans (same_new n), oF, sFH.trans (same_new n), fun b o e => ?_, fun b ps e => putT_nt as kws b ps e, ⟨p, ys, rfl, upd_same .., i⟩, fun b hb => ?_⟩
        · rcases putT_new as kws b o e with e | e
          · exact .inl e
          · exact .inr (new b e)
        · cases hb
          exact ⟨pH, pF⟩
      · exact h1.elim
    · exact h1.elim
end
end Pv

namespace Pv
open PySem PySem.Spec PyProof.Rows L2
/-! ### a def called with what is one's own, lent as it is: it tells an atom, and keeps nothing -/
def atomD : D → Bool
  | .non => true | .bl _ => true | .int _ => true | .str _ => true
  | _ => false
@[simp] def outB1 (o : OutF) (ρ : Ev) : Out U := match o with
  | .ok (.d x) _ => if atomD x = true then .ok (.v (.d x)) ρ else .bad
  | _ => .bad
@[simp] def callBU (sem : SemF) (us : List U) (ρ : Ev) : Out U := match views ρ us with
  | some xs => outB1 (sem (xs.map .d)) ρ
  | none => .bad
@[simp] def callBS (sem : SemF) (ga : SemA) : SemE := fun ρ => (ga ρ).bind fun us ρ1 => callBU sem us ρ1
section
variable {X : Cx} {K : PySem.W.Frag} {G : Tab} {W : WX} {F H : Hp} {fp : Addr → Prop} {ρ : Ev} {σ : L2.St}
theorem IsD.atom {F F' : Hp} {v : V} {x : Pv.D} (h : IsD K G F v x) (a : atomD x = true) : IsD K G F' v x := by
  cases h <;> first | (cases a; done) | constructor
theorem fls_at {F H : Hp} : ∀ {vs : List V} {xs : List Pv.D}, SubT G F H → Fls K G F H vs xs → ∀ (i : Nat) (a : A), ((xs.map A.d).map some)[i]? = some (some a) → ∃ v, (vs.map some)[i]? = some (some v) ∧ IsA K G (noT G H) H v a
  | _, _, _, .nil, i, a, e => by simp at e
  | v :: vs, x :: xs, s, .cons h t, 0, a, e => by
    simp at e; subst e
    exact ⟨v, rfl, h.isT s⟩
  | v :: vs, x :: xs, s, .cons h t, i + 1, a, e => by
    obtain ⟨w, e1, e2⟩ := fls_at s t i a (by simpa using e)
    exact ⟨w, by simpa using e1, e2⟩
theorem run_callB {vs : List V} {us : List U} {xs : List Pv.D} {Q : VK} {E : XK} {ar : Nat} {sem : SemF} (har : ∀ as, as.length ≠ ar → sem as = .bad) (S : Sk K G F fp H σ ρ) (r : RUs K G F fp H σ ρ vs us) (e : views ρ us = some xs)
    (h : Run K G W σ F fp H (RU K G) (outB1 (sem (xs.map .d)) ρ) Q) : spF K G ar sem vs H Q E := by
  have fl := fls_of S r e
  have hl : vs.length = xs.length := fl.length
  have har' : vs.length = ar := by
    rw [hl]
    refine Decidable.byContradiction fun z => ?_
    rw [har (xs.map .d) (by rwa [List.length_map])] at h
    exact h
  have key : ∀ (i : Nat) (w : V) (a : A) (b : Addr), Sl (vs.map some) ((xs.map A.d).map some) i w a → Own H w a b → False := fun i w a b s o => by
    have s2 := s.2
    rw [List.getElem?_map, List.getElem?_map] at s2
    cases q : xs[i]? with
    | none => rw [q] at s2; simp at s2
    | some x => rw [q] at s2; simp at s2; subst s2; simp at o
  refine ⟨har', noT G H, fun _ => False, xs.map .d, ⟨S.sub.noT, by simp [hl], fls_at S.sub fl, fun i w a b s o => (key i w a b s o).elim, fun i j w w' a c b _ s _ o _ => (key i w a b s o).elim⟩, ?_⟩
  cases q : sem (xs.map .d) with
  | bad => rw [q] at h; exact h
  | exc x ws => rw [q] at h; exact (show False from h).elim
  | ok a ws =>
    rw [q] at h
    cases a with
    | l _ => exact (show False from h).elim
    | m _ => exact (show False from h).elim
    | n _ _ => exact (show False from h).elim
    | d x =>
      intro v H' F' fp' ex S' r'
      simp only [outB1] at h
      split at h
      · rename_i ha
        have hH : Same (noT G H) H' := ex.fr.trans S'.sub.s
        exact h v H' F fp ⟨Same.refl _, fun b o eb _ nt => hH b o (noT_at eb nt), fun b o eb => .inl eb, fun b eb => .inl eb, ex.live⟩ (S.step hH S'.sub.t) ⟨IsD.atom r'.1 ha, fun b o => by simp at o⟩
      · exact h.elim
variable {e : Expr} {es : List Expr} {ga : SemA} {k : Nat} {f : Addr} {fd : FuncData} {ps : List Str} {ar : Nat} {sem : SemF} {x : Str} {p pos : Pos}
theorem ee_callLent (Fk : FnG X.prog X.w X.K X.mg X.base (L2.CX X.prog X.w) k f fd ps (spF X.K G ar sem)) (har : ∀ as, as.length ≠ ar → sem as = .bad) (hr : RoomG k X.A) (hg : Gl X x) (hm : X.mg x = some (.ref f)) (hk : PySem.W.keepIn X.K (.ref f) = true) (hb : Binds X.K fd ps [])
    (tk : Takes X W) (ha : EA X G W (e :: es) ga) (hs : (e :: es).all starless = true) (hdb : (x == ("__debug__" : Str)) = false) : EE X G W (.Call (.Name x p) (e :: es) [] pos) (callBS sem ga) := by
  obtain ⟨t, pa, qa⟩ := ha.ex
  simp only [List.all_cons, Bool.and_eq_true] at hs
  refine ⟨_, pe_callG Fk hr hg hm hk hb (fun σ => passAt tk σ) pa hdb (starEach_c hs.1 _ _) (starless_any hs.2), fun σ H ρ F fp Q S h => ?_⟩
  refine qa σ H ρ F fp _ S (Run.bind h fun us ρ1 vs F1 fp1 H1 zq1 e1 S1 r1 h1 => ?_)
  simp only [callBU] at h1
  split at h1
  · rename_i xs ex
    exact run_callB har S1 r1 ex h1
  · exact h1.elim
end
end Pv

namespace Pv
open PySem PySem.Spec PyProof.Rows L2

/-! ### lists of one's own that hold lists of one's own -/
def ownE : U → Option (Bool × D)
  | .v (.d x) => some (false, x)
  | .v (.l xs) => some (true, .lst xs)
  | _ => none
def ownEs : List U → Option (List Bool × List D)
  | [] => some ([], [])
  | u :: us => match ownE u with
    | some (o, d) => match ownEs us with
      | some (os, ds) => some (o :: os, d :: ds)
      | none => none
    | none => none
section
variable {X : Cx} {G : Tab} {W : WX} {J : List Nat} {K : PySem.W.Frag} {F F' H H' : Hp} {fp fp' : Addr → Prop} {σ : L2.St} {ρ : Ev} {v : V} {vs : List V} {u : U} {us : List U} {p b : Addr} {os : List Bool} {ds : List D} {pos : Pos} {es : List Expr}
/-- the addresses of the entries that are one's own -/
def OwnK (os : List Bool) (vs : List V) (b : Addr) : Prop := ∃ k : Nat, os[k]? = some true ∧ vs[k]? = some (.ref b)
theorem OwnK.nil : ¬ OwnK [] [] b := by rintro ⟨k, h, _⟩; simp at h
theorem ownK_cons {o : Bool} : OwnK (o :: os) (v :: vs) b ↔ (o = true ∧ v = .ref b) ∨ OwnK os vs b := by
  constructor
  · rintro ⟨k, h1, h2⟩
    cases k with
    | zero => simp at h1 h2; exact .inl ⟨h1, h2⟩
    | succ k => exact .inr ⟨k, by simpa using h1, by simpa using h2⟩
  · rintro (⟨rfl, rfl⟩ | ⟨k, h1, h2⟩)
    · exact ⟨0, rfl, rfl⟩
    · exact ⟨k + 1, by simpa using h1, by simpa using h2⟩
theorem own_n (h : H p = some (.lst vs)) : Own H (.ref p) (.n os ds) b ↔ b = p ∨ OwnK os vs b :=
  ⟨fun o => o.imp id fun ⟨vs', k, e1, e2, e3⟩ => by rw [h] at e1; cases e1; exact ⟨k, e2, e3⟩, fun o => o.imp id fun ⟨k, e2, e3⟩ => ⟨vs, k, h, e2, e3⟩⟩
theorem ownE_is {o : Bool} {d : D} (r : RU K G F fp H σ ρ v u) (e : ownE u = some (o, d)) (hp : H p = none) (o' : HO) : IsE K G F (upd H p o') p o v d ∧ ∀ b, o = true → v = .ref b → OwnU H v u b := by
  cases u with
  | s i => cases e
  | v a =>
    cases a with
    | d x => cases e; exact ⟨r.1, fun b z => by cases z⟩
    | l xs =>
      cases e
      obtain ⟨q, ws, rfl, h1, h2⟩ := r.1
      exact ⟨⟨q, ws, xs, rfl, rfl, ne_of_none h1 hp, by rw [upd_ne (ne_of_none h1 hp)]; exact h1, h2⟩, fun b _ z => by cases z; rfl⟩
    | m _ => cases e
    | n _ _ => cases e
theorem ownEs_is (hp : H p = none) (o' : HO) (r : RUs K G F fp H σ ρ vs us) : ∀ {os : List Bool} {ds : List D}, ownEs us = some (os, ds) → IsEs K G F (upd H p o') p os vs ds ∧ ∀ b, OwnK os vs b → OwnUs H vs us b := by
  induction r with
  | nil => intro os ds e; cases e; exact ⟨.nil, fun b o => (OwnK.nil o).elim⟩
  | @cons v vs u us r t dj ih =>
    intro os ds e
    unfold ownEs at e
    split at e
    · rename_i o d e1
      split at e
      · rename_i os' ds' e2
        cases e
        obtain ⟨i1, i2⟩ := ih e2
        obtain ⟨j1, j2⟩ := ownE_is r e1 hp o'
        refine ⟨.cons j1 i1 fun ho k z1 z2 => ?_, fun b o => ?_⟩
        · subst ho
          obtain ⟨q, ws, xs, rfl, _⟩ := j1
          exact dj q (j2 q rfl rfl) (i2 q ⟨k, z1, z2⟩)
        · rcases ownK_cons.mp o with ⟨h1, h2⟩ | h
          · exact .inl (j2 b h1 h2)
          · exact .inr (i2 b h)
      · cases e
    · cases e
theorem ownEs_len : ∀ {us : List U} {os : List Bool} {ds : List D}, ownEs us = some (os, ds) → ds.length = us.length
  | [], _, _, e => by cases e; rfl
  | u :: us, _, _, e => by
    unfold ownEs at e
    split at e
    · split at e
      · rename_i e2
        cases e
        simp [ownEs_len e2]
      · cases e
    · cases e
@[simp] def dispN (ga : SemA) : SemE := fun ρ => (ga ρ).bind fun us ρ1 => match ownEs us with
  | some (os, ds) => if ds.length ≤ 16777216 then .ok (.v (.n os ds)) ρ1 else .bad
  | none => .bad
theorem IsEs.length (h : IsEs K G F H p os vs ds) : vs.length = ds.length := by
  induction h with
  | nil => rfl
  | cons _ _ _ ih => simp [ih]
theorem RUs.own_all (r : RUs K G F fp H σ ρ vs us) {b : Addr} (o : OwnUs H vs us b) : F b = none ∧ H b ≠ none ∧ ∀ i w c, Sl σ ρ i w c → ¬ Own H w c b := by
  induction r with
  | nil => exact o.elim
  | @cons v vs u us r t dj ih =>
    rcases o with o | o
    · cases u with
      | s i => cases o
      | v a => exact ⟨(r.2 b o).2.1, r.1.live o, (r.2 b o).2.2⟩
    · exact ih o
theorem ee_lstN {g : SemA} (h : EA X G W es g) : EE X G W (.List es pos) (dispN g) := by
  obtain ⟨t1, p1, q1⟩ := h.ex
  refine ⟨_, pe_lst p1, fun σ H ρ F fp Q S h => ?_⟩
  refine q1 σ H ρ F fp _ S (h.bind fun us ρ1 vs F1 fp1 H1 _ e1 S1 r1 h1 => ?_)
  split at h1
  · rename_i os ds eo
    split at h1
    · rename_i hl
      refine ⟨?_, fun p hp => ?_⟩
      · rw [r1.length, ← ownEs_len eo, ← lim_eq]; exact hl
      · obtain ⟨i1, i2⟩ := ownEs_is hp (.lst vs) r1 eo
        have e2 : Ex F1 fp1 H1 F1 (fun b => fp1 b ∨ b = p) (upd H1 p (.lst vs)) := ⟨Same.refl _, fun b o z _ _ => same_new hp b o z, fun _ _ z => .inl z, fun b z => z.imp id fun z => by rw [z]; exact hp, fun b z => same_live (same_new hp) z⟩
        refine h1 (.ref p) _ F1 _ e2 ((S1.newH hp).more fun _ z => .inl z) ⟨⟨p, vs, rfl, upd_same, i1⟩, fun b o => ?_⟩
        rcases (own_n upd_same).mp o with rfl | o
        · exact ⟨.inr rfl, Same.fnone S1.sub hp, fun i w c s q => (S1.is s).live ((S1.own_iff (same_new hp) s).1 q) hp⟩
        · have o' := i2 b o
          obtain ⟨g1, g2, g3⟩ := r1.own_all o'
          exact ⟨.inl (r1.own_fp o'), g1, fun i w c s q => g3 i w c s ((S1.own_iff (same_new hp) s).1 q)⟩
    · exact h1.elim
  · exact h1.elim
end
end Pv

namespace Pv
open PySem PySem.Spec PyProof.Rows L2

/-! ### a test over what one lends: all that stands is read as data, and stays -/
def dataA : A → D
  | .d x => x
  | .l ds => .lst ds
  | .m kvs => .dct (kvs.map (·.1)) (kvs.map (·.2))
  | .n _ ds => .lst ds
def lent (ρ : Ev) : Ev := ρ.map fun o => o.map fun a => .d (dataA a)
@[simp] def lendT (t : SemT) : SemT := fun ρ => match t (lent ρ) with
  | .ok k _ => .ok k ρ
  | _ => .bad
section
variable {X : Cx} {G : Tab} {W : WX} {J : List Nat} {K : PySem.W.Frag} {F F' H H' : Hp} {fp fp' T : Addr → Prop} {σ : L2.St} {ρ : Ev} {v : V} {vs : List V} {a a' : A} {p b : Addr} {os : List Bool} {ds : List D} {c : Expr} {t : SemT} {i : Nat} {o' : HO}
theorem IsEs.data (s : SubT G F H) (h : IsEs K G F H p os vs ds) : IsDs K G (noT G H) vs ds := by
  induction h with
  | nil => exact .nil
  | @cons o os v vs d ds h t n ih =>
    refine .cons ?_ ih
    cases o with
    | false => exact IsD.mono s.inT h
    | true => obtain ⟨b, ws, xs, rfl, rfl, h1, h2, h3⟩ := h; exact .lst (noT_at h2 (plain_lst _).1) (h3.mono s.inT)
theorem IsA.data (s : SubT G F H) (h : IsA K G F H v a) : IsD K G (noT G H) v (dataA a) := by
  cases a with
  | d x => exact IsD.mono s.inT h
  | l ds => obtain ⟨p, vs, rfl, h1, h2⟩ := h; exact .lst (noT_at h1 (plain_lst _).1) (h2.mono s.inT)
  | m kvs => obtain ⟨p, kws, rfl, h1, h2, h3⟩ := h; exact .dct (.inl (noT_at h1 (plain_dK _).1)) h2 (h3.mono s.inT)
  | n os ds => obtain ⟨p, vs, rfl, h1, h2⟩ := h; exact .lst (noT_at h1 (plain_lst _).1) (h2.data s)
theorem lent_at {i : Nat} {a : A} (h : (lent ρ)[i]? = some (some a)) : ∃ c, ρ[i]? = some (some c) ∧ a = .d (dataA c) := by
  unfold lent at h
  rw [List.getElem?_map] at h
  cases q : ρ[i]? with
  | none => rw [q] at h; simp at h
  | some o =>
    cases o with
    | none => rw [q] at h; simp at h
    | some c => rw [q] at h; simp at h; exact ⟨c, rfl, h.symm⟩
theorem Sk.lent (S : Sk K G F fp H σ ρ) : Sk K G (noT G H) (fun _ => False) H σ (Pv.lent ρ) where
  sub := S.sub.noT
  len := by unfold Pv.lent; rw [List.length_map]; exact S.len
  at_ := fun i a h => by
    obtain ⟨c, h1, rfl⟩ := lent_at h
    obtain ⟨v, s, q⟩ := S.get h1
    exact ⟨v, s.1, q.data S.sub⟩
  own := fun i v a b s o => by
    obtain ⟨c, h1, rfl⟩ := lent_at s.2
    simp at o
  inj := fun i j v w a c b _ s _ o _ => by
    obtain ⟨c, h1, rfl⟩ := lent_at s.2
    simp at o
theorem et_lend (h : ET X G W c t) : ET X G W c (lendT t) := by
  obtain ⟨tt, p, q⟩ := h.ex
  refine ⟨tt, p, fun σ H ρ F fp Q S h => q σ H (lent ρ) (noT G H) (fun _ => False) Q S.lent ?_⟩
  simp only [lendT] at h
  cases e : t (lent ρ) with
  | bad => rw [e] at h; exact h.elim
  | exc x ρ' => rw [e] at h; exact h.elim
  | ok k ρ' =>
    rw [e] at h
    intro b H' F' fp' ex S' r
    have hH : Same (noT G H) H' := ex.fr.trans S'.sub.s
    exact h b H' F fp ⟨Same.refl _, fun b o eb _ nt => hH b o (noT_at eb nt), fun b o eb => .inl eb, fun b eb => .inl eb, ex.live⟩ (S.step hH S'.sub.t) r

/-! ### x[k].append(y), where the k-th entry of x is one's own -/
theorem IsEs.get (h : IsEs K G F H p os vs ds) : ∀ {k : Nat} {d : D}, os[k]? = some true → ds[k]? = some d → ∃ b ws xs, vs[k]? = some (.ref b) ∧ d = .lst xs ∧ b ≠ p ∧ H b = some (.lst ws) ∧ IsDs K G F ws xs := by
  induction h with
  | nil => intro k d z; simp at z
  | @cons o os v vs d ds h t n ih =>
    intro k d' z w
    cases k with
    | zero =>
      simp at z w; subst z; subst w
      obtain ⟨b, ws, xs, rfl, rfl, h1, h2, h3⟩ := h
      exact ⟨b, ws, xs, rfl, rfl, h1, h2, h3⟩
    | succ k => simpa using ih (k := k) (by simpa using z) (by simpa using w)
theorem IsEs.poke {ws : List V} {ys : List D} (h : IsEs K G F H p os vs ds) (hy : IsDs K G F ws ys) : ∀ {k : Nat}, os[k]? = some true → vs[k]? = some (.ref b) → IsEs K G F (upd H b (.lst ws)) p os vs (ds.set k (.lst ys)) := by
  induction h with
  | nil => intro k z; simp at z
  | @cons o os v vs d ds h t n ih =>
    intro k z w
    cases k with
    | zero =>
      simp at z w; subst z; subst w
      obtain ⟨b', ws', xs, e, rfl, h1, h2, h3⟩ := h
      cases e
      refine .cons ⟨b, ws, ys, rfl, rfl, h1, upd_same, hy⟩ (t.frame (Same.refl _) fun b' o k z w hb => ?_) n
      rw [upd_ne (fun e => n rfl k z (by rw [w, e]))]; exact hb
    | succ k =>
      have z' : os[k]? = some true := by simpa using z
      have w' : vs[k]? = some (.ref b) := by simpa using w
      refine .cons ?_ (ih z' w') n
      cases o with
      | false => exact h
      | true =>
        obtain ⟨b', ws', xs, rfl, rfl, h1, h2, h3⟩ := h
        exact ⟨b', ws', xs, rfl, rfl, h1, by rw [upd_ne (fun e => n rfl k z' (by rw [w', e]))]; exact h2, h3⟩
/-- a name's thing of its own changed, while the name was hidden -/
theorem Sk.reveal {o1 : HO} (S : Sk K G F fp H σ ρ) (s : σ[i]? = some (some v)) (hT : ∀ c, T c → F c = none ∧ ¬ fp c) (hb : T b) (e1 : H b = some o1) (pl : PlainO o1) (q : IsA K G F (upd H b o') v a') (ho : ∀ c, Own (upd H b o') v a' c → T c) :
    Sk K G F (fun c => fp c ∨ T c) (upd H b o') σ (ρ.set i (some a')) := by
  have far : ∀ j w c x, Sl σ ρ j w c → Own H w c x → x ≠ b := fun j w c x s o e => by
    subst e
    exact (hT _ hb).2 (S.own j w c _ s o).1
  have conv : ∀ j w c x, Sl σ ρ j w c → (Own (upd H b o') w c x ↔ Own H w c x) := fun j w c x s => (S.is s).own_iff fun y o ho hy => by rw [upd_ne (far j w c y s ho)]; exact hy
  have S1 : Sk K G F (fun c => fp c ∨ T c) (upd H b o') σ ρ := {
    sub := S.sub.poke (hT b hb).1 e1 pl
    len := S.len
    at_ := fun j c h => by
      obtain ⟨w, s, q⟩ := S.get h
      exact ⟨w, s.1, q.frame (Same.refl _) fun y o ho hy => by rw [upd_ne (far j w c y s ho)]; exact hy⟩
    own := fun j w c x s o => by
      have o1 := (conv j w c x s).1 o
      exact ⟨.inl (S.own j w c x s o1).1, (S.own j w c x s o1).2⟩
    inj := fun j k w w' c c' x n s s' o o2 => S.inj j k w w' c c' x n s s' ((conv j w c x s).1 o) ((conv k w' c' x s').1 o2) }
  have S2 := S1.set (i := i) q fun c o => ⟨.inr (ho c o), (hT c (ho c o)).1, fun j w x _ s o1 => (hT c (ho c o)).2 (S.own j w x c s ((conv j w x c s).1 o1)).1⟩
  have e : σ.set i (some v) = σ := by
    apply List.ext_getElem?
    intro j
    by_cases hj : j = i
    · subst hj
      rw [List.getElem?_set_self (List.getElem?_eq_some_iff.mp s).1, s]
    · rw [List.getElem?_set_ne (fun z => hj z.symm)]
  rwa [e] at S2
/-- what the call does behind the looks at the name and the place -/
def appNU (ga : SemA) (u w : U) (ρ : Ev) : Out U := match u, w with
  | .s i, .v (.d (.int k)) => match ρ[i]? with
    | some (some (.n os ds)) => match ixN ds.length k with
      | some j => match os[j]?, ds[j]? with
        | some true, some (.lst xs) => (ga (ρ.set i none)).bind fun us ρ1 => (frzs us ρ1).bind fun ys ρ2 => match ys with
          | [y] => if xs.length < 16777216 then .ok (.v (.d .non)) (ρ2.set i (some (.n os (ds.set j (.lst (xs ++ [y])))))) else .bad
          | _ => .bad
        | _, _ => .bad
      | none => .bad
    | _ => .bad
  | _, _ => .bad
@[simp] def appNS (fa fb : SemE) (ga : SemA) : SemE := fun ρ => (fa ρ).bind fun u ρ1 => (fb ρ1).bind fun w ρ2 => appNU ga u w ρ2
theorem IsEs.nd (h : IsEs K G F H p os vs ds) : ∀ {k : Nat} {d : D}, os[k]? = some true → ds[k]? = some d → ∃ b ws xs, vs[k]? = some (.ref b) ∧ d = .lst xs ∧ b ≠ p ∧ H b = some (.lst ws) ∧ IsDs K G F ws xs := h.get
theorem ee_appN {e z kb : Expr} {p2 apos cpos : Pos} {name : Str} {id : String} {fa fb : SemE} {ga : SemA} (pa : PlainAttrs "list") (slot : Slot "list" name id) (hty : typeOf (.builtin id) = pure (.type "method_descriptor")) (hm : MtR X id rAppend)
    (ho : EE X G W z fa) (hk : EE X G W kb fb) (ha : EA X G W [e] ga) (hsl : sliceless kb = true) (hs : starless e = true) (hline : (apos.endLine == cpos.line) = true) :
    EE X G W (.Call (.Attribute (.Subscript z kb p2) name apos) [e] [] cpos) (appNS fa fb ga) := by
  obtain ⟨ta, pz, qa⟩ := ho.ex
  obtain ⟨tb, pk, qb⟩ := hk.ex
  obtain ⟨t, p, q⟩ := ha.ex
  have hs' : [e].all starless = true := by simp [hs]
  refine ⟨_, pe_bm pa slot hty hm (pe_ix ix_seq pz pk (sub_c hsl)) p (attrBase_ok rfl _ _ _) (by
    rw [starless_all hs']
    simp only [backToKw, keywordEach, List.map_nil, List.all_nil, Bool.true_and, decide_eq_true_eq, List.length_nil, List.isEmpty_nil, if_true, List.length_singleton]
    omega) hline (starEach_c hs _ _) (starless_any rfl), fun σ H ρ F fp Q S h => ?_⟩
  refine two_run qa qb S h fun u w ρ1 v y F1 fp1 H1 S1 r1 r2 dj h1 => ?_
  unfold appNU at h1
  split at h1
  · rename_i i k
    split at h1
    · rename_i os ds hi
      split at h1
      · rename_i j hj
        split at h1
        · rename_i xs ho hd
          have s : Sl σ ρ1 i v (.n os ds) := ⟨r1, hi⟩
          obtain ⟨l, vs, rfl, hl, hes⟩ := S1.is s
          obtain ⟨b, ws, xs', hb, e', hbl, hH, hw⟩ := hes.get ho hd
          cases e'
          have hy : y = .int k := by have := r2.1; cases this; rfl
          subst hy
          have hat : atI vs k = some (.ref b) := by unfold atI; rw [hes.length, hj]; exact hb
          refine .inl ⟨l, vs, k, .ref b, rfl, rfl, SqL.of hl, hat, .inl ⟨rfl, ws, SqL.of hH⟩, ?_⟩
          -- the name hidden
          have hT : ∀ c, Own H1 (.ref l) (.n os ds) c → fp1 c := fun c o => (S1.own i _ _ c s o).1
          have back : ∀ j w c, Sl σ (ρ1.set i none) j w c → j ≠ i ∧ Sl σ ρ1 j w c := fun j w c t => by
            have t2 := t.2
            by_cases hji : j = i
            · subst hji
              rw [List.getElem?_set_self (List.getElem?_eq_some_iff.mp hi).1] at t2
              cases t2
            · rw [List.getElem?_set_ne (fun z => hji z.symm)] at t2
              exact ⟨hji, t.1, t2⟩
          have S2 : Sk X.K G F1 (fun c => fp1 c ∧ ¬ Own H1 (.ref l) (.n os ds) c) H1 σ (ρ1.set i none) := by
            have S0 := S1.unset i
            refine ⟨S0.sub, S0.len, S0.at_, fun j w c x t o => ⟨⟨(S0.own j w c x t o).1, fun z => ?_⟩, (S0.own j w c x t o).2⟩, S0.inj⟩
            obtain ⟨hji, t'⟩ := back j w c t
            exact S1.inj j i w _ c _ x hji t' s o z
          refine q σ H1 _ F1 _ _ S2 (Run.bindT (T := Own H1 (.ref l) (.n os ds)) hT h1 fun us ρ2 zs F2 fp2 H2 _ e2 S3 r3 h2 => ?_)
          cases qf : frzs us ρ2 with
          | bad => rw [qf] at h2; exact h2.elim
          | exc x ρ' => exact absurd qf frzs_nox
          | ok ys ρ3 =>
            rw [qf] at h2
            obtain ⟨F3, e3, S4, d4⟩ := frzs_ok S3 r3 qf
            have h3 := Run.later (⟨e3.fr, fun _ _ z _ _ => z, fun c o z => (e3.new c o z).imp (fun y => y) (.imp (fun y => y) .inl), fun _ z => .inl z, fun _ z => z⟩ : Ex F2 (fun c => fp2 c ∨ Own H1 (.ref l) (.n os ds) c) H2 F3 (fun c => fp2 c ∨ Own H1 (.ref l) (.n os ds) c) H2) h2
            simp only [Out.bind_ok] at h3
            split at h3
            · rename_i yd
              split at h3
              · rename_i hlen
                cases d4 with
                | @cons vy _ _ _ dy d4 =>
                  cases d4
                  have hk : ∀ c o, Own H1 (.ref l) (.n os ds) c → H1 c = some o → H2 c = some o := fun c o z hc => e2.keep c o hc (fun y => y.2 z) ((S1.is s).nt z hc)
                  have oH : ∀ {c}, Own H1 (.ref l) (.n os ds) c ↔ c = l ∨ OwnK os vs c := own_n hl
                  have hl2 := hk l _ (oH.mpr (.inl rfl)) hl
                  have hbT : Own H1 (.ref l) (.n os ds) b := oH.mpr (.inr ⟨j, ho, hb⟩)
                  have hH2 := hk b _ hbT hH
                  have F13 : Same F1 F3 := e2.fr.trans e3.fr
                  have hes3 : IsEs X.K G F3 H2 l os vs ds := hes.frame F13 fun b' o k' z1 z2 hz => hk b' o (oH.mpr (.inr ⟨k', z1, z2⟩)) hz
                  have live : ∀ c, Own H1 (.ref l) (.n os ds) c → H1 c ≠ none := fun c z => (S1.is s).live z
                  have hT2 : ∀ c, Own H1 (.ref l) (.n os ds) c → F3 c = none ∧ ¬ fp2 c := fun c z => by
                    have n2 : ¬ fp2 c := fun y => by
                      rcases e2.nfp c y with g | g
                      · exact g.2 z
                      · exact live c z g
                    refine ⟨?_, n2⟩
                    cases qq : F3 c with
                    | none => rfl
                    | some o =>
                      rcases e3.new c o qq with g | g | g
                      · rcases e2.new c o g with g | g | g
                        · rw [(S1.own i _ _ c s z).2] at g; cases g
                        · exact absurd g (live c z)
                        · exact absurd z g.2
                      · rcases oH.mp z with rfl | ⟨k', z1, z2⟩
                        · rw [hl2] at g; cases g
                        · exact absurd g (hes3.live z1 z2)
                      · exact absurd g n2
                  have hl3 : upd H2 b (.lst (ws ++ [vy])) l = some (.lst vs) := by rw [upd_ne (fun e => hbl e.symm)]; exact hl2
                  have q3 : IsA X.K G F3 (upd H2 b (.lst (ws ++ [vy]))) (.ref l) (.n os (ds.set j (.lst (xs ++ [yd])))) := ⟨l, vs, rfl, hl3, hes3.poke ((hw.mono F13).append (.cons dy .nil)) ho hb⟩
                  refine ⟨b, ws, _, rfl, rfl, hH2, by rw [hw.length, ← lim_eq]; exact hlen, ?_⟩
                  refine h3 .non _ F3 _ (Ex.poke (.inr hbT)) (S4.reveal s.1 hT2 hbT hH2 (plain_lst _) q3 fun c z => ?_) ⟨IsD.non, fun b o => by simp at o⟩
                  exact oH.mpr ((own_n hl3).mp z)
              · exact h3.elim
            · exact h3.elim
        · exact h1.elim
      · exact h1.elim
    · exact h1.elim
  · exact h1.elim
end
end Pv

namespace Pv
open PySem PySem.Spec PyProof.Rows L2

/-! ### comprehensions whose entries may be one's own -/
@[simp] def lendE (f : SemE) : SemE := fun ρ => match f (lent ρ) with
  | .ok (.v (.d x)) _ => if atomD x = true then .ok (.v (.d x)) ρ else .bad
  | _ => .bad
def compNL (tg : SemG) (f : SemE) (vs : List Nat) : List D → Ev → Out (List Bool × List D)
  | [], ρ => .ok ([], []) ρ
  | d :: ds, ρ => match tg d ρ with
    | none => .bad
    | some ρ1 => (f ρ1).nox.bind fun u ρ3 => match ownE u with
      | some (o, y) => (compNL tg f vs ds (wipeE ρ3 vs)).bind fun ys ρ4 => .ok (o :: ys.1, y :: ys.2) ρ4
      | none => .bad
def compNS (it : SemI) (tg : SemG) (f : SemE) (vs : List Nat) : SemE := fun ρ =>
  (it ρ).bind fun ds ρ1 => if ds.length ≤ 16777216 then (compNL tg f vs ds (wipeE ρ1 vs)).bind fun ys ρ2 => .ok (.v (.n ys.1 ys.2)) ρ2 else .bad
section
variable {X : Cx} {G : Tab} {W : WX} {J : List Nat} {K : PySem.W.Frag} {F F' H H' : Hp} {fp fp' T : Addr → Prop} {σ : L2.St} {ρ : Ev} {v : V} {u : U} {vs acc : List V} {p b : Addr} {os : List Bool} {o : Bool} {d : D} {ds zs : List D} {R : Addr → Prop}
theorem ownE_is2 {o' : HO} (r : RU K G F fp H σ ρ v u) (e : ownE u = some (o, d)) (hne : ¬ fp p) : IsE K G F (upd H p o') p o v d ∧ ∀ b, o = true → v = .ref b → OwnU H v u b := by
  cases u with
  | s i => cases e
  | v a =>
    cases a with
    | d x => cases e; exact ⟨r.1, fun b z => by cases z⟩
    | l xs =>
      cases e
      have hq := r
      obtain ⟨q, ws, rfl, h1, h2⟩ := r.1
      have hn : q ≠ p := fun z => hne (by rw [← z]; exact (hq.2 q rfl).1)
      exact ⟨⟨q, ws, xs, rfl, rfl, hn, by rw [upd_ne hn]; exact h1, h2⟩, fun b _ z => by cases z; rfl⟩
    | m _ => cases e
    | n _ _ => cases e
theorem IsEs.lenO (h : IsEs K G F H p os vs ds) : os.length = vs.length := by
  induction h with
  | nil => rfl
  | cons _ _ _ ih => simp [ih]
theorem ownK_snoc (h : os.length = vs.length) (k : OwnK (os ++ [o]) (vs ++ [v]) b) : OwnK os vs b ∨ (o = true ∧ v = .ref b) := by
  obtain ⟨k, h1, h2⟩ := k
  by_cases hk : k < os.length
  · rw [List.getElem?_append_left hk] at h1
    rw [List.getElem?_append_left (by omega)] at h2
    exact .inl ⟨k, h1, h2⟩
  · rw [List.getElem?_append_right (by omega)] at h1
    rw [List.getElem?_append_right (by omega)] at h2
    have e : k - os.length = 0 := by
      by_cases z : k - os.length = 0
      · exact z
      · rw [List.getElem?_eq_none (by simp; omega)] at h1; cases h1
    rw [e] at h1
    rw [← h, e] at h2
    simp at h1 h2
    exact .inr ⟨h1, h2⟩
theorem IsEs.snoc (h : IsEs K G F H p os vs ds) (he : IsE K G F H p o v d) : (o = true → ∀ b, v = .ref b → ¬ OwnK os vs b) → IsEs K G F H p (os ++ [o]) (vs ++ [v]) (ds ++ [d]) := by
  induction h with
  | nil => exact fun _ => .cons he .nil fun _ k z => by simp at z
  | @cons o1 os v1 vs d1 ds h t n ih =>
    intro hn
    refine .cons h (ih fun z b e k => hn z b e (ownK_cons.mpr (.inr k))) fun ho k z1 z2 => ?_
    subst ho
    obtain ⟨b1, ws, xs, rfl, _⟩ := h
    rcases ownK_snoc t.lenO ⟨k, z1, z2⟩ with ⟨k', y1, y2⟩ | ⟨y1, y2⟩
    · exact n rfl k' y1 y2
    · exact hn y1 b1 y2 (ownK_cons.mpr (.inl ⟨rfl, rfl⟩))
/-- entries go along -/
theorem IsEs.carry (h : IsEs K G F H p os vs ds) (hq : ∀ b, OwnK os vs b → ¬ fp b ∧ F b = none ∧ R b) (e : Ex F fp H F' fp' H') : IsEs K G F' H' p os vs ds ∧ ∀ b, OwnK os vs b → ¬ fp' b ∧ F' b = none ∧ R b := by
  have live : ∀ b, OwnK os vs b → H b ≠ none := fun b ⟨k, z1, z2⟩ => h.live z1 z2
  refine ⟨h.frame e.fr fun b o k z1 z2 hb => e.keep b o hb (hq b ⟨k, z1, z2⟩).1 (by
    obtain ⟨o', g1, g2⟩ := h.plain z1 z2
    rw [g1] at hb; cases hb; exact g2.1), fun b k => ⟨fun z => ?_, ?_, (hq b k).2.2⟩⟩
  · rcases e.nfp b z with y | y
    · exact (hq b k).1 y
    · exact live b k y
  · cases q : F' b with
    | none => rfl
    | some o =>
      rcases e.new b o q with y | y | y
      · rw [(hq b k).2.1] at y; cases y
      · exact absurd y (live b k)
      · exact absurd y (hq b k).1
theorem compNL_inv {g : SemG} {f : SemE} {vs : List Nat} {ρ : Ev} {d : D} {ds : List D} {ρ' : Ev} {ys : List Bool × List D} (h : compNL g f vs (d :: ds) ρ = .ok ys ρ') :
    ∃ ρ1 u ρ3 o y ys', g d ρ = some ρ1 ∧ f ρ1 = .ok u ρ3 ∧ ownE u = some (o, y) ∧ compNL g f vs ds (wipeE ρ3 vs) = .ok ys' ρ' ∧ ys = (o :: ys'.1, y :: ys'.2) := by
  unfold compNL at h
  cases e1 : g d ρ with
  | none => rw [e1] at h; cases h
  | some ρ1 =>
    rw [e1] at h
    obtain ⟨u, ρ3, e2, h⟩ := Out.bind_inv h
    split at h
    · rename_i o y e3
      obtain ⟨ys', ρ4, e4, h⟩ := Out.bind_inv h
      cases h
      exact ⟨ρ1, u, ρ3, o, y, ys', rfl, Out.nox_ok e2, e3, e4, rfl⟩
    · cases h
theorem compNL_nox {g : SemG} {f : SemE} {vs : List Nat} : ∀ {ds : List D} {ρ : Ev} {x : X1} {ρ' : Ev}, compNL g f vs ds ρ ≠ .exc x ρ'
  | [], ρ, x, ρ', h => by cases h
  | d :: ds, ρ, x, ρ', h => by
    unfold compNL at h
    cases e1 : g d ρ with
    | none => rw [e1] at h; cases h
    | some ρ1 =>
      rw [e1] at h
      cases e2 : (f ρ1).nox with
      | bad => simp only [e2] at h; cases h
      | exc _ _ => exact absurd e2 Out.nox_nox
      | ok u ρ3 =>
        simp only [e2, Out.bind_ok] at h
        split at h
        · rename_i o y _
          cases e4 : compNL g f vs ds (wipeE ρ3 vs) with
          | bad => rw [e4] at h; cases h
          | exc _ _ => exact compNL_nox e4
          | ok ys ρ4 => rw [e4] at h; cases h
        · cases h
theorem compNL_wiped {g : SemG} {f : SemE} {vs : List Nat} : ∀ {ds : List D} {ρ ρ' : Ev} {ys : List Bool × List D}, compNL g f vs ds (wipeE ρ vs) = .ok ys ρ' → ∃ ρ'', ρ' = wipeE ρ'' vs
  | [], ρ, ρ', ys, h => by cases h; exact ⟨ρ, rfl⟩
  | d :: ds, ρ, ρ', ys, h => by
    obtain ⟨ρ1, u, ρ3, o, y, ys', _, _, _, h, _⟩ := compNL_inv h
    exact compNL_wiped h
theorem comp_runN {K : PySem.W.Frag} {Jt : It} {ds : List D} {g : SemG} {sl vs : List Nat} {f : SemE} {tg' : TG} {tt : TT} {te : TE} {σ : L2.St} {ρ1 : Ev} {F1 H1 : Hp} {fp1 : Addr → Prop} {Dn : Addr} {Qd : Hp → Prop}
    (qg : ∀ v x σ H ρ ρ' F fp (Q : L2.St → Hp → Prop), Sk K G F fp H σ ρ → IsD K G F v x → g x ρ = some ρ' → (∀ σ', Sk K G F fp H σ' ρ' → But sl σ σ' → Q σ' H) → tg' v σ H Q)
    (qt : ∀ σ H ρ F fp Q, Sk K G F fp H σ ρ → Run K G (fun _ _ _ _ => False) σ F fp H RB (ifsS none ρ) Q → tt σ H Q)
    (qe : ∀ σ H ρ F fp Q, Sk K G F fp H σ ρ → Run K G (fun _ _ _ _ => False) σ F fp H (RU K G) (f ρ) Q → te σ H Q)
    (hsl : ∀ i ∈ sl, i ∈ vs) (it : ItIs K G F1 Jt ds) (hl : ds.length ≤ 16777216) (S1 : Sk K G F1 fp1 H1 (L2.wipe σ vs) ρ1) (hD : H1 Dn = none) (hfp : ¬ fp1 Dn)
    {all : List Bool × List D} {ρz : Ev} (h : compNL g f vs ds ρ1 = .ok all ρz) (hP : ∀ acc F fp H, Mk1 K G F1 fp1 H1 Dn acc F fp H (L2.wipe σ vs) ρz → IsEs K G F H Dn all.1 acc all.2 → (∀ b, OwnK all.1 acc b → ¬ fp b ∧ F b = none ∧ (fp1 b ∨ H1 b = none)) → Qd H) :
    ∃ Wi : Nat → Nat → Hp → Prop, (∃ m, Wi 0 m (upd H1 Dn (.lst []))) ∧ ∀ i m H, Wi i m H →
      (Jt.stop i H ∧ Qd H) ∨ (Jt.go i H ∧ ∃ Nx : Hp → Prop, (∀ H', Nx H' → ∃ m', m' < m ∧ Wi (i + 1) m' H') ∧ ∀ x H', Jt.yld i H x H' → tg' x (L2.wipe σ vs) H' fun σ2 H2 => L2.wipe σ2 vs = L2.wipe σ vs ∧ tt σ2 H2 fun b H3 =>
        if b = true then te σ2 H3 fun y H4 => ∃ acc, H4 Dn = some (.lst acc) ∧ acc.length < sizeLine ∧ Nx (upd H4 Dn (.lst (acc ++ [y]))) else Nx H3) := by
  refine ⟨fun i m H => m = ds.length - i ∧ i ≤ ds.length ∧ ∃ acc os zs F fp ρ, Mk1 K G F1 fp1 H1 Dn acc F fp H (L2.wipe σ vs) ρ ∧ IsEs K G F H Dn os acc zs ∧ (∀ b, OwnK os acc b → ¬ fp b ∧ F b = none ∧ (fp1 b ∨ H1 b = none)) ∧ acc.length ≤ i ∧ ∃ ys, compNL g f vs (ds.drop i) ρ = .ok ys ρz ∧ os ++ ys.1 = all.1 ∧ zs ++ ys.2 = all.2, ⟨ds.length, by simp, Nat.zero_le _, ?_⟩, ?_⟩
  · exact ⟨[], [], [], F1, fp1, ρ1, ⟨Ex.newH hD, S1.newH hD, upd_same, Same.fnone S1.sub hD, hfp⟩, .nil, fun b k => (OwnK.nil k).elim, Nat.le_refl _, all, by simpa using h, rfl, rfl⟩
  · rintro i m H ⟨rfl, hi, acc, os, zs, F, fp, ρ, m1, hz, hk, hai, ys, hy, ha1, ha2⟩
    by_cases hlt : i < ds.length
    · refine .inr ⟨it.go i F H m1.ex.fr m1.sk.sub hlt, fun H' => ∃ acc os zs F fp ρ, Mk1 K G F1 fp1 H1 Dn acc F fp H' (L2.wipe σ vs) ρ ∧ IsEs K G F H' Dn os acc zs ∧ (∀ b, OwnK os acc b → ¬ fp b ∧ F b = none ∧ (fp1 b ∨ H1 b = none)) ∧ acc.length ≤ i + 1 ∧ ∃ ys, compNL g f vs (ds.drop (i + 1)) ρ = .ok ys ρz ∧ os ++ ys.1 = all.1 ∧ zs ++ ys.2 = all.2,
        fun H' q => ⟨ds.length - (i + 1), by omega, rfl, hlt, q⟩, fun x H' hyl => ?_⟩
      have hd : ds[i]? = some ds[i] := List.getElem?_eq_getElem hlt
      rw [List.drop_eq_getElem_cons hlt] at hy
      obtain ⟨F3, e3, S3, r3⟩ : ∃ F3, Ex F fp H F3 fp H' ∧ Sk K G F3 fp H' (L2.wipe σ vs) ρ ∧ IsD K G F3 x ds[i] := by
        rcases it.yld i F H x H' ds[i] m1.ex.fr m1.sk.sub hd hyl with ⟨rfl, r⟩ | ⟨p, o, hp, rfl, nt, r⟩
        · exact ⟨F, Ex.refl _ _ _, m1.sk, r⟩
        · exact ⟨_, Ex.anew m1.sk hp, m1.sk.anew hp nt, r⟩
      have m3 := m1.later e3 S3
      obtain ⟨hz3, hk3⟩ := hz.carry hk e3
      obtain ⟨ρ1, u, ρ3, o, y, ys', g1, g2, g3, g4, rfl⟩ := compNL_inv hy
      refine qg x ds[i] (L2.wipe σ vs) H' ρ ρ1 F3 fp _ S3 r3 g1 fun σ2 S2 b2 => ?_
      have ew := (b2.1 vs hsl).trans (wipe_wipe fun _ z => z)
      refine ⟨ew, ?_⟩
      refine qt σ2 H' ρ1 F3 fp _ S2 ?_
      intro b H4 F4 fp4 e4 S4 rb
      cases rb
      have m4 := m3.later e4 S4
      obtain ⟨hz4, hk4⟩ := hz3.carry hk3 e4
      rw [if_pos rfl]
      refine qe σ2 H4 ρ1 F4 fp4 _ S4 ?_
      rw [g2]
      intro v H5 F5 fp5 e5 S5 r5
      have m5 := m4.later e5 S5
      obtain ⟨hz5, hk5⟩ := hz4.carry hk4 e5
      have S6 := (S5.but r5).wipe vs
      rw [ew] at S6
      have m6 := m4.later (e5.less fun b z => z.1 : Ex F4 fp4 H4 F5 (fun b => fp5 b ∧ ¬ OwnU H5 v u b) H5) S6
      obtain ⟨j1, j2⟩ := ownE_is2 (o' := .lst (acc ++ [v])) r5 g3 m5.nμ
      have hz6 : IsEs K G F5 (upd H5 Dn (.lst (acc ++ [v]))) Dn os acc zs := hz5.frame (Same.refl _) fun b o k z1 z2 hb => by
        obtain ⟨d, hd⟩ : ∃ d, zs[k]? = some d := by
          have : k < zs.length := by rw [← hz5.length]; exact (List.getElem?_eq_some_iff.mp z2).1
          exact ⟨_, List.getElem?_eq_getElem this⟩
        obtain ⟨b', ws, xs, q1, _, q2, _⟩ := hz5.get z1 hd
        rw [z2] at q1; cases q1
        rw [upd_ne q2]; exact hb
      refine ⟨acc, m5.at_, by rw [← lim_eq]; omega, acc ++ [v], os ++ [o], zs ++ [y], F5, _, _, m6.push hD, hz6.snoc j1 fun ho b e k => ?_, fun b k => ?_, by rw [List.length_append, List.length_singleton]; omega, ys', g4, by rw [List.append_assoc]; exact ha1, by rw [List.append_assoc]; exact ha2⟩
      · exact (hk5 b k).1 (RU.own_fp r5 (j2 b ho e))
      · rcases ownK_snoc hz5.lenO k with k | ⟨ho, e⟩
        · exact ⟨fun z => (hk5 b k).1 z.1, (hk5 b k).2⟩
        · have ob := j2 b ho e
          refine ⟨fun z => z.2 ob, ?_, m5.ex.nfp b (RU.own_fp r5 ob)⟩
          cases u with
          | s i => cases ob
          | v a => exact (r5.2 b ob).2.1
    · have hi' : i = ds.length := by omega
      subst hi'
      rw [List.drop_length] at hy
      cases hy
      simp only [List.append_nil] at ha1 ha2
      subst ha1
      subst ha2
      exact .inl ⟨it.stop _ F H m1.ex.fr m1.sk.sub (Nat.le_refl _), hP acc F fp H m1 hz hk⟩
theorem comp_readN {wi : TI} {it : SemI} {g : SemG} {sl vs : List Nat} {f : SemE} {tg' : TG} {tt : TT} {te : TE} {σ : L2.St} {H : Hp} {ρ : Ev} {F : Hp} {fp : Addr → Prop} {Q : VK}
    (qi : ∀ σ H ρ F fp R, Sk X.K G F fp H σ ρ → Run X.K G W σ F fp H (RI X.K G) (it ρ) R → wi σ H R)
    (qg : ∀ v x σ H ρ ρ' F fp (Q : L2.St → Hp → Prop), Sk X.K G F fp H σ ρ → IsD X.K G F v x → g x ρ = some ρ' → (∀ σ', Sk X.K G F fp H σ' ρ' → But sl σ σ' → Q σ' H) → tg' v σ H Q)
    (qt : ∀ σ H ρ F fp Q, Sk X.K G F fp H σ ρ → Run X.K G (fun _ _ _ _ => False) σ F fp H RB (ifsS none ρ) Q → tt σ H Q)
    (qe : ∀ σ H ρ F fp Q, Sk X.K G F fp H σ ρ → Run X.K G (fun _ _ _ _ => False) σ F fp H (RU X.K G) (f ρ) Q → te σ H Q)
    (hsl : ∀ i ∈ sl, i ∈ vs) (S : Sk X.K G F fp H σ ρ)
    (h : Run X.K G W σ F fp H (RU X.K G) (compNS it g f vs ρ) Q) : tLc wi tg' tt te vs σ H Q := by
  unfold compNS at h
  refine qi σ H ρ F fp _ S (Run.bind h fun ds ρ1 Jt F1 fp1 H1 zq1 e1 S1 it1 h1 => fun Dn hDn => ?_)
  by_cases hl : ds.length ≤ 16777216
  · rw [if_pos hl] at h1
    cases q : compNL g f vs ds (wipeE ρ1 vs) with
    | bad => rw [q] at h1; exact h1.elim
    | exc x S' => exact absurd q compNL_nox
    | ok all ρz =>
      rw [q] at h1
      simp only [Out.bind_ok] at h1
      have S2 : Sk X.K G F1 (fun b => fp1 b ∧ b ≠ Dn) H1 σ ρ1 := ⟨S1.sub, S1.len, S1.at_, fun i v a b s o => ⟨⟨(S1.own i v a b s o).1, fun z => (S1.is s).live o (by rw [z]; exact hDn)⟩, (S1.own i v a b s o).2⟩, S1.inj⟩
      refine comp_runN qg qt qe hsl it1 hl (S2.wipe vs) hDn (fun z => z.2 rfl) q fun acc F2 fp2 H2 m2 hz hk => ?_
      obtain ⟨ρy, rfl⟩ := compNL_wiped q
      have S3 := m2.sk.unwipe
      refine h1 (.ref Dn) H2 F2 (fun b => fp2 b ∨ (b = Dn ∨ OwnK all.1 acc b)) ⟨m2.ex.fr, fun b o z hn nt => m2.ex.keep b o z (fun y => hn y.1) nt, fun b o z => (m2.ex.new b o z).imp id (.imp id (·.1)), fun b z => ?_, m2.ex.live⟩ (S3.more fun _ z => .inl z) ⟨⟨Dn, acc, rfl, m2.at_, hz⟩, fun b o => ?_⟩
      · rcases z with z | rfl | z
        · exact (m2.ex.nfp b z).imp (·.1) id
        · exact .inr hDn
        · exact (hk b z).2.2.imp (·.1) id
      · have o' := (own_n m2.at_).mp o
        rcases o' with rfl | k
        · exact ⟨.inr (.inl rfl), m2.nF, fun i w c s o => m2.nμ (S3.own i w c _ s o).1⟩
        · exact ⟨.inr (.inr k), (hk b k).2.1, fun i w c s o => (hk b k).1 (S3.own i w c _ s o).1⟩
  · rw [if_neg hl] at h1
    exact h1.elim
theorem ee_lend {e : Expr} {f : SemE} (h : EE X G W e f) : EE X G W e (lendE f) := by
  obtain ⟨tt, p, q⟩ := h.ex
  refine ⟨tt, p, fun σ H ρ F fp Q S h => q σ H (lent ρ) (noT G H) (fun _ => False) Q S.lent ?_⟩
  simp only [lendE] at h
  cases e : f (lent ρ) with
  | bad => rw [e] at h; exact h.elim
  | exc x ρ' => rw [e] at h; exact h.elim
  | ok u ρ' =>
    rw [e] at h
    intro b H' F' fp' ex S' r
    have hH : Same (noT G H) H' := ex.fr.trans S'.sub.s
    cases u with
    | s i => exact h.elim
    | v a =>
      cases a with
      | l _ => exact h.elim
      | m _ => exact h.elim
      | n _ _ => exact h.elim
      | d x =>
        simp only at h
        split at h
        · rename_i ha
          exact h b H' F fp ⟨Same.refl _, fun b o eb _ nt => hH b o (noT_at eb nt), fun b o eb => .inl eb, fun b eb => .inl eb, ex.live⟩ (S.step hH S'.sub.t) ⟨IsD.atom r.1 ha, fun b o => by simp at o⟩
        · exact h.elim
variable {tg elt iter : Expr} {pos : Pos}
theorem ee_compN {scope : Scope} {own : List (Str × Nat)} {it : SemI} {g : SemG} {sl : List Nat} {f : SemE} (hc : X.calm = true) (hN : X.N.Nodup) (hi : EI X G W tg iter it) (ok : BlkOk X.N X.env.scope scope own)
    (hg : ∀ (s : Shared) (H : Hp) (C : Addr) (cl : List (Str × Addr)) (fp : List Addr), EG (X.blk s H scope (compEnvC scope cl C X.env) fp) G tg g sl)
    (he : ∀ (s : Shared) (H : Hp) (C : Addr) (cl : List (Str × Addr)) (fp : List Addr), EE (X.blk s H scope (compEnvC scope cl C X.env) fp) G (fun _ _ _ _ => False) elt f)
    (hsl : ∀ i ∈ sl, i ∈ own.map (·.2)) (hs : setless iter = true) : EE X G W (.ListComp elt [⟨tg, iter, [], 0⟩] scope pos) (compNS it g f (own.map (·.2))) := by
  obtain ⟨wi, pi, qi⟩ := hi.ex
  obtain ⟨tt, pt, qt⟩ := (EIfB.none : EIfB X G scope [] none).can
  have pg : ∀ (s : Shared) (H : Hp) (C : Addr) (cl : List (Str × Addr)) (fp : List Addr), PG (X.blk s H scope (compEnvC scope cl C X.env) fp) tg (canG X.K G g sl) := fun s H C cl fp => (hg s H C cl fp).can
  have pe : ∀ (s : Shared) (H : Hp) (C : Addr) (cl : List (Str × Addr)) (fp : List Addr), PE (X.blk s H scope (compEnvC scope cl C X.env) fp) elt (canE X.K G (fun _ _ _ _ => False) f) := fun s H C cl fp => (he s H C cl fp).can
  exact ⟨_, pe_lc hc hN pi ok pg pt pe (folded_c hs _), fun σ H ρ F fp Q S h => comp_readN qi (fun v x σ H ρ ρ' F fp Q S r e k => ⟨x, ρ, ρ', F, fp, S, r, e, k⟩) qt (fun σ H ρ F fp Q S h => ⟨ρ, F, fp, S, h⟩) hsl S h⟩
theorem ss_setCompN {scope : Scope} {own : List (Str × Nat)} {it : SemI} {g : SemG} {sl : List Nat} {f : SemE} {i : Nat} {y : Str} {py spos : Pos} (hJ : i ∉ J) (hc : X.calm = true) (hN : X.N.Nodup)
    (hy : X.N[i]? = some y) (hyl : X.env.scope.names.lookup y = some .local) (hsw : swapsWith (.ListComp elt [⟨tg, iter, [], 0⟩] scope pos) (some (.Name y py)) spos.line X.env = pure true)
    (hi : EI X G W tg iter it) (ok : BlkOk X.N X.env.scope scope own)
    (hg : ∀ (s : Shared) (H : Hp) (C : Addr) (cl : List (Str × Addr)) (fp : List Addr), EG (X.blk s H scope (compEnvC scope cl C X.env) fp) G tg g sl)
    (he : ∀ (s : Shared) (H : Hp) (C : Addr) (cl : List (Str × Addr)) (fp : List Addr), EE (X.blk s H scope (compEnvC scope cl C X.env) fp) G (fun _ _ _ _ => False) elt f)
    (hsl : ∀ i ∈ sl, i ∈ own.map (·.2)) (hs : setless iter = true) :
    SS X G W J (.Assign [.Name y py] (.ListComp elt [⟨tg, iter, [], 0⟩] scope pos) spos) (setS i (compNS it g f (own.map (·.2)))) := by
  obtain ⟨wi, pi, qi⟩ := hi.ex
  obtain ⟨tt, pt, qt⟩ := (EIfB.none : EIfB X G scope [] none).can
  have pg : ∀ (s : Shared) (H : Hp) (C : Addr) (cl : List (Str × Addr)) (fp : List Addr), PG (X.blk s H scope (compEnvC scope cl C X.env) fp) tg (canG X.K G g sl) := fun s H C cl fp => (hg s H C cl fp).can
  have pe : ∀ (s : Shared) (H : Hp) (C : Addr) (cl : List (Str × Addr)) (fp : List Addr), PE (X.blk s H scope (compEnvC scope cl C X.env) fp) elt (canE X.K G (fun _ _ _ _ => False) f) := fun s H C cl fp => (he s H C cl fp).can
  refine ⟨_, ps_setLc hc hN hy hyl hsw pi ok pg pt pe (folded_c hs _), fun σ H ρ F fp Z S h => ?_⟩
  refine comp_readN qi (fun v x σ H ρ ρ' F fp Q S r e k => ⟨x, ρ, ρ', F, fp, S, r, e, k⟩) qt (fun σ H ρ F fp Q S h => ⟨ρ, F, fp, S, h⟩) hsl S ?_
  exact SRun.bindE (x := compNS it g f (own.map (·.2)) ρ) h fun u ρ1 v F1 fp1 H1 zq1 e1 S1 r1 h1 => run_set hJ S1 r1 h1
end
end Pv

namespace Pv
open PySem PySem.Spec PyProof.Rows L2 LamX

/-! ### x(lambda: e), where x tells the word of what e is refused with -/
@[simp] def reflS (res : Nat → Option Str) (told : Str) (f : SemE) : SemE := fun ρ => match f (lent ρ) with
  | .ok _ _ => .ok (.v (.d (.str told))) ρ
  | .exc x _ => if x.fs.isEmpty = true then (match res x.c with
    | some r => .ok (.v (.d (.str r))) ρ
    | none => .bad) else .bad
  | .bad => .bad
section
variable {X : Cx} {pins : List (Addr × Obj)} {σ : L2.St} {H : Hp} {s : Shared}
/-- what a lambda's making does to the heap -/
def LamH (P c' : Addr) (q : Str) (H H1 : Hp) : Prop := H1 = H ∨ ∃ ps more, H P = some (.tbl ps) ∧ H c' = none ∧ H1 = upd (upd H P (.tbl (ps ++ more))) c' (CodeO c' q)
theorem LamH.keep {P c' : Addr} {q : Str} {H H1 : Hp} (h : LamH P c' q H H1) : Same (fun b => match H b with
  | some (.tbl _) => none
  | o => o) H1 ∧ ∀ b, H b ≠ none → H1 b ≠ none := by
  rcases h with rfl | ⟨ps, more, h1, h2, rfl⟩
  · exact ⟨fun b o e => noT_le (G := ⟨fun _ => 0, fun _ => 0, fun _ => none, []⟩) b o e, fun _ z => z⟩
  · refine ⟨fun b o e => ?_, fun b z => ?_⟩
    · have e1 : H b = some o := noT_le (G := ⟨fun _ => 0, fun _ => 0, fun _ => none, []⟩) b o e
      rw [upd_ne (ne_of_none e1 h2), upd_ne (fun y => noT_ne (G := ⟨fun _ => 0, fun _ => 0, fun _ => none, []⟩) (H := H) (b := b) (ps := ps) (by rw [← h1, ← y, e1]; exact e))]
      exact e1
    · by_cases y : b = c'
      · rw [y, upd_same]; simp
      · rw [upd_ne y]
        by_cases y2 : b = P
        · rw [y2, upd_same]; simp
        · rw [upd_ne y2]; exact z
/-- a lambda made: LamX.lam_make2, and what becomes of the heap -/
theorem lam_make3 {T : List (Addr × Str)} {c P : Addr} {params : Arguments} {body : Expr} {scope : Scope} {pos : Pos} {E Q : Value → Shared → Prop} (I : Inv X pins σ H s) (TB : TabB X.base X.mg c P) (hcode : X.env.code = .ref c)
    (hm : (P, X.env.qual ++ "<lambda>") ∈ T) (hu : ∀ p ∈ T, p.1 = P → p.2 = X.env.qual ++ "<lambda>") (hT : Tabs T H) (hdef : defaultsOf params X.env = ([], [])) (hfree : ∀ y ∈ scope.names, y.2 = .free → ∃ c, X.env.cells.lookup y.1 = some c)
    (h : ∀ (f c' : Addr) (pm ctv : Value) (H1 : Hp) (s' : Shared), Inv X pins σ H1 s' → LamH P c' (X.env.qual ++ "<lambda>") H H1 → Tabs T H1 →
      s'.heap.get? f = some (PySem.W.kla_obj "<lambda>" (X.env.qual ++ "<lambda>") params body scope (cloFrom X.env.cells scope.names []) pm c' ctv) → H1 f = none → f ∉ frs X.stack → H1 c' = some (CodeO c' (X.env.qual ++ "<lambda>")) → Q (.ref f) s') :
    wpAny (model X.prog X.w) X.A (eval (.Lambda params body scope pos) X.env) Q E s := by
  obtain ⟨ps, hP, ht, ha⟩ := hT _ hm
  have hP' : s.heap.get? P = some { cls := .none, data := .fields ps } := I.hok P _ hP
  have bP := TB.bm.keeps I.bk
  -- the frames lie below what is new
  have high : ∀ f, s.heap.objs.size ≤ f → f ∉ frs X.stack := fun f hf z => by
    cases List.mem_cons.mp (I.stkSub _ z) with
    | inl e => exact absurd (e ▸ I.lt) (Nat.not_lt.mpr hf)
    | inr e => exact I.nofs hf e
  refine PySem.W.kla_eval hdef ?_
  cases hc : codeAmong pos ps.toList with
  | some cv =>
    obtain ⟨c', rfl, hco⟩ := ha pos cv hc
    refine PySem.W.kla_makeFunctionHit (mg := X.mg) (c := c) (P := P) (ps := ps) (closure_ok hfree) I.ok.glob (I.mod.glob.keeps I.bk) hcode (TB.code.keeps I.bk) hP' ht hc bP fun ctv h' tk hx hsz => ?_
    refine h h'.objs.size c' ((X.mg "__name__").getD .none) ctv H _ (I.kept fun b o e => Heap.get?_push_of_some _ (hx b o e)) (.inl rfl) hT (Heap.get?_push_size _ rfl) (I.hok.fresh hsz) (high _ hsz) hco
  | none =>
    refine PySem.W.kla_makeFunction (mg := X.mg) (c := c) (P := P) (ps := ps) (closure_ok hfree) I.ok.glob (I.mod.glob.keeps I.bk) hcode (TB.code.keeps I.bk) hP' ht hc TB.gP bP fun c' ctv h' tk hx hge hlt hrec htb => ?_
    obtain ⟨_, oc, vs, t, ec, hoc, hd, hv⟩ := hrec
    cases ec
    have big : s.heap.objs.size ≤ h'.objs.size := Nat.le_trans hge (Nat.le_of_lt hlt)
    have nC : H c' = none := I.hok.fresh hge
    have ncP : P ≠ c' := ne_of_none hP nC
    generalize hm2 : (#[rawInt pos.line, rawInt pos.col, .ref c'] : Array Value) = more at htb
    have eL : (ps ++ more).toList = ps.toList ++ [rawInt pos.line, rawInt pos.col, .ref c'] := by rw [← hm2]; simp
    have I1 := inv_table (t' := tk) (more := more) (h' := h'.push (PySem.W.kla_obj "<lambda>" (X.env.qual ++ "<lambda>") params body scope (cloFrom X.env.cells scope.names []) ((X.mg "__name__").getD .none) c' ctv)) I hP
      (fun b o hb e => Heap.get?_push_of_some _ (hx b o hb e)) (Heap.get?_push_of_some _ htb) hge ⟨oc, vs, t, Heap.get?_push_of_some _ hoc, hd, hv⟩
    have LH : LamH P c' (X.env.qual ++ "<lambda>") H (upd (upd H P (.tbl (ps ++ more))) c' (CodeO c' (X.env.qual ++ "<lambda>"))) := .inr ⟨ps, more, hP, nC, rfl⟩
    have old : ∀ {b o}, H b = some o → (∀ qs, o ≠ .tbl qs) → upd (upd H P (.tbl (ps ++ more))) c' (CodeO c' (X.env.qual ++ "<lambda>")) b = some o := fun {b o} e n => by
      rw [upd_ne (ne_of_none e nC), upd_ne (fun z => n ps (Option.some.inj ((e.symm.trans (by rw [z])).trans hP)))]
      exact e
    refine h h'.objs.size c' ((X.mg "__name__").getD .none) ctv _ _ I1 LH (fun p hp => ?_) (Heap.get?_push_size _ rfl) ?_ (high _ big) upd_same
    · by_cases hb : p.1 = P
      · rw [hu p hp hb, hb]
        refine ⟨_, by rw [upd_ne ncP, upd_same], by rw [eL]; exact PySem.TriplesOk_snoc _ _ _ _ ht, fun p' cv hcv => ?_⟩
        rw [eL] at hcv
        rcases among_app _ ht hcv with z | z
        · obtain ⟨c0, e1, e2⟩ := ha p' cv z
          exact ⟨c0, e1, old e2 codeO_ne⟩
        · exact ⟨c', z, upd_same⟩
      · obtain ⟨ps', a1, a2, a3⟩ := hT p hp
        refine ⟨ps', by rw [upd_ne (ne_of_none a1 nC), upd_ne hb]; exact a1, a2, fun p' cv hcv => ?_⟩
        obtain ⟨c0, e1, e2⟩ := a3 p' cv hcv
        exact ⟨c0, e1, old e2 codeO_ne⟩
    · rw [upd_ne (Nat.ne_of_gt hlt), upd_ne (Nat.ne_of_gt (Nat.lt_of_lt_of_le (Heap.lt_size hP') big))]
      exact I.hok.fresh big
end
section
variable {X : Cx} {pins : List (Addr × Obj)} {σ : L2.St} {H HZ : Hp} {s s1 : Shared} {G : Tab}
abbrev zCx (X : Cx) (Ng : List Str) (qg : Str) (sg : Scope) (g : Addr) (cdg : Value) (s : Shared) (H : Hp) (pn : List (Addr × Obj)) (xe : Value → Shared → Prop) : Cx :=
  (cxOf (L2.CX X.prog X.w) X.prog X.w X.K X.mg X.base Ng qg sg g cdg X.A X.stack s H (fun _ _ _ => False)).tr pn xe
/-- a(), in the def that got the lambda as a -/
theorem pe_lamact {Ng : List Str} {qg : Str} {sg : Scope} {g f c' : Addr} {cdg pm ctv : Value} {params : Arguments} {body : Expr} {scope : Scope} {k i : Nat} {a : Str} {pn : List (Addr × Obj)} {xe : Value → Shared → Prop} {W : WX} {fe : SemE} {p1 p2 : Pos}
    (I : Inv X pins σ H s) (L : LamS X.env.scope scope) (hf : s.heap.get? f = some (PySem.W.kla_obj "<lambda>" (X.env.qual ++ "<lambda>") params body scope (cloFrom X.env.cells scope.names []) pm c' ctv)) (hfn : H f = none) (hfr : f ∉ frs X.stack)
    (hbind : bindArgs (PySem.W.kla_fn "<lambda>" (X.env.qual ++ "<lambda>") params body scope (cloFrom X.env.cells scope.names []) pm (.ref c') ctv) ⟨[], []⟩ = pure [])
    (tk : Takes (zCx X Ng qg sg g cdg s H pn xe) W) (hr : RoomG (k + 1) (X.A.deeper (envOfC qg sg s.heap.objs.size g cdg)))
    (hbody : ∀ (A : Around) (outer : List PySem.Env) (s : Shared) (H : Hp) (E : XK), RoomG k (A.deeper (lamEnv X scope s.heap.objs.size f c')) → EE (lamCx X A outer s H E scope f c') G (fun c d _ H' => E c d H') body fe)
    (hN : Ng[i]? = some a) (hv : Vis sg a) (hd : (a == ("__debug__" : Str)) = false) (hcd : (a == ("__classdict__" : Str)) = false) :
    PE (zCx X Ng qg sg g cdg s H pn xe) (.Call (.Name a p1) [] [] p2)
      (fun σZ HZ Q => σZ[i]? = some (some (.ref f)) ∧ HZ c' = some (CodeO c' (X.env.qual ++ "<lambda>")) ∧ canE X.K G (fun cls d _ H' => W cls d σZ H') fe σ HZ Q) := by
  refine ⟨fun pinsZ sZ σZ HZ Q IZ ⟨hs, hc, ht⟩ => ?_⟩
  refine wpAny_Call_Name_kw (thn ((pe_var (pos := p1) (i := i) hN hv hd hcd).run pinsZ sZ σZ HZ (fun v H1 => v = .ref f ∧ H1 = HZ) IZ ⟨.ref f, hs, rfl, rfl⟩) fun u s1 ⟨v, H1, I1, r1, ev, eH⟩ => ?_)
  subst ev
  subst eH
  obtain rfl : u = Value.ref f := r1
  have of1 := I1.base.keep f _ hf hfn hfr (fun z => nomatch (show f ∈ ([] : List Addr) from z))
  refine PySem.W.callWith_F0 ⟨_, _, _, _, of1⟩ ?_
  have un : Un (frs X.stack) [] H H1 s.heap s1.heap := I1.base
  obtain ⟨⟨oc, vs, t, hoc, hdc, hvc⟩, _, _⟩ := I1.hok c' _ hc
  have rc : codeAny (model X.prog X.w) (X.A.deeper (envOfC qg sg s.heap.objs.size g cdg)) (.call (.ref f) ⟨[], []⟩) (CR (L2.CX X.prog X.w) (envOfC qg sg s.heap.objs.size g cdg :: X.stack) X.prog X.w H1 s1 Q (WE W σZ)) s1 := by
    refine PySem.W.kla_callFunE hr.room.depth of1 rfl L.co L.gen rfl ⟨c', oc, vs, t, rfl, hoc, hdc, hvc⟩ ?_
    rw [hbind]
    refine wpAny_pure (wpAny_newFunctionEnv (fun y hy => (L.own y hy).2) (fun y hy => absurd hy (by simp)) (fun h₁ hns hsb => ⟨I1.nolimit.fresh _ hsb, ?_⟩) L.kind)
    have kp : ∀ b o, s1.heap.get? b = some o → h₁.get? b = some o := fun b o e => hsb.extBut b o (Nat.ne_of_lt (Heap.lt_size e)) (Heap.get?_push_of_some _ e)
    have J : Inv (lamCx X (X.A.deeper (envOfC qg sg s.heap.objs.size g cdg)) (envOfC qg sg s.heap.objs.size g cdg :: X.stack) s1 H1 (WE W σZ) scope f c') [] σ H1 { s1 with heap := h₁, toks := s1.toks + ([] : List (Str × Value)).length } :=
      lam_start2 I L I1.env0 hr.room.hd un hns kp
    exact PySem.W.kla_codeExpr (wpAny_mono ((hbody _ _ s1 H1 (WE W σZ) (hr.deeper _)).can.run [] _ _ H1 Q J ht) (fun v s' ⟨w', H', J', rv, q⟩ => ⟨w', H', J'.os, J'.bare, J'.base, J'.hok, rv, q⟩) fun e s' hq => hq)
  have hx := passAt tk σZ
  refine wpAny_call (codeAny_mono rc fun r s' hq => ?_)
  match r with
  | .error e => exact hx pinsZ H1 s1 e s' I1 hq
  | .ok (.ret u) => exact I1.after hq
  | .ok .next => exact False.elim hq
  | .ok .brk => exact False.elim hq
  | .ok .cont => exact False.elim hq
end
/-- the text of the def that is handed a lambda -/
inductive RefT (a nm far kx told : Str) : List Stmt → Prop
  | mk {p1 p2 p3 p4 p5 p6 p7 p8 p9 p10 p11 p12 : Pos} {j : Nat} : RefT a nm far kx told
      [.Try [.Expr (.Call (.Name a p1) [] [] p2) p3] [.ExceptHandler (some (.Name far p4)) (some nm) [.Return (some (.Call (.Name kx p5) [.Name nm p6] [] p7)) p8] p9] [] [] p10, .Return (some (.Constant (.str told) j p11)) p12]
section
variable {X : Cx} {G : Tab} {W : WX} {k : Nat} {x qg a nm far kx told : Str} {stg : Stmt} {g c P fk Cf : Addr} {fd fdk : FuncData} {psk : List Str} {res : Nat → Option Str} {params : Arguments} {body : Expr} {scope : Scope} {fe : SemE} {p lpos pos : Pos}
theorem ee_refused (hg : Gl X x) (hm : X.mg x = some (.ref g)) (Fg : Fun X.K x qg stg g fd) (Sg : FnScope [a, nm] [a] (defScope stg)) (hb : Binds X.K fd [a] []) (hT : RefT a nm far kx told (defBody stg))
    (hlk : (defScope stg).names.lookup far = some .globalImplicit ∧ (defScope stg).names.lookup kx = some .globalImplicit ∧ (defScope stg).names.lookup nm = some .local) (hmf : X.mg far = some (.ref Cf)) (hne : a ≠ nm)
    (hexm : ∀ c r, res c = some r → PySem.W.exmOne X.K (.ref (G.cls c)) (.ref Cf) = some true)
    (Fk : FnP X.prog X.w X.K X.mg X.base (L2.CX X.prog X.w) k fk fdk psk (spKind X.K G res)) (hmk : X.mg kx = some (.ref fk)) (hkk : PySem.W.keepIn X.K (.ref fk) = true) (hbk : Binds X.K fdk psk [])
    (TB : TabB X.base X.mg c P) (hcode : X.env.code = .ref c) (hmT : (P, X.env.qual ++ "<lambda>") ∈ G.tabs) (hu : ∀ p ∈ G.tabs, p.1 = P → p.2 = X.env.qual ++ "<lambda>") (hr : RoomG (k + 2) X.A) (L : LamS X.env.scope scope)
    (hdef : defaultsOf params X.env = ([], [])) (hbind : ∀ (q : Str) (cl : List (Str × Addr)) (pm cv ctv : Value), bindArgs (PySem.W.kla_fn "<lambda>" q params body scope cl pm cv ctv) ⟨[], []⟩ = pure [])
    (hbody : ∀ (A : Around) (outer : List PySem.Env) (s : Shared) (H : Hp) (E : XK) (f c' : Addr), RoomG k (A.deeper (lamEnv X scope s.heap.objs.size f c')) → EE (lamCx X A outer s H E scope f c') G (fun c d _ H' => E c d H') body fe)
    (hpl : ∀ y ∈ [x, a, nm, far, kx], (y == ("__debug__" : Str)) = false ∧ (y == ("__classdict__" : Str)) = false) :
    EE X G W (.Call (.Name x p) [.Lambda params body scope lpos] [] pos) (reflS res told fe) := by
  refine ⟨canE X.K G W (reflS res told fe), ⟨fun pins s σ H Q I ⟨ρ, F, fp, S, h⟩ => ?_⟩, fun σ H ρ F fp Q S h => ⟨ρ, F, fp, S, h⟩⟩
  have pl := fun {y} h => hpl y h
  refine wpAny_Call_Name_kw (ld_glob I hg hm ?_ (pl (by simp)).1)
  refine PySem.W.callWith_K (h₀ := X.base) I.ok.mod.kin Fg.kp ?_ (by rfl) (by rfl)
  show wpAny _ _ (spliced ((false, eval (.Lambda params body scope lpos) X.env) :: backTo pos (starEach [] X.env))) _ _ s
  refine Calls.spliced_cons (lam_make3 I TB hcode hmT hu S.sub.t hdef (L.has I.ok) fun f c' pm' ctv H1 s' I1 eN T1 hf hfn hfr hco => ?_)
  refine Calls.spliced_nil ⟨I1.kIn, ?_⟩
  have hH : Same (noT G H) H1 := eN.keep.1
  -- behind it all: the word is told
  have fin : ∀ (r : Str) (H' : Hp), reflS res told fe ρ = .ok (.v (.d (.str r))) ρ → Same (noT G H1) H' → Tabs G.tabs H' → (∀ b, H1 b ≠ none → H' b ≠ none) → Q (.str r) H' := fun r H' e s2 t2 l2 => by
    rw [e] at h
    have k2 : Same (noT G H) H' := fun b o eb => s2 b o (noT_at (hH b o eb) fun ps z => noT_ne (z ▸ eb))
    exact h (.str r) H' F fp ⟨Same.refl _, fun b o eb _ nt => k2 b o (noT_at eb nt), fun b o eb => .inl eb, fun b eb => .inl eb, fun b z => l2 b (eN.keep.2 b z)⟩ (S.step k2 t2) ⟨IsD.str r, fun b o => by simp at o⟩
  have S1 : Sk X.K G (noT G H1) (fun _ => False) H1 σ (lent ρ) := (S.step hH T1).lent
  obtain ⟨oc, od, kV, doc, pm, an, cdv, ct, osl, rfl, lk, hcd⟩ := Fg.ex
  have rc : codeAny (model X.prog X.w) X.A (.call (.ref g) ⟨[.ref f], []⟩) (CR (L2.CX X.prog X.w) X.stack X.prog X.w H1 s' Q (fun _ _ _ => False)) s' := by
    refine run_ofS (N := [a, nm]) (ps := [a]) (us := [.ref f]) (vs := [.ref f]) lk hcd Sg hr.room I1.env0 (hb s' [.ref f] I1.kIn rfl) (.cons rfl .nil) rfl fun hr' => ?_
    generalize hbd : defBody stg = bd at hT
    obtain ⟨⟩ := hT
    rename_i p1 p2 p3 p4 p5 p6 p7 p8 p9 p10 p11 p12 j
    have hgk : Gl (zCx X [a, nm] qg (defScope stg) g cdv s' H1 [] (fun _ _ => False)) kx := hlk.2.1
    have ea : ([a, nm] : List Str)[0]? = some a := rfl
    have en : ([a, nm] : List Str)[1]? = some nm := rfl
    have hva : Vis (defScope stg) a := (Sg.par a (by simp)).elim .inl fun z => .inr (.inl z)
    have P1 := ps_try_as (X := cxOf (L2.CX X.prog X.w) X.prog X.w X.K X.mg X.base [a, nm] qg (defScope stg) g cdv X.A X.stack s' H1 (fun _ _ _ => False)) (x := far) (n := nm) (c := .ref Cf) (i := 1)
      (body := [.Expr (.Call (.Name a p1) [] [] p2) p3]) (suite := []) (b₀ := .Return (some (.Call (.Name kx p5) [.Name nm p6] [] p7)) p8) (np := p4) (pos := p10) (pos' := p9) (Wout := fun _ _ _ _ => False)
      (tb := fun W' D σZ HZ => σZ[0]? = some (some (.ref f)) ∧ HZ c' = some (CodeO c' (X.env.qual ++ "<lambda>")) ∧ canE X.K G (fun cls d _ H' => W' cls d σZ H') fe σ HZ (fun _ H' => D.nx σZ H'))
      (ts := fun a cls d => fun D σ H => σ[1]? = some (some (.ref a)) ∧ d = none ∧ ∃ c r, cls = .ref (G.cls c) ∧ res c = some r ∧ LamX.Tabs G.tabs H ∧ ∀ H', Same (noT G H) H' → LamX.Tabs G.tabs H' → (∀ b, H b ≠ none → H' b ≠ none) → D.rt (.str r) H')
      rfl rfl Sg.nd en hlk.2.2 ⟨hlk.1, (pl (by simp)).1, .inl hmf⟩ LamX.takes0 (fun W' pn xe tk' _ => ?_) (fun a' oe cls d pn hz hfl => ?_)
    · refine ⟨_, pss_cons P1 (pss_one (ps_ret (pe_str (x := told)))), ?_⟩
      refine ⟨rfl, hco, lent ρ, noT G H1, fun _ => False, S1, ?_⟩
      cases q : fe (lent ρ) with
      | bad => rw [show reflS res told fe ρ = .bad by simp [q]] at h; exact h.elim
      | ok u ρ1 =>
        intro v H' F' fp' ex S' r'
        exact fin told H' (by simp [q]) (ex.fr.trans S'.sub.s) S'.sub.t ex.live
      | exc x ρ1 =>
        intro cls dd H' F' fp' ex S' isx
        by_cases hx : x.fs.isEmpty = true
        · cases hres : res x.c with
          | none => rw [show reflS res told fe ρ = .bad by simp only [reflS, q, hres, hx, if_true]] at h; exact h.elim
          | some r =>
            obtain ⟨rfl, hd, _⟩ := isx
            refine ⟨true, hexm x.c r hres, fun _ a' ha => ⟨rfl, hd (List.isEmpty_iff.mp hx), x.c, r, rfl, hres, S'.sub.t, fun H'' s2 t2 l2 => ?_⟩, fun z => by cases z⟩
            refine fin r H'' (by simp only [reflS, q, hres, hx, if_true]) (fun b o eb => s2 b o (noT_at ((ex.fr.trans S'.sub.s) b o eb) fun ps z => noT_ne (z ▸ eb))) t2 fun b z => l2 b (ex.live b z)
        · rw [show reflS res told fe ρ = .bad by simp only [reflS, q, hx, if_false, Bool.false_eq_true]] at h; exact h.elim
    · refine pss_one (ps_expr (pos := p3) ((pe_lamact (i := 0) I1 L hf hfn hfr (hbind _ _ _ _ _) tk' ⟨hr', hr.gd⟩ (fun A outer s H E hr2 => hbody A outer s H E f c' hr2) ea hva (pl (by simp)).1 (pl (by simp)).2)))
    · refine pss_one ⟨fun pins s σ H D I h => ?_⟩
      obtain ⟨h1, rfl, c, r, rfl, hres, ht, q⟩ := h
      have PEc : PE ((cxOf (L2.CX X.prog X.w) X.prog X.w X.K X.mg X.base [a, nm] qg (defScope stg) g cdv X.A X.stack s' H1 (fun _ _ _ => False)).suite a' ((a', oe) :: pn)) (.Call (.Name kx p5) [.Name nm p6] [] p7)
          (fun σ H Q => σ[1]? = some (some (.ref a')) ∧ LamX.Tabs G.tabs H ∧ ∀ H', Same (noT G H) H' → LamX.Tabs G.tabs H' → (∀ b, H b ≠ none → H' b ≠ none) → Q (.str r) H') := by
        refine ⟨fun pins s σ H Q I ⟨h1, ht, q⟩ => ?_⟩
        refine wpAny_Call_Name_kw (ld_glob I hgk hmk ?_ (pl (by simp)).1)
        have ha : PA ((cxOf (L2.CX X.prog X.w) X.prog X.w X.K X.mg X.base [a, nm] qg (defScope stg) g cdv X.A X.stack s' H1 (fun _ _ _ => False)).suite a' ((a', oe) :: pn)) [.Name nm p6] (tCons (tVar 1) tNil) := pa_cons (pe_var en (.inl hlk.2.2) (pl (by simp)).1 (pl (by simp)).2) pa_nil
        refine PySem.W.callWith_K (h₀ := X.base) I.ok.mod.kin hkk (thn (ha.run p7 pins s σ H (fun vs H1 => vs = [V.ref a'] ∧ H = H1) I ⟨_, h1, rfl, rfl⟩) fun us s1 ⟨vs, H1, I1, r1, ev, eH⟩ => ?_)
        subst ev
        subst eH
        refine ⟨I1.kIn, ?_⟩
        refine run_fnP (X := (cxOf (L2.CX X.prog X.w) X.prog X.w X.K X.mg X.base [a, nm] qg (defScope stg) g cdv X.A X.stack s' _ (fun _ _ _ => False)).suite a' ((a', oe) :: pn)) (E := fun _ _ _ _ => False) (p := (a', oe)) Fk ⟨?_, ?_⟩ List.mem_cons_self hbk ?_ I1 r1 ⟨c, r, rfl, hz, hfl, hres, ht, fun H' s' t' l' => q H' s' t' l'⟩
        · have := hr'.dp
          show (X.A.deeper (envOfC qg (defScope stg) s'.heap.objs.size g cdv)).depth + 3 * k + 5 < _
          omega
        · have := hr'.un
          show (X.A.deeper (envOfC qg (defScope stg) s'.heap.objs.size g cdv)).units + 16 * k + 200 < _
          omega
        · intro pins2 H2 s2 e2 s3 I2 c2
          obtain ⟨_, _, _, _, _, _, _, _, _, _, _, _, z⟩ := c2
          exact z
      exact (ps_ret PEc).run pins s σ H D I ⟨h1, ht, fun H' s' t' l' => q H' s' t' l'⟩
  refine wpAny_call (codeAny_mono rc fun r s2 hq => ?_)
  match r with
  | .error e =>
    obtain ⟨_, _, _, _, _, _, _, _, _, _, _, _, z⟩ := hq
    exact z.elim
  | .ok (.ret u) => exact I1.after hq
  | .ok .next => exact False.elim hq
  | .ok .brk => exact False.elim hq
  | .ok .cont => exact False.elim hq
end
end Pv

namespace Pv
open PySem PySem.Spec PyProof.Rows L2

/-- what is built in, called by its name, on values -/
inductive Pr where
  | len | isi | int | abs | max2 | min2 | tuple | list | sum | all | any | sorted | repr | mm (mx : Bool) | isiT
/-- methods that change nothing; methods that do -/
inductive Mt where
  | count | index
inductive Mu where
  | append | extend | reverse | pop | popAt
/-- a program's words, by places -/
inductive T where
  | bad | nm (i : Nat) | int (i : Int) | bl (b : Bool) | non | str (x : Str)
  | gint (x : Str) (i : Int) | tyN (x : String) | gcls (c : Nat) | gfn (f : Nat) | callX (ns : List Nat) (a as : T)
  | bin (op : Operator) (a b : T) | neg (a : T)
  | cmp (op : CmpOp) (a b : T) | cmp3 (op op' : CmpOp) (a b c : T)
  | and1 (a : T) | and2 (a b : T) | or1 (a : T) | or2 (a b : T) | not (a : T) | ifx (c a b : T)
  | tup (as : T) | lst (as : T) | dnew
  | ix (a b : T) | sl (a lo hi : T) | dget (a b : T) | din (neg : Bool) (a b : T) | dget2 (o a b : T)
  | prim (f : Pr) (as : T) | call (f : Nat) (as : T) | meth (m : Mt) (o as : T) | mut (m : Mu) (o as : T)
  | comp (own : List (Str × Nat)) (it tg ifs elt : T)
  | refl (told : Str) (a : T) | lstN (as : T) | appN (a b as : T) | lend (a : T) | compN (own : List (Str × Nat)) (it tg elt : T)
  | sitems (a : T) | callB (f : Nat) (as : T) | sortSet (a : T) | lenSet (a : T) | mmd (mx : Bool) (k : Option Int) (a : T) | slp (a lo hi st : T) | ienum (a : T)
  | nil | cons (a as : T)
  | gnm (i : Nat) | gtup (as : T)
  | iseq (a : T) | irange1 (a : T) | irange2 (a b : T) | izip (a b : T)
  | pass | brk | cont | ret (a : T) | set (i : Nat) (a : T) | setc (i : Nat) (a : T) | asg (tg a : T) | par2 (i j : Nat) (a b : T) | par3 (i j l : Nat) (a b c : T) | drop (a : T)
  | ite (c a b : T) | for_ (it tg body : T) | while_ (c body : T) | setit (i : Nat) (k v : T) | raise (c : Nat) | tryk (i : Nat) (a : T)

/-- what the words lean on: the defs' meanings, what is lent to them, which class stands under which, the words of refusals -/
structure Gv where
  call : Nat → SemF
  J : Nat → List Nat
  sub : Nat → Nat → Bool
  res : Nat → Option Str
  /-- what a lambda's calls mean, two levels down -/
  callL : Option (Nat → SemF)
/-- two levels down -/
def lowS {α : Type} (V : Gv) (r : Gv → Ev → Out α) : Ev → Out α := match V.callL with
  | some cl => r ⟨cl, V.J, V.sub, V.res, none⟩
  | none => fun _ => .bad
/-- a word's meaning, as what it may stand for -/
structure Sm where
  e : SemE := fun _ => .bad
  t : SemT := fun _ => .bad
  a : SemA := fun _ => .bad
  o : Option SemE := none
  f : Option SemT := none
  g : SemG := fun _ _ => none
  gs : SemGs := fun _ _ => none
  i : SemI := fun _ => .bad
  s : SemS := fun _ => .bad
@[simp] def Sm.ofE (f : SemE) : Sm := { e := f, t := valT f }
@[simp] def Sm.ofS (f : SemS) : Sm := { s := f }
@[simp] def Pr.sem (sub : Nat → Nat → Bool) : Pr → List D → Option A
  | .len => lenQ | .isi => isiQ sub | .int => intQ | .abs => absQ | .max2 => max2Q | .min2 => min2Q | .tuple => tupleQ | .list => listQ | .sum => sumQ | .all => allQ | .any => anyQ | .sorted => sortedQ | .repr => reprQ | .mm mx => mmQ mx | .isiT => isiTQ
@[simp] def Mt.T : Mt → String
  | .count => "list" | .index => "list"
@[simp] def Mt.sem : Mt → D → List D → Option A
  | .count => countQ | .index => indexQ
@[simp] def Mu.T : Mu → String
  | .append => "list" | .extend => "list" | .reverse => "list" | .pop => "list" | .popAt => "list"
@[simp] def Mu.sem : Mu → A → List D → Option (D × A)
  | .append => appendQ | .extend => extendQ | .reverse => reverseQ | .pop => popQ | .popAt => popAtQ
@[simp] def Mu.bare : Mu → Bool
  | .reverse => true | .pop => true | _ => false
def FUEL : Nat := 1099511627776
@[simp] def lenT : T → Nat
  | .cons _ as => lenT as + 1
  | _ => 0
@[simp] def callXS (ns : List Nat) (J : Nat → List Nat) (sem : Nat → SemF) (ff : SemE) (ga : SemA) : SemE := fun ρ => (ff ρ).bind fun u ρ1 => match u with
  | .v (.d (.fn i)) => if ns.contains i = true then (ga ρ1).bind fun us ρ2 => callU (J i) (sem i) us ρ2 else .bad
  | _ => .bad
@[simp] def kOpt : Option Int → D
  | none => .non
  | some i => .int i
@[simp] def ev (V : Gv) (J : List Nat) : T → Sm
  | .bad => {}
  | .nm i => .ofE (nmS i)
  | .int i => .ofE (kS (.int i))
  | .bl b => .ofE (kS (.bl b))
  | .non => .ofE (kS .non)
  | .str x => .ofE (kS (.str x))
  | .gint _ i => .ofE (kS (.int i))
  | .tyN n => .ofE (kS (.ty n))
  | .gcls c => .ofE (kS (.cls c))
  | .gfn f => .ofE (kS (.fn f))
  | .callX ns a as => .ofE (callXS ns V.J V.call (ev V J a).e (ev V J as).a)
  | .bin op a b => .ofE (opS (binQ op) (ev V J a).e (ev V J b).e)
  | .neg a => .ofE (negS (ev V J a).e)
  | .cmp op a b => { e := cmpV (cmp2 (cmpQ op) (ev V J a).e (ev V J b).e), t := cmp2 (cmpQ op) (ev V J a).e (ev V J b).e }
  | .cmp3 op op' a b c => { e := cmpV (cmp3 (cmpQ op) (cmpQ op') (ev V J a).e (ev V J b).e (ev V J c).e), t := cmp3 (cmpQ op) (cmpQ op') (ev V J a).e (ev V J b).e (ev V J c).e }
  | .and1 a => { e := (ev V J a).e, t := (ev V J a).t }
  | .and2 a b => { e := andV (ev V J a).e (ev V J b).e, t := andT (ev V J a).t (ev V J b).t }
  | .or1 a => { e := (ev V J a).e, t := (ev V J a).t }
  | .or2 a b => { e := orV (ev V J a).e (ev V J b).e, t := orT (ev V J a).t (ev V J b).t }
  | .not a => { e := notV (ev V J a).e, t := notT (ev V J a).t }
  | .ifx c a b => { e := ifV (ev V J c).t (ev V J a).e (ev V J b).e }
  | .tup as => .ofE (dispS tupV (ev V J as).a)
  | .lst as => .ofE (dispS lstV (ev V J as).a)
  | .dnew => .ofE fun ρ => .ok (.v (.m [])) ρ
  | .ix a b => .ofE (opS ixQ (ev V J a).e (ev V J b).e)
  | .sl a lo hi => .ofE (slS (ev V J a).e (ev V J lo).o (ev V J hi).o)
  | .dget a b => .ofE (opS dgetQ (ev V J a).e (ev V J b).e)
  | .din neg a b => { e := cmpV (cmp2 (dinQ (if neg then (!·) else id)) (ev V J a).e (ev V J b).e), t := cmp2 (dinQ (if neg then (!·) else id)) (ev V J a).e (ev V J b).e }
  | .dget2 o a b => .ofE (dget2S (ev V J o).e (ev V J a).e (ev V J b).e)
  | .prim f as => .ofE (primS (f.sem V.sub) (ev V J as).a)
  | .call f as => .ofE (callS (V.J f) (V.call f) (ev V J as).a)
  | .meth m o as => .ofE (methS m.T m.sem (ev V J o).e (ev V J as).a)
  | .mut m o as => .ofE (mutS m.T m.sem (ev V J o).e (if m.bare then nilA else (ev V J as).a))
  | .comp own it tg ifs elt => { e := compE (compS (ev V J it).i (ev V J tg).g (ev V J ifs).f (ev V J elt).e (own.map (·.2))) }
  | .nil => { a := nilA, o := none, f := none, gs := nilG, s := nilS }
  | .cons a as => { a := consA (ev V J a).e (ev V J as).a, o := some (ev V J a).e, f := some (ev V J a).t, gs := consG (ev V J a).g (ev V J as).gs, s := seqS (ev V J a).s (ev V J as).s }
  | .gnm i => { g := nmG i }
  | .gtup as => { g := tupG (lenT as) (ev V J as).gs }
  | .iseq a => { i := seqI (ev V J a).e }
  | .irange1 a => { i := range1I (consA (ev V J a).e nilA) }
  | .irange2 a b => { i := range2I (consA (ev V J a).e (consA (ev V J b).e nilA)) }
  | .izip a b => { i := zipI (consA (ev V J a).e (consA (ev V J b).e nilA)) }
  | .refl told a => .ofE (lowS V fun V' => reflS V'.res told (ev V' J a).e)
  | .lstN as => .ofE (dispN (ev V J as).a)
  | .appN a b as => .ofE (appNS (ev V J a).e (ev V J b).e (ev V J as).a)
  | .lend a => { e := lendE (ev V J a).e, t := lendT (ev V J a).t }
  | .compN own it tg elt => { e := compNS (ev V J it).i (ev V J tg).g (ev V J elt).e (own.map (·.2)) }
  | .sitems a => .ofE (sortItemsS (ev V J a).e)
  | .callB f as => .ofE (callBS (V.call f) (ev V J as).a)
  | .sortSet a => .ofE (sortedSetS (ev V J a).e)
  | .lenSet a => .ofE (lenSetS (ev V J a).e)
  | .mmd mx k a => .ofE (mmdS mx (kOpt k) (ev V J a).e)
  | .slp a lo hi st => .ofE (slpS (ev V J a).e (ev V J lo).o (ev V J hi).o (ev V J st).e)
  | .ienum a => { i := enumI (ev V J a).e }
  | .pass => .ofS nilS
  | .brk => .ofS fun ρ => .ok .bk ρ
  | .cont => .ofS fun ρ => .ok .ct ρ
  | .ret a => .ofS (retS J (ev V J a).e)
  | .set i a => .ofS (setS i (ev V J a).e)
  | .setc i a => .ofS (setS i (ev V J a).e)
  | .asg tg a => .ofS (asgS (ev V J a).e (ev V J tg).g)
  | .par2 i j a b => .ofS (par2S i j (consA (ev V J a).e (consA (ev V J b).e nilA)))
  | .par3 i j l a b c => .ofS (par3S i j l (consA (ev V J a).e (consA (ev V J b).e (consA (ev V J c).e nilA))))
  | .drop a => .ofS (dropS (ev V J a).e)
  | .ite c a b => .ofS (ifS (ev V J c).t (ev V J a).s (ev V J b).s)
  | .for_ it tg body => .ofS (forS (ev V J it).i (ev V J tg).g (ev V J body).s)
  | .while_ c body => .ofS (whileL (ev V J c).t (ev V J body).s FUEL)
  | .setit i k v => .ofS (setItem i (ev V J k).e (ev V J v).e)
  | .raise c => .ofS (raiseS c)
  | .tryk i a => .ofS (tryS J i (ev V J a).e V.res)
/-- the slots that a target sets -/
def slotsT : T → List Nat
  | .gnm i => [i]
  | .gtup as => slotsT as
  | .cons a as => slotsT a ++ slotsT as
  | _ => []

/-! ### do the words say what stands in the program? -/
/-- what is known of the module -/
structure Gc where
  fns : List (Nat × (Str × Nat))
  nums : List (Str × Int)
  clss : List (Nat × Str)
  rais : List Nat
  none : List Str
  far : Str
  kind : Str
  hot : Bool
  /-- the def that is handed a lambda, and the word of what is not refused -/
  refu : Option (Str × Str)
/-- where one stands -/
structure Cc where
  N : List Str
  sc : Scope
  calm : Bool
  fnB : Str → Bool
  body : Bool
  J : List Nat
  lam : Bool
def kindIs (sc : Scope) (x : Str) (k : NameKind) : Bool := sc.names.lookup x == some k
def visB (sc : Scope) (x : Str) : Bool := kindIs sc x .local || kindIs sc x .cell || kindIs sc x .free
def locB (c : Cc) (x : Str) : Bool := (kindIs c.sc x .local || kindIs c.sc x .cell) && (c.fnB x || kindIs c.sc x .local)
def plainN (x : Str) : Bool := !(x == ("__debug__" : Str)) && !(x == ("__classdict__" : Str)) && !(x == ("__name__" : Str))
def glB (c : Cc) (x : Str) : Bool := kindIs c.sc x .globalImplicit && plainN x
def absB (C : Gc) (c : Cc) (x : Str) : Bool := glB c x && C.none.contains x
def Pr.nm : Pr → Str
  | .len => "len" | .isi => "isinstance" | .int => "int" | .abs => "abs" | .max2 => "max" | .min2 => "min" | .tuple => "tuple" | .list => "list" | .sum => "sum" | .all => "all" | .any => "any" | .sorted => "sorted" | .repr => "repr" | .mm mx => (mmN mx : String) | .isiT => "isinstance"
def Mt.nm : Mt → Str
  | .count => "count" | .index => "index"
def Mu.nm : Mu → Str
  | .append => "append" | .extend => "extend" | .reverse => "reverse" | .pop => "pop" | .popAt => "pop"
def tyNm : String → Option Str
  | "int" => some "int" | "bool" => some "bool" | "tuple" => some "tuple" | "list" => some "list" | "str" => some "str" | "dict" => some "dict" | "ValueError" => some "ValueError"
  | _ => none
structure Ck where
  e : Cc → Expr → Bool := fun _ _ => false
  a : Cc → List Expr → Bool := fun _ _ => false
  o : Cc → Option Expr → Bool := fun _ _ => false
  f : Cc → List Expr → Bool := fun _ _ => false
  g : Cc → Expr → Bool := fun _ _ => false
  gs : Cc → List Expr → Bool := fun _ _ => false
  i : Cc → Expr → Expr → Bool := fun _ _ _ => false
  s : Cc → Stmt → Bool := fun _ _ => false
  b : Cc → List Stmt → Bool := fun _ _ => false
def swB (c : Cc) (x y : Str) (px py : Pos) (a b : Expr) : Bool :=
  kindIs c.sc x .local && kindIs c.sc y .local && (py.line == px.line) && !(x == y) && starless a && starless b && !(foldedForSure 8 a && foldedForSure 8 b) && !(constantsAlone 8 a && constantsAlone 8 b) && (c.sc.kind == .function)
def swB3 (c : Cc) (x y z : Str) (px py pz : Pos) (a b d : Expr) : Bool :=
  kindIs c.sc x .local && kindIs c.sc y .local && kindIs c.sc z .local && (py.line == px.line) && (pz.line == px.line) && !(x == y) && !(x == z) && !(y == z) && starless a && starless b && starless d && !(foldedForSure 8 a && (foldedForSure 8 b && foldedForSure 8 d)) && !(constantsAlone 8 a && (constantsAlone 8 b && constantsAlone 8 d)) && (c.sc.kind == .function)
/-- the same where one of the names is read in a block within -/
def swN (c : Cc) (x y : Str) : Bool := !(kindIs c.sc x .local && kindIs c.sc y .local) && locB c x && locB c y
def swN3 (c : Cc) (x y z : Str) : Bool := !(kindIs c.sc x .local && (kindIs c.sc y .local && kindIs c.sc z .local)) && locB c x && locB c y && locB c z
def isC : T → Bool
  | .comp _ _ _ _ _ => true
  | .compN _ _ _ _ => true
  | _ => false
def isW : T → Bool
  | .and1 _ => true | .and2 _ _ => true | .or1 _ => true | .or2 _ _ => true
  | _ => false
def isSubs : Expr → Bool
  | .Subscript .. => true
  | .Name .. => true
  | _ => false
def freeJ (c : Cc) (i : Nat) : Bool := !c.J.contains i
def Pr.hotOk : Pr → Bool
  | .len => true | .isi => true | .int => true | .abs => true | .tuple => true | .list => true | _ => false
/-- a written None, a written whole number -/
def isK : Option Int → Expr → Bool
  | none, .Constant .none _ _ => true
  | some i, .Constant (.int j) _ _ => i == j
  | _, _ => false
/-- an attribute of it is asked of its worth -/
def argful : Expr → Bool
  | .Call _ [] [] _ => false
  | _ => true
theorem attrBase_arg {o : Expr} (h : argful o = true) (m : Str) (env : PySem.Env) (w : Sem Value) : attributeBase o m env w = w := by
  cases o <;> first
    | rfl
    | (rename_i f es kws p
       cases f <;> first
         | rfl
         | (cases es with
            | cons _ _ => rfl
            | nil => cases kws with
              | cons _ _ => rfl
              | nil => cases h))
def ck (C : Gc) : T → Ck
  | .gfn f => { e := fun c e => match e with
      | .Name x _ => (match C.fns.lookup f with | some (n, _) => n == x | none => false) && glB c x
      | _ => false }
  | .callX ns a as => { e := fun c e => match e with
      | .Call f (y :: r) [] _ => (ns.all fun i => (C.fns.lookup i).isSome) && isSubs f && c.calm && (ck C a).e c f && (ck C as).a c (y :: r)
      | _ => false }
  | .bad => { e := fun _ _ => true, s := fun _ _ => true }
  | .refl told a => { e := fun c e => match e with
      | .Call (.Name x _) [.Lambda ⟨[], [], none, [], [], none, []⟩ body sc _] [] _ => c.calm && c.lam && C.hot && (C.refu == some (x, told)) && glB c x && LamX.lamSB c.sc sc && (ck C a).e { N := c.N, sc := sc, calm := true, fnB := fun _ => false, body := false, J := c.J, lam := false } body
      | _ => false }
  | .nm i => { e := fun c e => match e with
      | .Name x _ => (c.N[i]? == some x) && visB c.sc x && plainN x
      | _ => false }
  | .int i => { e := fun _ e => match e with
      | .Constant (.int j) _ _ => i == j
      | _ => false }
  | .bl i => { e := fun _ e => match e with
      | .Constant (.bool j) _ _ => i == j
      | _ => false }
  | .non => { e := fun _ e => match e with
      | .Constant .none _ _ => true
      | _ => false }
  | .str i => { e := fun _ e => match e with
      | .Constant (.str j) _ _ => i == j
      | _ => false }
  | .gint y i => { e := fun c e => match e with
      | .Name x _ => (x == y) && glB c x && C.nums.contains (x, i)
      | _ => false }
  | .tyN n => { e := fun c e => match e with
      | .Name x _ => (tyNm n == some x) && absB C c x
      | _ => false }
  | .gcls k => { e := fun c e => match e with
      | .Name x _ => (C.clss.lookup k == some x) && glB c x
      | _ => false }
  | .bin op a b => { e := fun c e => match e with
      | .BinOp x o y _ => (op == o) && okBin op && (ck C a).e c x && (ck C b).e c y
      | _ => false }
  | .neg a => { e := fun c e => match e with
      | .UnaryOp .USub x _ => (ck C a).e c x
      | _ => false }
  | .cmp op a b => { e := fun c e => match e with
      | .Compare x [o] [y] _ => (op == o) && (ck C a).e c x && (ck C b).e c y && setless y
      | _ => false }
  | .cmp3 op op' a b d => { e := fun c e => match e with
      | .Compare x [o, o'] [y, z] _ => (op == o) && (op' == o') && (ck C a).e c x && (ck C b).e c y && (ck C d).e c z && setless z
      | _ => false }
  | .and1 a => { e := fun c e => match e with
      | .BoolOp .And [x] _ => (ck C a).e c x
      | _ => false }
  | .and2 a b => { e := fun c e => match e with
      | .BoolOp .And (x :: y :: r) p => isW b && (ck C a).e c x && (ck C b).e c (.BoolOp .And (y :: r) p)
      | _ => false }
  | .or1 a => { e := fun c e => match e with
      | .BoolOp .Or [x] _ => (ck C a).e c x
      | _ => false }
  | .or2 a b => { e := fun c e => match e with
      | .BoolOp .Or (x :: y :: r) p => isW b && (ck C a).e c x && (ck C b).e c (.BoolOp .Or (y :: r) p)
      | _ => false }
  | .not a => { e := fun c e => match e with
      | .UnaryOp .Not x _ => (ck C a).e c x
      | _ => false }
  | .ifx t a b => { e := fun c e => match e with
      | .IfExp x y z _ => (ck C t).e c x && (ck C a).e c y && (ck C b).e c z
      | _ => false }
  | .tup as => { e := fun c e => match e with
      | .Tuple xs _ _ => (ck C as).a c xs
      | _ => false }
  | .lst as => { e := fun c e => match e with
      | .List xs _ => (ck C as).a c xs
      | _ => false }
  | .dnew => { e := fun _ e => match e with
      | .Dict [] [] _ => true
      | _ => false }
  | .ix a b => { e := fun c e => match e with
      | .Subscript x y _ => (ck C a).e c x && (ck C b).e c y && sliceless y
      | _ => false }
  | .sl a lo hi => { e := fun c e => match e with
      | .Subscript x (.Slice l h none _) _ => (ck C a).e c x && (ck C lo).o c l && (ck C hi).o c h
      | _ => false }
  | .dget a b => { e := fun c e => match e with
      | .Subscript x y _ => (ck C a).e c x && (ck C b).e c y && sliceless y
      | _ => false }
  | .din neg a b => { e := fun c e => match e with
      | .Compare x [op] [y] _ => (op == (if neg then CmpOp.NotIn else CmpOp.In)) && (ck C a).e c x && (ck C b).e c y && setless y
      | _ => false }
  | .dget2 o a b => { e := fun c e => match e with
      | .Call (.Attribute z nm ap) [x, y] [] cp => (nm == ("get" : Str)) && (ck C o).e c z && (ck C a).e c x && (ck C b).e c y && callless z && starless x && starless y && (ap.endLine == cp.line)
      | _ => false }
  | .prim f as => { e := fun c e => match e with
      | .Call (.Name x _) (y :: r) [] _ => (f.nm == x) && absB C c x && (ck C as).a c (y :: r) && (c.calm || f.hotOk)
      | _ => false }
  | .call f as => { e := fun c e => match e with
      | .Call (.Name x _) (y :: r) [] _ => (match C.fns.lookup f with | some (n, k) => (n == x) && glB c x && (ck C as).a c (y :: r) && c.calm | none => false)
      | _ => false }
  | .meth m o as => { e := fun c e => match e with
      | .Call (.Attribute z nm ap) (y :: r) [] cp => (m.nm == nm) && (ck C o).e c z && callless z && (ap.endLine == cp.line) && (ck C as).a c (y :: r) && decide ((y :: r).length < 20)
      | _ => false }
  | .mut m o as => { e := fun c e => match e with
      | .Call (.Attribute z nm ap) xs [] cp => (m.nm == nm) && (ck C o).e c z && callless z && (ap.endLine == cp.line) && (if m.bare then xs.isEmpty else !xs.isEmpty && (ck C as).a c xs && decide (xs.length < 20))
      | _ => false }
  | .comp own it tg ifs elt => { e := fun c e => match e with
      | .ListComp x [⟨g, i, fs, 0⟩] sc _ => c.calm && (ck C it).i c g i && blkC c.N c.sc sc own && ((slotsT tg).all fun j => (own.map (·.2)).contains j) && setless i &&
          (let c' : Cc := { N := c.N, sc := relS sc c.sc, calm := true, fnB := fun y => kindIs sc y .cell, body := false, J := c.J, lam := c.lam }
           (ck C tg).g c' g && (ck C ifs).f c' fs && (ck C elt).e c' x)
      | _ => false }
  | .nil => { a := fun _ es => es.isEmpty, o := fun _ e => e.isNone, f := fun _ es => es.isEmpty, gs := fun _ es => es.isEmpty, b := fun _ ss => ss.isEmpty }
  | .cons a as => {
      a := (fun c es => match es with
      | e :: es => (ck C a).e c e && starless e && (ck C as).a c es
      | [] => false),
      o := (fun c e => match e with
      | some e => (ck C a).e c e
      | none => false),
      f := (fun c es => match es with
      | [e] => (ck C a).e c e
      | _ => false),
      gs := (fun c es => match es with
      | e :: es => (ck C a).g c e && starless e && (ck C as).gs c es
      | [] => false),
      b := (fun c ss => match ss with
      | s :: ss => (ck C a).s c s && (ck C as).b c ss
      | [] => false) }
  | .gnm i => { g := fun c e => match e with
      | .Name x _ => (c.N[i]? == some x) && locB c x
      | _ => false }
  | .gtup as => { g := fun c e => match e with
      | .Tuple es _ _ => c.calm && (ck C as).gs c es && es.all starless && (lenT as == es.length)
      | _ => false }
  | .iseq a => { i := fun c _ e => (ck C a).e c e }
  | .irange1 a => { i := fun c _ e => match e with
      | .Call (.Name x _) [y] [] _ => (x == ("range" : Str)) && absB C c x && (ck C a).e c y && starless y
      | _ => false }
  | .irange2 a b => { i := fun c _ e => match e with
      | .Call (.Name x _) [y, z] [] _ => (x == ("range" : Str)) && absB C c x && (ck C a).e c y && starless y && (ck C b).e c z && starless z
      | _ => false }
  | .izip a b => { i := fun c g e => match g, e with
      | .Tuple _ _ _, .Call (.Name x _) [y, z] [] _ => (x == ("zip" : Str)) && absB C c x && (ck C a).e c y && starless y && (ck C b).e c z && starless z
      | _, _ => false }
  | .lstN as => { e := fun c e => match e with
      | .List xs _ => (ck C as).a c xs
      | _ => false }
  | .appN a b as => { e := fun c e => match e with
      | .Call (.Attribute (.Subscript z kb _) nm ap) [y] [] cp => ("append" == nm) && (ck C a).e c z && (ck C b).e c kb && (ck C as).a c [y] && sliceless kb && starless y && (ap.endLine == cp.line)
      | _ => false }
  | .lend a => { e := fun c e => (ck C a).e c e }
  | .compN own it tg elt => { e := fun c e => match e with
      | .ListComp x [⟨g, i, [], 0⟩] sc _ => c.calm && (ck C it).i c g i && blkC c.N c.sc sc own && ((slotsT tg).all fun j => (own.map (·.2)).contains j) && setless i &&
          (let c' : Cc := { N := c.N, sc := relS sc c.sc, calm := true, fnB := fun y => kindIs sc y .cell, body := false, J := c.J, lam := c.lam }
           (ck C tg).g c' g && (ck C elt).e c' x)
      | _ => false }
  | .sitems a => { e := fun c e => match e with
      | .Call (.Name x _) [.Call (.Attribute z nm ap) [] [] cp] [] _ => c.calm && (x == ("sorted" : Str)) && (nm == ("items" : Str)) && absB C c x && (ck C a).e c z && argful z && (ap.endLine == cp.line)
      | _ => false }
  | .callB f as => { e := fun c e => match e with
      | .Call (.Name x _) (y :: r) [] _ => (match C.fns.lookup f with | some (n, k) => (n == x) && glB c x && (ck C as).a c (y :: r) && c.calm | none => false)
      | _ => false }
  | .sortSet a => { e := fun c e => match e with
      | .Call (.Name x _) [.Call (.Name y _) [z] [] _] [] _ => c.calm && (x == ("sorted" : Str)) && (y == ("set" : Str)) && absB C c x && absB C c y && (ck C a).e c z && starless z
      | _ => false }
  | .lenSet a => { e := fun c e => match e with
      | .Call (.Name x _) [.Call (.Name y _) [z] [] _] [] _ => c.calm && (x == ("len" : Str)) && (y == ("set" : Str)) && absB C c x && absB C c y && (ck C a).e c z && starless z
      | _ => false }
  | .mmd mx k a => { e := fun c e => match e with
      | .Call (.Name x _) [z] [⟨some d, kc, _⟩] _ => c.calm && (x == (mmN mx : Str)) && (d == ("default" : Str)) && absB C c x && (ck C a).e c z && starless z && isK k kc
      | _ => false }
  | .slp a lo hi st => { e := fun c e => match e with
      | .Subscript x (.Slice l h (some t) _) _ => (ck C a).e c x && (ck C lo).o c l && (ck C hi).o c h && (ck C st).e c t
      | _ => false }
  | .ienum a => { i := fun c g e => match g, e with
      | .Tuple _ _ _, .Call (.Name x _) [y] [] _ => (x == ("enumerate" : Str)) && absB C c x && (ck C a).e c y && starless y
      | _, _ => false }
  | .pass => { s := fun _ s => match s with
      | .Pass _ => true
      | _ => false }
  | .brk => { s := fun _ s => match s with
      | .Break _ => true
      | _ => false }
  | .cont => { s := fun _ s => match s with
      | .Continue _ => true
      | _ => false }
  | .ret a => { s := fun c s => match s with
      | .Return (some e) _ => (ck C a).e c e
      | _ => false }
  | .set i a => { s := fun c s => match s with
      | .Assign [.Name x _] e _ => freeJ c i && (c.N[i]? == some x) && locB c x && compless e && (ck C a).e c e
      | _ => false }
  | .setc i a => { s := fun c s => match s with
      | .Assign [.Name x px] (.ListComp el [⟨g, it, fs, 0⟩] sc p) _ => freeJ c i && isC a && (c.N[i]? == some x) && kindIs c.sc x .local && (c.sc.kind == .function) && (px.line == p.line) && !(sc.names.any fun (n, k) => n == x && (k == .local || k == .cell)) && (ck C a).e c (.ListComp el [⟨g, it, fs, 0⟩] sc p)
      | _ => false }
  | .asg tg a => { s := fun c s => match s with
      | .Assign [g] e _ => ((slotsT tg).all fun j => freeJ c j) && (ck C tg).g c g && starless g && compless e && tupless e && (ck C a).e c e
      | _ => false }
  | .par2 i j a b => { s := fun c s => match s with
      | .Assign [.Tuple [.Name x px, .Name y py] _ _] (.Tuple [d, e] _ _) _ => freeJ c i && freeJ c j && c.calm && (c.N[i]? == some x) && (c.N[j]? == some y) && !(i == j) && (swB c x y px py d e || (swN c x y && starless d && starless e)) && (ck C a).e c d && (ck C b).e c e
      | _ => false }
  | .par3 i j l a b d => { s := fun c s => match s with
      | .Assign [.Tuple [.Name x px, .Name y py, .Name z pz] _ _] (.Tuple [e, f, h] _ _) _ => freeJ c i && freeJ c j && freeJ c l && c.calm && (c.N[i]? == some x) && (c.N[j]? == some y) && (c.N[l]? == some z) && !(i == j) && !(i == l) && !(j == l) && (swB3 c x y z px py pz e f h || (swN3 c x y z && starless e && starless f && starless h)) && (ck C a).e c e && (ck C b).e c f && (ck C d).e c h
      | _ => false }
  | .drop a => { s := fun c s => match s with
      | .Expr e _ => compless e && (ck C a).e c e
      | _ => false }
  | .ite t a b => { s := fun c s => match s with
      | .If e x y _ => (ck C t).e c e && (ck C a).b c x && (ck C b).b c y
      | _ => false }
  | .for_ it tg body => { s := fun c s => match s with
      | .For g i b [] _ => ((slotsT tg).all fun j => freeJ c j) && c.calm && c.body && (ck C it).i c g i && (ck C tg).g c g && (ck C body).b c b && setless i
      | _ => false }
  | .while_ t body => { s := fun c s => match s with
      | .While e b [] _ => c.body && (ck C t).e c e && (ck C body).b c b
      | _ => false }
  | .setit i k v => { s := fun c s => match s with
      | .Assign [.Subscript (.Name x _) y _] e _ => (c.N[i]? == some x) && visB c.sc x && plainN x && (ck C k).e c y && (ck C v).e c e && sliceless y && compless e && tupless e
      | _ => false }
  | .raise k => { s := fun c s => match s with
      | .Raise (some (.Call (.Name x _) [] [] _)) none _ => c.calm && C.rais.contains k && (C.clss.lookup k == some x) && glB c x
      | _ => false }
  | .tryk i a => { s := fun c s => match s with
      | .Try [.Return (some e) _] [.ExceptHandler (some (.Name x _)) (some nm) [.Return (some (.Call (.Name kx _) [.Name nm2 _] [] _)) _] _] [] [] _ => C.hot && c.calm && c.body && (ck C a).e { c with body := false } e && (c.N[i]? == some nm) && (nm == nm2) && kindIs c.sc nm .local && plainN nm && (x == C.far) && glB c x && (kx == C.kind) && glB c kx
      | _ => false }
end Pv

namespace Pv
open PySem PySem.Spec PyProof.Rows L2 L2H

/-- what the module bears -/
structure Md (V : Gv) (C : Gc) (G : Tab) (P : Program) (w : World) (K : PySem.W.Frag) (mg : Str → Option Value) (base : Heap) (k : Nat) : Prop where
  none : ∀ x, C.none.contains x = true → mg x = none
  nums : ∀ x i, C.nums.contains (x, i) = true → ∃ t, mg x = some (.int i t)
  clss : ∀ (c : Nat) (x : Str), C.clss.lookup c = some x → mg x = some (.ref (G.cls c)) ∧ PySem.W.keepIn K (.ref (G.cls c)) = true
  rais : ∀ (c : Nat) (x : Str), C.rais.contains c = true → C.clss.lookup c = some x → ∃ (B newId initId : String) (bmB : List Value), ExcBaseFacts B newId initId bmB ∧ PySem.W.excIn K (G.cls c) bmB newId = true ∧ PySem.W.subIn K (.ref (G.cls c)) (.type "BaseException") = some true ∧ PySem.W.typeIn K (.ref (G.cls c)) = some (.type "type")
  fns : ∀ f n j, C.fns.lookup f = some (n, j) → ∃ a fd ps, FnG P w K mg base (L2.CX P w) k a fd ps (spF K G j (V.call f)) ∧ (∀ as, as.length ≠ j → V.call f as = .bad) ∧ mg n = some (.ref a) ∧ PySem.W.keepIn K (.ref a) = true ∧ Binds K fd ps [] ∧ G.fn f = a
  refu : ∀ x told, C.refu = some (x, told) → ∃ (qg a nm : Str) (stg : Stmt) (g : Addr) (fd : FuncData), mg x = some (.ref g) ∧ Fun K x qg stg g fd ∧ FnScope [a, nm] [a] (defScope stg) ∧ Binds K fd [a] [] ∧ RefT a nm C.far C.kind told (defBody stg) ∧
    ((defScope stg).names.lookup C.far = some .globalImplicit ∧ (defScope stg).names.lookup C.kind = some .globalImplicit ∧ (defScope stg).names.lookup nm = some .local) ∧ a ≠ nm ∧ ∀ y ∈ [x, a, nm, C.far, C.kind], (y == ("__debug__" : Str)) = false ∧ (y == ("__classdict__" : Str)) = false
  low : ∀ cl, V.callL = some cl → ∃ k', k = k' + 2 ∧ (∀ f n j, C.fns.lookup f = some (n, j) → ∃ a fd ps, FnG P w K mg base (L2.CX P w) k' a fd ps (spF K G j (cl f)) ∧ (∀ as, as.length ≠ j → cl f as = .bad) ∧ mg n = some (.ref a) ∧ PySem.W.keepIn K (.ref a) = true ∧ Binds K fd ps [] ∧ G.fn f = a) ∧
    (C.hot = true → ∃ fk fd ps Cf, FnP P w K mg base (L2.CX P w) k' fk fd ps (spKind K G V.res) ∧ mg C.kind = some (.ref fk) ∧ PySem.W.keepIn K (.ref fk) = true ∧ Binds K fd ps [] ∧ mg C.far = some (.ref Cf) ∧ ∀ c r, V.res c = some r → PySem.W.exmOne K (.ref (G.cls c)) (.ref Cf) = some true)
  kind : C.hot = true → ∃ fk fd ps Cf, FnP P w K mg base (L2.CX P w) k fk fd ps (spKind K G V.res) ∧ mg C.kind = some (.ref fk) ∧ PySem.W.keepIn K (.ref fk) = true ∧ Binds K fd ps [] ∧ mg C.far = some (.ref Cf) ∧ ∀ c r, V.res c = some r → PySem.W.exmOne K (.ref (G.cls c)) (.ref Cf) = some true
structure Ctx (V : Gv) (J : List Nat) (C : Gc) (G : Tab) (P : Program) (w : World) (K : PySem.W.Frag) (mg : Str → Option Value) (base : Heap) (k : Nat) (c : Cc) (X : Cx) (W : WX) : Prop where
  prog : X.prog = P
  w : X.w = w
  K : X.K = K
  mg : X.mg = mg
  base : X.base = base
  N : X.N = c.N
  sc : X.env.scope = c.sc
  J : c.J = J
  nodup : c.N.Nodup
  calm : c.calm = true → X.calm = true
  fnB : ∀ x, c.fnB x = true → X.fn x = true
  hu : X.A.units + 64 < cLine
  exn : ExnOk X G V.sub
  noex : c.calm = true → ∀ a, G.exn a = none
  room : c.calm = true → RoomG k X.A
  takes : c.calm = true → Takes X W
  own : c.body = true → PassesOwn (model X.prog X.w) X.A X.env X.xe
  stk : c.body = true → X.stack = X.env :: X.outer ∧ X.env.frame = some X.env.locals
  lam : c.lam = true → ∃ c0 P0, X.env.code = .ref c0 ∧ (P0, X.env.qual ++ "<lambda>") ∈ G.tabs ∧ (∀ p ∈ G.tabs, p.1 = P0 → p.2 = X.env.qual ++ "<lambda>") ∧ LamX.TabB X.base X.mg c0 P0

structure Snd (V : Gv) (J : List Nat) (C : Gc) (G : Tab) (P : Program) (w : World) (K : PySem.W.Frag) (mg : Str → Option Value) (base : Heap) (k : Nat) (τ : T) : Prop where
  e : ∀ c X W e, Ctx V J C G P w K mg base k c X W → (ck C τ).e c e = true → EE X G W e (ev V J τ).e := by intro c X W e _ h; exact absurd (show false = true from h) Bool.false_ne_true
  t : ∀ c X W e, Ctx V J C G P w K mg base k c X W → (ck C τ).e c e = true → ET X G W e (ev V J τ).t := by intro c X W e _ h; exact absurd (show false = true from h) Bool.false_ne_true
  wh : isW τ = true → ∀ c X W e, Ctx V J C G P w K mg base k c X W → (ck C τ).e c e = true → EW X G W e (ev V J τ).t := by intro h; exact absurd (show false = true from h) Bool.false_ne_true
  sc : isC τ = true → ∀ c X W i x px e p, Ctx V J C G P w K mg base k c X W → (ck C τ).e c e = true → i ∉ J → X.N[i]? = some x → X.env.scope.names.lookup x = some .local → swapsWith e (some (.Name x px)) p.line X.env = pure true → SS X G W J (.Assign [.Name x px] e p) (setS i (ev V J τ).e) := by intro h; exact absurd (show false = true from h) Bool.false_ne_true
  a : ∀ c X W es, Ctx V J C G P w K mg base k c X W → (ck C τ).a c es = true → EA X G W es (ev V J τ).a ∧ es.all starless = true := by intro c X W e _ h; exact absurd (show false = true from h) Bool.false_ne_true
  o : ∀ c X W e, Ctx V J C G P w K mg base k c X W → (ck C τ).o c e = true → EO X G W e (ev V J τ).o := by intro c X W e _ h; exact absurd (show false = true from h) Bool.false_ne_true
  f : ∀ c X scope es, (∀ (s : Shared) (H : Hp) (A : Addr) (cl : List (Str × Addr)) (fp : List Addr), Ctx V J C G P w K mg base k c (X.blk s H scope (compEnvC scope cl A X.env) fp) (fun _ _ _ _ => False)) → (ck C τ).f c es = true → EIfB X G scope es (ev V J τ).f := by intro c X W e _ h; exact absurd (show false = true from h) Bool.false_ne_true
  g : ∀ c X W e, Ctx V J C G P w K mg base k c X W → (ck C τ).g c e = true → EG X G e (ev V J τ).g (slotsT τ) := by intro c X W e _ h; exact absurd (show false = true from h) Bool.false_ne_true
  gs : ∀ c X W es, Ctx V J C G P w K mg base k c X W → (ck C τ).gs c es = true → EGs X G es (ev V J τ).gs (slotsT τ) := by intro c X W e _ h; exact absurd (show false = true from h) Bool.false_ne_true
  i : ∀ c X W g e, Ctx V J C G P w K mg base k c X W → (ck C τ).i c g e = true → EI X G W g e (ev V J τ).i := by intro c X W g e _ h; exact absurd (show false = true from h) Bool.false_ne_true
  s : ∀ c X W e, Ctx V J C G P w K mg base k c X W → (ck C τ).s c e = true → SS X G W J e (ev V J τ).s := by intro c X W e _ h; exact absurd (show false = true from h) Bool.false_ne_true
  b : ∀ c X W es, Ctx V J C G P w K mg base k c X W → (ck C τ).b c es = true → SSs X G W J es (ev V J τ).s := by intro c X W e _ h; exact absurd (show false = true from h) Bool.false_ne_true

/-! ### small laws -/
theorem kindIs_iff {sc : Scope} {x : Str} {k : NameKind} (h : kindIs sc x k = true) : sc.names.lookup x = some k := by
  unfold kindIs at h; exact eq_of_beq h
theorem visB_ok {sc : Scope} {x : Str} (h : visB sc x = true) : Vis sc x := by
  unfold visB at h
  simp only [Bool.or_eq_true] at h
  rcases h with (h | h) | h
  · exact .inl (kindIs_iff h)
  · exact .inr (.inl (kindIs_iff h))
  · exact .inr (.inr (kindIs_iff h))
theorem plainN_ok {x : Str} (h : plainN x = true) : (x == ("__debug__" : Str)) = false ∧ (x == ("__classdict__" : Str)) = false ∧ x ≠ ("__name__" : Str) := by
  unfold plainN at h
  simp only [Bool.and_eq_true, Bool.not_eq_true'] at h
  exact ⟨h.1.1, h.1.2, fun e => by rw [e] at h; simp at h⟩
section
variable {V : Gv} {J : List Nat} {C : Gc} {G : Tab} {P : Program} {w : World} {K : PySem.W.Frag} {mg : Str → Option Value} {base : Heap} {k : Nat} {c : Cc} {X : Cx} {W : WX} {x : Str}
theorem gl_ok (q : Ctx V J C G P w K mg base k c X W) (h : glB c x = true) : Gl X x ∧ (x == ("__debug__" : Str)) = false ∧ x ≠ ("__name__" : Str) := by
  unfold glB at h
  simp only [Bool.and_eq_true] at h
  exact ⟨by show X.env.scope.names.lookup x = _; rw [q.sc]; exact kindIs_iff h.1, (plainN_ok h.2).1, (plainN_ok h.2).2.2⟩
theorem abs_ok' (M : Md V C G P w K mg base k) (q : Ctx V J C G P w K mg base k c X W) (h : absB C c x = true) : Gl X x ∧ (x == ("__debug__" : Str)) = false ∧ x ≠ ("__name__" : Str) ∧ X.mg x = none := by
  unfold absB at h
  simp only [Bool.and_eq_true] at h
  obtain ⟨a, b, d⟩ := gl_ok q h.1
  exact ⟨a, b, d, by rw [q.mg]; exact M.none _ h.2⟩
theorem loc_ok (q : Ctx V J C G P w K mg base k c X W) (h : locB c x = true) : Loc X.env.scope x ∧ (X.fn x = true ∨ X.env.scope.names.lookup x = some .local) := by
  unfold locB at h
  simp only [Bool.and_eq_true, Bool.or_eq_true] at h
  rw [q.sc]
  exact ⟨h.1.elim (fun h => .inl (kindIs_iff h)) fun h => .inr (kindIs_iff h), h.2.elim (fun h => .inl (q.fnB _ h)) fun h => .inr (kindIs_iff h)⟩
theorem free_ok {i : Nat} (q : Ctx V J C G P w K mg base k c X W) (h : freeJ c i = true) : i ∉ J := by
  unfold freeJ at h
  rw [q.J] at h
  simpa using h
theorem frees_ok {l : List Nat} (q : Ctx V J C G P w K mg base k c X W) (h : (l.all fun j => freeJ c j) = true) : ∀ i ∈ l, i ∉ J := fun i hi => free_ok q (List.all_eq_true.mp h i hi)
theorem et_bad {e : Expr} : ET X G W e (fun _ => .bad) := ⟨fun _ _ _ => False, ⟨fun _ _ _ _ _ _ h => h.elim⟩, fun σ H ρ F fp Q S q => q⟩
theorem ctx_tr (q : Ctx V J C G P w K mg base k c X W) (hc : c.calm = true) {W' : WX} {pn : List (Addr × Obj)} {xe : Value → Shared → Prop} (tk : Takes (X.tr pn xe) W') : Ctx V J C G P w K mg base k { c with body := false } (X.tr pn xe) W' :=
  { prog := q.prog, w := q.w, K := q.K, mg := q.mg, base := q.base, N := q.N, sc := q.sc, J := q.J, nodup := q.nodup, calm := q.calm, fnB := q.fnB, hu := q.hu, exn := ⟨fun a c h => by rw [q.noex hc a] at h; cases h⟩, noex := q.noex, room := q.room
    takes := fun _ => tk, own := fun h => absurd h Bool.false_ne_true, stk := fun h => absurd h Bool.false_ne_true, lam := q.lam }
theorem takes_nil {X : Cx} : Takes X (fun _ _ _ _ => False) := fun _ _ ⟨_, _, _, _, _, _, _, _, _, _, _, _, _, _, _, _, w⟩ => w.elim
theorem ctx_blk (q : Ctx V J C G P w K mg base k c X W) (hc : c.calm = true) {sc : Scope} (s : Shared) (H : Hp) (A : Addr) (cl : List (Str × Addr)) (fp : List Addr) :
    Ctx V J C G P w K mg base k { N := c.N, sc := relS sc c.sc, calm := true, fnB := fun y => kindIs sc y .cell, body := false, J := c.J, lam := c.lam } (X.blk s H sc (compEnvC sc cl A X.env) fp) (fun _ _ _ _ => False) :=
  { prog := q.prog, w := q.w, K := q.K, mg := q.mg, base := q.base, N := q.N, sc := by show relS sc X.env.scope = _; rw [q.sc], J := q.J, nodup := q.nodup, calm := fun _ => q.calm hc, fnB := fun x h => h, hu := q.hu, exn := ⟨fun a c h => by rw [q.noex hc a] at h; cases h⟩, noex := fun _ => q.noex hc, room := fun _ => q.room hc
    takes := fun _ => takes_nil, own := fun h => absurd h Bool.false_ne_true, stk := fun h => absurd h Bool.false_ne_true, lam := q.lam }
theorem ctx_lam {k' : Nat} {V' : Gv} (q : Ctx V J C G P w K mg base k c X W) (hc : c.calm = true) (hs : V'.sub = V.sub) {sc : Scope} (A : Around) (outer : List PySem.Env) (s : Shared) (H : Hp) (E : XK) (f c' : Addr) (hr : RoomG k' (A.deeper (LamX.lamEnv X sc s.heap.objs.size f c'))) :
    Ctx V' J C G P w K mg base k' { N := c.N, sc := sc, calm := true, fnB := fun _ => false, body := false, J := c.J, lam := false } (LamX.lamCx X A outer s H E sc f c') (fun cls d _ H' => E cls d H') :=
  { prog := q.prog, w := q.w, K := q.K, mg := q.mg, base := q.base, N := q.N, sc := rfl, J := q.J, nodup := q.nodup, calm := fun _ => rfl, fnB := fun x h => absurd h Bool.false_ne_true
    hu := by have := hr.room.un; show (A.deeper _).units + 64 < _; omega
    exn := ⟨fun a c h => by rw [q.noex hc a] at h; cases h⟩, noex := fun _ => q.noex hc, room := fun _ => hr
    takes := fun _ => takes_of rfl rfl rfl rfl, own := fun h => absurd h Bool.false_ne_true, stk := fun h => absurd h Bool.false_ne_true, lam := fun h => absurd h Bool.false_ne_true }
theorem Snd.ofE {τ : T} {f : SemE} (h1 : (ev V J τ).e = f) (h2 : (ev V J τ).t = valT f) (hw : isW τ = false)
    (hx : ∀ c X W e, Ctx V J C G P w K mg base k c X W → (ck C τ).e c e = true → EE X G W e f ∧ plainT e = true)
    (ha : ∀ c es, (ck C τ).a c es = false) (ho : ∀ c es, (ck C τ).o c es = false) (hf : ∀ c es, (ck C τ).f c es = false) (hg : ∀ c es, (ck C τ).g c es = false) (hgs : ∀ c es, (ck C τ).gs c es = false) (hi : ∀ c g es, (ck C τ).i c g es = false)
    (hs : ∀ c es, (ck C τ).s c es = false) (hb : ∀ c es, (ck C τ).b c es = false) (hC : isC τ = false := by rfl) : Snd V J C G P w K mg base k τ where
  e := fun c X W e q h => by rw [h1]; exact (hx c X W e q h).1
  t := fun c X W e q h => by rw [h2]; exact et_val (hx c X W e q h).1 (hx c X W e q h).2
  wh := fun h => by rw [hw] at h; cases h
  sc := fun h => by rw [hC] at h; cases h
  a := fun c X W es _ h => by rw [ha] at h; cases h
  o := fun c X W es _ h => by rw [ho] at h; cases h
  f := fun c X W es _ h => by rw [hf] at h; cases h
  g := fun c X W es _ h => by rw [hg] at h; cases h
  gs := fun c X W es _ h => by rw [hgs] at h; cases h
  i := fun c X W g es _ h => by rw [hi] at h; cases h
  s := fun c X W es _ h => by rw [hs] at h; cases h
  b := fun c X W es _ h => by rw [hb] at h; cases h
end
section
variable {V : Gv} {J : List Nat} {C : Gc} {G : Tab} {P : Program} {w : World} {K : PySem.W.Frag} {mg : Str → Option Value} {base : Heap} {k : Nat}

theorem tyNm_ok {n : String} {x : Str} (h : tyNm n = some x) : bootBuiltins x = some (.type n) := by
  unfold tyNm at h
  split at h <;> first | (cases h; decide +kernel) | cases h

theorem snd_nm (i : Nat) : Snd V J C G P w K mg base k (.nm i) := by
  refine .ofE rfl rfl rfl (fun c X W e q h => ?_) (fun _ _ => rfl) (fun _ _ => rfl) (fun _ _ => rfl) (fun _ _ => rfl) (fun _ _ => rfl) (fun _ _ _ => rfl) (fun _ _ => rfl) (fun _ _ => rfl)
  simp only [ck] at h
  split at h
  · rename_i x p
    try simp only [Bool.and_eq_true, beq_iff_eq] at h
    exact ⟨ee_nm (by rw [q.N]; exact h.1.1) (by rw [q.sc]; exact visB_ok h.1.2) (plainN_ok h.2).1 (plainN_ok h.2).2.1, rfl⟩
  · cases h

theorem snd_int (i : Int) : Snd V J C G P w K mg base k (.int i) := by
  refine .ofE rfl rfl rfl (fun c X W e q h => ?_) (fun _ _ => rfl) (fun _ _ => rfl) (fun _ _ => rfl) (fun _ _ => rfl) (fun _ _ => rfl) (fun _ _ _ => rfl) (fun _ _ => rfl) (fun _ _ => rfl)
  simp only [ck] at h
  split at h
  · rename_i j p1 p2
    try simp only [Bool.and_eq_true, beq_iff_eq] at h
    exact ⟨h ▸ ee_k pe_int fun F => .int _, rfl⟩
  · cases h

theorem snd_bl (i : Bool) : Snd V J C G P w K mg base k (.bl i) := by
  refine .ofE rfl rfl rfl (fun c X W e q h => ?_) (fun _ _ => rfl) (fun _ _ => rfl) (fun _ _ => rfl) (fun _ _ => rfl) (fun _ _ => rfl) (fun _ _ _ => rfl) (fun _ _ => rfl) (fun _ _ => rfl)
  simp only [ck] at h
  split at h
  · rename_i j p1 p2
    try simp only [Bool.and_eq_true, beq_iff_eq] at h
    exact ⟨h ▸ ee_k pe_bl fun F => .bl _, rfl⟩
  · cases h

theorem snd_str (i : Str) : Snd V J C G P w K mg base k (.str i) := by
  refine .ofE rfl rfl rfl (fun c X W e q h => ?_) (fun _ _ => rfl) (fun _ _ => rfl) (fun _ _ => rfl) (fun _ _ => rfl) (fun _ _ => rfl) (fun _ _ _ => rfl) (fun _ _ => rfl) (fun _ _ => rfl)
  simp only [ck] at h
  split at h
  · rename_i j p1 p2
    try simp only [Bool.and_eq_true, beq_iff_eq] at h
    exact ⟨h ▸ ee_k pe_str fun F => .str _, rfl⟩
  · cases h

theorem snd_non  : Snd V J C G P w K mg base k (.non) := by
  refine .ofE rfl rfl rfl (fun c X W e q h => ?_) (fun _ _ => rfl) (fun _ _ => rfl) (fun _ _ => rfl) (fun _ _ => rfl) (fun _ _ => rfl) (fun _ _ _ => rfl) (fun _ _ => rfl) (fun _ _ => rfl)
  simp only [ck] at h
  split at h
  · try simp only [Bool.and_eq_true, beq_iff_eq] at h
    exact ⟨ee_k pe_non fun F => .non, rfl⟩
  · cases h

theorem snd_gint (M : Md V C G P w K mg base k) (y : Str) (i : Int) : Snd V J C G P w K mg base k (.gint y i) := by
  refine .ofE rfl rfl rfl (fun c X W e q h => ?_) (fun _ _ => rfl) (fun _ _ => rfl) (fun _ _ => rfl) (fun _ _ => rfl) (fun _ _ => rfl) (fun _ _ _ => rfl) (fun _ _ => rfl) (fun _ _ => rfl)
  simp only [ck] at h
  split at h
  · rename_i x p
    try simp only [Bool.and_eq_true, beq_iff_eq] at h
    exact ⟨(by obtain ⟨t, ht⟩ := M.nums x i h.2; exact ee_k (pe_glob (v := .int i) (gl_ok q h.1.2).1 (by rw [q.mg]; exact ht) ⟨t, rfl⟩ (gl_ok q h.1.2).2.1) fun F => .int _), rfl⟩
  · cases h

theorem snd_tyN (M : Md V C G P w K mg base k) (n : String) : Snd V J C G P w K mg base k (.tyN n) := by
  refine .ofE rfl rfl rfl (fun c X W e q h => ?_) (fun _ _ => rfl) (fun _ _ => rfl) (fun _ _ => rfl) (fun _ _ => rfl) (fun _ _ => rfl) (fun _ _ _ => rfl) (fun _ _ => rfl) (fun _ _ => rfl)
  simp only [ck] at h
  split at h
  · rename_i x p
    try simp only [Bool.and_eq_true, beq_iff_eq] at h
    exact ⟨(by obtain ⟨a, b, d, z⟩ := abs_ok' M q h.2; exact ee_k (pe_bltn (v := .ty n) a z (tyNm_ok h.1) rfl d b) fun F => .ty _), rfl⟩
  · cases h

theorem snd_gcls (M : Md V C G P w K mg base k) (n : Nat) : Snd V J C G P w K mg base k (.gcls n) := by
  refine .ofE rfl rfl rfl (fun c X W e q h => ?_) (fun _ _ => rfl) (fun _ _ => rfl) (fun _ _ => rfl) (fun _ _ => rfl) (fun _ _ => rfl) (fun _ _ _ => rfl) (fun _ _ => rfl) (fun _ _ => rfl)
  simp only [ck] at h
  split at h
  · rename_i x p
    try simp only [Bool.and_eq_true, beq_iff_eq] at h
    exact ⟨(by obtain ⟨a, b, d⟩ := gl_ok q h.2; exact ee_k (pe_glob (v := .ref (G.cls n)) a (by rw [q.mg]; exact (M.clss n x h.1).1) rfl b) fun F => .cls _), rfl⟩
  · cases h

theorem snd_bin (op : Operator) (a b : T) (ha : Snd V J C G P w K mg base k a) (hb : Snd V J C G P w K mg base k b) : Snd V J C G P w K mg base k (.bin op a b) := by
  refine .ofE rfl rfl rfl (fun c X W e q h => ?_) (fun _ _ => rfl) (fun _ _ => rfl) (fun _ _ => rfl) (fun _ _ => rfl) (fun _ _ => rfl) (fun _ _ _ => rfl) (fun _ _ => rfl) (fun _ _ => rfl)
  simp only [ck] at h
  split at h
  · rename_i x o y p
    try simp only [Bool.and_eq_true, beq_iff_eq] at h
    exact ⟨(by obtain ⟨⟨⟨h1, h2⟩, h3⟩, h4⟩ := h; subst h1; exact ee_bin _ h2 (ha.e _ _ _ _ q h3) (hb.e _ _ _ _ q h4)), rfl⟩
  · cases h

theorem snd_neg (a : T) (ha : Snd V J C G P w K mg base k a) : Snd V J C G P w K mg base k (.neg a) := by
  refine .ofE rfl rfl rfl (fun c X W e q h => ?_) (fun _ _ => rfl) (fun _ _ => rfl) (fun _ _ => rfl) (fun _ _ => rfl) (fun _ _ => rfl) (fun _ _ _ => rfl) (fun _ _ => rfl) (fun _ _ => rfl)
  simp only [ck] at h
  split at h
  · rename_i x p
    try simp only [Bool.and_eq_true, beq_iff_eq] at h
    exact ⟨ee_neg (ha.e _ _ _ _ q h), rfl⟩
  · cases h

theorem snd_tup (a : T) (ha : Snd V J C G P w K mg base k a) : Snd V J C G P w K mg base k (.tup a) := by
  refine .ofE rfl rfl rfl (fun c X W e q h => ?_) (fun _ _ => rfl) (fun _ _ => rfl) (fun _ _ => rfl) (fun _ _ => rfl) (fun _ _ => rfl) (fun _ _ _ => rfl) (fun _ _ => rfl) (fun _ _ => rfl)
  simp only [ck] at h
  split at h
  · rename_i xs x1 p
    try simp only [Bool.and_eq_true, beq_iff_eq] at h
    exact ⟨ee_tup (ha.a _ _ _ _ q h).1, rfl⟩
  · cases h

theorem snd_lst (a : T) (ha : Snd V J C G P w K mg base k a) : Snd V J C G P w K mg base k (.lst a) := by
  refine .ofE rfl rfl rfl (fun c X W e q h => ?_) (fun _ _ => rfl) (fun _ _ => rfl) (fun _ _ => rfl) (fun _ _ => rfl) (fun _ _ => rfl) (fun _ _ _ => rfl) (fun _ _ => rfl) (fun _ _ => rfl)
  simp only [ck] at h
  split at h
  · rename_i xs p
    try simp only [Bool.and_eq_true, beq_iff_eq] at h
    exact ⟨ee_lst (ha.a _ _ _ _ q h).1, rfl⟩
  · cases h

theorem snd_dnew  : Snd V J C G P w K mg base k (.dnew) := by
  refine .ofE rfl rfl rfl (fun c X W e q h => ?_) (fun _ _ => rfl) (fun _ _ => rfl) (fun _ _ => rfl) (fun _ _ => rfl) (fun _ _ => rfl) (fun _ _ _ => rfl) (fun _ _ => rfl) (fun _ _ => rfl)
  simp only [ck] at h
  split at h
  · try simp only [Bool.and_eq_true, beq_iff_eq] at h
    exact ⟨ee_newd, rfl⟩
  · cases h

theorem snd_ix (a b : T) (ha : Snd V J C G P w K mg base k a) (hb : Snd V J C G P w K mg base k b) : Snd V J C G P w K mg base k (.ix a b) := by
  refine .ofE rfl rfl rfl (fun c X W e q h => ?_) (fun _ _ => rfl) (fun _ _ => rfl) (fun _ _ => rfl) (fun _ _ => rfl) (fun _ _ => rfl) (fun _ _ _ => rfl) (fun _ _ => rfl) (fun _ _ => rfl)
  simp only [ck] at h
  split at h
  · rename_i x y p
    try simp only [Bool.and_eq_true, beq_iff_eq] at h
    exact ⟨ee_ix (ha.e _ _ _ _ q h.1.1) (hb.e _ _ _ _ q h.1.2) h.2, rfl⟩
  · cases h

theorem snd_dget (a b : T) (ha : Snd V J C G P w K mg base k a) (hb : Snd V J C G P w K mg base k b) : Snd V J C G P w K mg base k (.dget a b) := by
  refine .ofE rfl rfl rfl (fun c X W e q h => ?_) (fun _ _ => rfl) (fun _ _ => rfl) (fun _ _ => rfl) (fun _ _ => rfl) (fun _ _ => rfl) (fun _ _ _ => rfl) (fun _ _ => rfl) (fun _ _ => rfl)
  simp only [ck] at h
  split at h
  · rename_i x y p
    try simp only [Bool.and_eq_true, beq_iff_eq] at h
    exact ⟨ee_dget (by have := q.hu; omega) (ha.e _ _ _ _ q h.1.1) (hb.e _ _ _ _ q h.1.2) h.2, rfl⟩
  · cases h

theorem snd_sl (a l u : T) (ha : Snd V J C G P w K mg base k a) (hl : Snd V J C G P w K mg base k l) (hu : Snd V J C G P w K mg base k u) : Snd V J C G P w K mg base k (.sl a l u) := by
  refine .ofE rfl rfl rfl (fun c X W e q h => ?_) (fun _ _ => rfl) (fun _ _ => rfl) (fun _ _ => rfl) (fun _ _ => rfl) (fun _ _ => rfl) (fun _ _ _ => rfl) (fun _ _ => rfl) (fun _ _ => rfl)
  simp only [ck] at h
  split at h
  · rename_i x l1 h1 p2 p
    try simp only [Bool.and_eq_true, beq_iff_eq] at h
    exact ⟨ee_slice (ha.e _ _ _ _ q h.1.1) (hl.o _ _ _ _ q h.1.2) (hu.o _ _ _ _ q h.2), rfl⟩
  · cases h

theorem snd_dget2 (o a b : T) (ho : Snd V J C G P w K mg base k o) (ha : Snd V J C G P w K mg base k a) (hb : Snd V J C G P w K mg base k b) : Snd V J C G P w K mg base k (.dget2 o a b) := by
  refine .ofE rfl rfl rfl (fun c X W e q h => ?_) (fun _ _ => rfl) (fun _ _ => rfl) (fun _ _ => rfl) (fun _ _ => rfl) (fun _ _ => rfl) (fun _ _ _ => rfl) (fun _ _ => rfl) (fun _ _ => rfl)
  simp only [ck] at h
  split at h
  · rename_i z nm ap x y cp
    try simp only [Bool.and_eq_true, beq_iff_eq] at h
    exact ⟨ee_dget2 h.1.1.1.1.1.1.1 (by have := q.hu; omega) (ho.e _ _ _ _ q h.1.1.1.1.1.1.2) (ha.e _ _ _ _ q h.1.1.1.1.1.2) (hb.e _ _ _ _ q h.1.1.1.1.2) h.1.1.1.2 h.1.1.2 h.1.2 (by simpa using h.2), rfl⟩
  · cases h

theorem pr_ok {c : Cc} {X : Cx} {W : WX} (f : Pr) (q : Ctx V J C G P w K mg base k c X W) (hc : (c.calm || f.hotOk) = true) :
    ∃ r, RulOk X.K G r (f.sem V.sub) ∧ ((∃ id, CallR X (.builtin id) r ∧ bootBuiltins f.nm = some (.builtin id)) ∨ ∃ T, CallR X (.type T) r ∧ bootBuiltins f.nm = some (.type T)) := by
  cases f with
  | len => exact ⟨_, len_ok, .inl ⟨_, call_lenM, by decide +kernel⟩⟩
  | isi => exact ⟨_, isi_ok q.exn, .inl ⟨_, call_isM, by decide +kernel⟩⟩
  | int => exact ⟨_, int_ok, .inr ⟨_, call_int1, by decide +kernel⟩⟩
  | abs => exact ⟨_, abs_ok, .inl ⟨_, call_abs, by decide +kernel⟩⟩
  | max2 => exact ⟨_, max2_ok, .inl ⟨_, call_max2 (q.calm (by simpa [Pr.hotOk] using hc)), by decide +kernel⟩⟩
  | min2 => exact ⟨_, min2_ok, .inl ⟨_, call_min2 (q.calm (by simpa [Pr.hotOk] using hc)), by decide +kernel⟩⟩
  | tuple => exact ⟨_, tuple_ok, .inr ⟨_, call_tuple_of, by decide +kernel⟩⟩
  | list => exact ⟨_, list_ok, .inr ⟨_, call_list_of, by decide +kernel⟩⟩
  | sum => exact ⟨_, sum_ok, .inl ⟨_, cr_sum (q.calm (by simpa [Pr.hotOk] using hc)), by decide +kernel⟩⟩
  | all => exact ⟨_, all_ok, .inl ⟨_, cr_all (q.calm (by simpa [Pr.hotOk] using hc)), by decide +kernel⟩⟩
  | any => exact ⟨_, any_ok, .inl ⟨_, cr_any (q.calm (by simpa [Pr.hotOk] using hc)), by decide +kernel⟩⟩
  | sorted => exact ⟨_, sorted_ok (q.calm (by simpa [Pr.hotOk] using hc)) q.hu, .inl ⟨_, callDir, by decide +kernel⟩⟩
  | repr => exact ⟨_, repr_ok (q.room (by simpa [Pr.hotOk] using hc)).gd q.hu, .inl ⟨_, callDir, by decide +kernel⟩⟩
  | mm mx => cases mx with
    | true => exact ⟨_, mm_ok (q.calm (by simpa [Pr.hotOk] using hc)) q.hu true, .inl ⟨_, callDir, by decide +kernel⟩⟩
    | false => exact ⟨_, mm_ok (q.calm (by simpa [Pr.hotOk] using hc)) q.hu false, .inl ⟨_, callDir, by decide +kernel⟩⟩
  | isiT => exact ⟨_, isiT_ok, .inl ⟨_, callDir, by decide +kernel⟩⟩

theorem snd_sitems (M : Md V C G P w K mg base k) (a : T) (ha : Snd V J C G P w K mg base k a) : Snd V J C G P w K mg base k (.sitems a) := by
  refine .ofE rfl rfl rfl (fun c X W e q h => ?_) (fun _ _ => rfl) (fun _ _ => rfl) (fun _ _ => rfl) (fun _ _ => rfl) (fun _ _ => rfl) (fun _ _ _ => rfl) (fun _ _ => rfl) (fun _ _ => rfl)
  simp only [ck] at h
  split at h
  · rename_i x p1 z nm ap cp p4
    try simp only [Bool.and_eq_true, beq_iff_eq] at h
    exact ⟨(by
      obtain ⟨⟨⟨⟨⟨⟨h1, h2⟩, h3⟩, h4⟩, h5⟩, h6⟩, h7⟩ := h
      subst h2; subst h3
      obtain ⟨g1, _, _, g4⟩ := abs_ok' M q h4
      exact ee_sortItems (q.calm h1) q.hu g1 g4 (ha.e _ _ _ _ q h5) (attrBase_arg h6 _ _ _) (by rw [h7]; simp)), rfl⟩
  · cases h

theorem snd_sortSet (M : Md V C G P w K mg base k) (a : T) (ha : Snd V J C G P w K mg base k a) : Snd V J C G P w K mg base k (.sortSet a) := by
  refine .ofE rfl rfl rfl (fun c X W e q h => ?_) (fun _ _ => rfl) (fun _ _ => rfl) (fun _ _ => rfl) (fun _ _ => rfl) (fun _ _ => rfl) (fun _ _ _ => rfl) (fun _ _ => rfl) (fun _ _ => rfl)
  simp only [ck] at h
  split at h
  · rename_i x p1 y p2 z p3 p4
    try simp only [Bool.and_eq_true, beq_iff_eq] at h
    exact ⟨(by obtain ⟨⟨⟨⟨⟨⟨h1, h2⟩, h3⟩, h4⟩, h5⟩, h6⟩, h7⟩ := h; subst h2; subst h3; obtain ⟨g1, _, _, g4⟩ := abs_ok' M q h4; obtain ⟨g1', _, _, g4'⟩ := abs_ok' M q h5; exact ee_sortedSet (q.calm h1) q.hu g1 g4 g1' g4' (ha.e _ _ _ _ q h6) h7), rfl⟩
  · cases h

theorem snd_lenSet (M : Md V C G P w K mg base k) (a : T) (ha : Snd V J C G P w K mg base k a) : Snd V J C G P w K mg base k (.lenSet a) := by
  refine .ofE rfl rfl rfl (fun c X W e q h => ?_) (fun _ _ => rfl) (fun _ _ => rfl) (fun _ _ => rfl) (fun _ _ => rfl) (fun _ _ => rfl) (fun _ _ _ => rfl) (fun _ _ => rfl) (fun _ _ => rfl)
  simp only [ck] at h
  split at h
  · rename_i x p1 y p2 z p3 p4
    try simp only [Bool.and_eq_true, beq_iff_eq] at h
    exact ⟨(by obtain ⟨⟨⟨⟨⟨⟨h1, h2⟩, h3⟩, h4⟩, h5⟩, h6⟩, h7⟩ := h; subst h2; subst h3; obtain ⟨g1, _, _, g4⟩ := abs_ok' M q h4; obtain ⟨g1', _, _, g4'⟩ := abs_ok' M q h5; exact ee_lenSet (q.calm h1) q.hu g1 g4 g1' g4' (ha.e _ _ _ _ q h6) h7), rfl⟩
  · cases h

theorem snd_slp (a l u t : T) (ha : Snd V J C G P w K mg base k a) (hl : Snd V J C G P w K mg base k l) (hu : Snd V J C G P w K mg base k u) (ht : Snd V J C G P w K mg base k t) : Snd V J C G P w K mg base k (.slp a l u t) := by
  refine .ofE rfl rfl rfl (fun c X W e q h => ?_) (fun _ _ => rfl) (fun _ _ => rfl) (fun _ _ => rfl) (fun _ _ => rfl) (fun _ _ => rfl) (fun _ _ _ => rfl) (fun _ _ => rfl) (fun _ _ => rfl)
  simp only [ck] at h
  split at h
  · rename_i x l1 h1 t1 p2 p
    try simp only [Bool.and_eq_true, beq_iff_eq] at h
    exact ⟨ee_step (ha.e _ _ _ _ q h.1.1.1) (hl.o _ _ _ _ q h.1.1.2) (hu.o _ _ _ _ q h.1.2) (ht.e _ _ _ _ q h.2), rfl⟩
  · cases h

theorem snd_mmd (M : Md V C G P w K mg base k) (mx : Bool) (kd : Option Int) (a : T) (ha : Snd V J C G P w K mg base k a) : Snd V J C G P w K mg base k (.mmd mx kd a) := by
  refine .ofE rfl rfl rfl (fun c X W e q h => ?_) (fun _ _ => rfl) (fun _ _ => rfl) (fun _ _ => rfl) (fun _ _ => rfl) (fun _ _ => rfl) (fun _ _ _ => rfl) (fun _ _ => rfl) (fun _ _ => rfl)
  simp only [ck] at h
  split at h
  · rename_i x p1 z d kc kp p
    try simp only [Bool.and_eq_true, beq_iff_eq] at h
    exact ⟨(by
      obtain ⟨⟨⟨⟨⟨⟨h1, h2⟩, h3⟩, h4⟩, h5⟩, h6⟩, h7⟩ := h
      subst h3
      obtain ⟨g1, g2, g3, g4⟩ := abs_ok' M q h4
      have hv : bootBuiltins x = some (.builtin (mmN mx)) := by rw [h2]; cases mx <;> decide +kernel
      cases kd with
      | none =>
        cases kc <;> first | (simp [isK] at h7; done) | skip
        rename_i c1 c2 c3
        cases c1 <;> first | (simp [isK] at h7; done) | skip
        exact ee_mmd (kv := .non) (q.calm h1) q.hu g1 g4 hv g3 g2 (ha.e _ _ _ _ q h5) h6 pe_non fun F => .non
      | some i =>
        cases kc <;> first | (simp [isK] at h7; done) | skip
        rename_i c1 c2 c3
        cases c1 <;> first | (simp [isK] at h7; done) | skip
        rename_i j
        have : i = j := by simpa [isK] using h7
        subst this
        exact ee_mmd (kv := .int i) (q.calm h1) q.hu g1 g4 hv g3 g2 (ha.e _ _ _ _ q h5) h6 pe_int fun F => .int i), rfl⟩
  · cases h

theorem snd_prim (M : Md V C G P w K mg base k) (f : Pr) (a : T) (ha : Snd V J C G P w K mg base k a) : Snd V J C G P w K mg base k (.prim f a) := by
  refine .ofE rfl rfl rfl (fun c X W e q h => ?_) (fun _ _ => rfl) (fun _ _ => rfl) (fun _ _ => rfl) (fun _ _ => rfl) (fun _ _ => rfl) (fun _ _ _ => rfl) (fun _ _ => rfl) (fun _ _ => rfl)
  simp only [ck] at h
  split at h
  · rename_i x p y r p2
    try simp only [Bool.and_eq_true, beq_iff_eq] at h
    exact ⟨(by
      obtain ⟨⟨⟨h1, h2⟩, h3⟩, h4⟩ := h
      obtain ⟨g1, g2, g3, g4⟩ := abs_ok' M q h2
      obtain ⟨r, ok, ru⟩ := pr_ok f q h4
      rw [h1] at ru
      rcases ru with ⟨id, cr, hv⟩ | ⟨T, cr, hv⟩
      · exact ee_callB cr ok g1 g4 hv (ha.a _ _ _ _ q h3).1 (ha.a _ _ _ _ q h3).2 g3 g2
      · exact ee_callTy cr ok g1 g4 hv (ha.a _ _ _ _ q h3).1 (ha.a _ _ _ _ q h3).2 g3 g2), rfl⟩
  · cases h

theorem subs_call {M : Model} {A : Around} {E : Value → Shared → Prop} {s : Shared} {f : Expr} (h : isSubs f = true) {args : List Expr} {pos : Pos} {env : PySem.Env} {Q : Value → Shared → Prop}
    (q : wpAny M A (eval f env) (fun v s1 => wpAny M A (callWith pos v [] (backTo pos (starEach args env)) (backToKw pos (keywordEach [] env))) Q E s1) E s) : wpAny M A (eval (.Call f args [] pos) env) Q E s := by
  cases f <;> first | exact wpAny_Call_Name_kw q | exact wpAny_bind q | cases h
theorem ee_callX {X : Cx} {W : WX} {func e : Expr} {es : List Expr} {pos : Pos} {ff : SemE} {ga : SemA} {ns : List Nat} {arN : Nat → Nat} {Jf : Nat → List Nat} {sem : Nat → SemF} (hsub : isSubs func = true) (hf : EE X G W func ff)
    (hd : ∀ i, ns.contains i = true → ∃ fd ps, FnG X.prog X.w X.K X.mg X.base (L2.CX X.prog X.w) k (G.fn i) fd ps (spF X.K G (arN i) (sem i)) ∧ (∀ as, as.length ≠ arN i → sem i as = .bad) ∧ PySem.W.keepIn X.K (.ref (G.fn i)) = true ∧ Binds X.K fd ps [])
    (hr : RoomG k X.A) (tk : Takes X W) (ha : EA X G W (e :: es) ga) (hs : (e :: es).all starless = true) : EE X G W (.Call func (e :: es) [] pos) (callXS ns Jf sem ff ga) := by
  obtain ⟨tf, pf, qf⟩ := hf.ex
  obtain ⟨t, pa, qa⟩ := ha.ex
  simp only [List.all_cons, Bool.and_eq_true] at hs
  refine ⟨fun σ H Q => tf σ H fun v H1 => ∃ i, ns.contains i = true ∧ v = .ref (G.fn i) ∧ t σ H1 fun vs H2 => spF X.K G (arN i) (sem i) vs H2 Q (fun c d H' => W c d σ H'), ⟨fun pins s σ H Q I h => ?_⟩, fun σ H ρ F fp Q S h => ?_⟩
  · refine subs_call hsub (thn (pf.run pins s σ H _ I h) fun u s1 ⟨v, H1, I1, r1, i, hi, ev, q1⟩ => ?_)
    subst ev
    cases r1
    obtain ⟨fd, ps, F, har, kp, b⟩ := hd i hi
    refine PySem.W.callWith_K (h₀ := X.base) I.ok.mod.kin kp (thn (pa.run pos pins s1 σ _ _ I1 q1) fun us s2 ⟨vs, H2, I2, r, q⟩ => ⟨I2.kIn, ?_⟩) (starEach_c hs.1 _ _) (starless_any hs.2)
    exact run_fnG F hr b (passAt tk σ) I2 r q
  · refine qf σ H ρ F fp _ S (Run.bind h fun u ρ1 v F1 fp1 H1 zq e1 S1 r1 h1 => ?_)
    split at h1
    · rename_i i
      split at h1
      · rename_i hi
        obtain ⟨fd, ps, F, har, kp, b⟩ := hd i hi
        have r : IsD X.K G F1 v (.fn i) := r1.1
        cases r
        exact ⟨i, hi, rfl, qa σ H1 ρ1 F1 fp1 _ S1 (Run.bind h1 fun us ρ2 vs F2 fp2 H2 zq2 e2 S2 r2 h2 => run_call (fun _ _ _ => rfl) har S2 r2 h2)⟩
      · exact h1.elim
    · exact h1.elim

theorem snd_gfn (M : Md V C G P w K mg base k) (f : Nat) : Snd V J C G P w K mg base k (.gfn f) := by
  refine .ofE rfl rfl rfl (fun c X W e q h => ?_) (fun _ _ => rfl) (fun _ _ => rfl) (fun _ _ => rfl) (fun _ _ => rfl) (fun _ _ => rfl) (fun _ _ _ => rfl) (fun _ _ => rfl) (fun _ _ => rfl)
  simp only [ck] at h
  split at h
  · rename_i x p
    try simp only [Bool.and_eq_true, beq_iff_eq] at h
    exact ⟨(by
      obtain ⟨h1, h2⟩ := h
      split at h1
      · rename_i n j e1
        have h1 := eq_of_beq h1
        subst h1
        obtain ⟨g1, g2, g3⟩ := gl_ok q h2
        obtain ⟨fa, fd, ps, F, ar, m, kp, b, hG⟩ := M.fns f _ j e1
        exact ee_k (pe_glob (v := .ref (G.fn f)) g1 (by rw [q.mg, hG]; exact m) rfl g2) fun F => .fn f
      · cases h1), rfl⟩
  · cases h

theorem snd_callX (M : Md V C G P w K mg base k) (ns : List Nat) (a b : T) (ha : Snd V J C G P w K mg base k a) (hb : Snd V J C G P w K mg base k b) : Snd V J C G P w K mg base k (.callX ns a b) := by
  refine .ofE rfl rfl rfl (fun c X W e q h => ?_) (fun _ _ => rfl) (fun _ _ => rfl) (fun _ _ => rfl) (fun _ _ => rfl) (fun _ _ => rfl) (fun _ _ _ => rfl) (fun _ _ => rfl) (fun _ _ => rfl)
  simp only [ck] at h
  split at h
  · rename_i x y r p2
    try simp only [Bool.and_eq_true, beq_iff_eq] at h
    exact ⟨(by
      obtain ⟨⟨⟨⟨h0, h1⟩, h2⟩, h3⟩, h4⟩ := h
      refine ee_callX (k := k) (arN := fun i => ((C.fns.lookup i).map (·.2)).getD 0) h1 (ha.e _ _ _ _ q h3) (fun i hi => ?_) (q.room h2) (q.takes h2) (hb.a _ _ _ _ q h4).1 (hb.a _ _ _ _ q h4).2
      have hs := List.all_eq_true.mp h0 i (by simpa using hi)
      obtain ⟨⟨n, j⟩, hl⟩ := Option.isSome_iff_exists.mp hs
      obtain ⟨fa, fd, ps, F, ar, m, kp, b, hG⟩ := M.fns i n j hl
      subst hG
      rw [← q.prog, ← q.w, ← q.K, ← q.mg, ← q.base] at F
      have e : ((C.fns.lookup i).map (·.2)).getD 0 = j := by rw [hl]; rfl
      refine ⟨fd, ps, ?_⟩
      rw [e, q.K]
      rw [q.K] at F
      exact ⟨F, ar, kp, b⟩), rfl⟩
  · cases h

theorem snd_callB (M : Md V C G P w K mg base k) (f : Nat) (a : T) (ha : Snd V J C G P w K mg base k a) : Snd V J C G P w K mg base k (.callB f a) := by
  refine .ofE rfl rfl rfl (fun c X W e q h => ?_) (fun _ _ => rfl) (fun _ _ => rfl) (fun _ _ => rfl) (fun _ _ => rfl) (fun _ _ => rfl) (fun _ _ _ => rfl) (fun _ _ => rfl) (fun _ _ => rfl)
  simp only [ck] at h
  split at h
  · rename_i x p y r p2
    try simp only [Bool.and_eq_true, beq_iff_eq] at h
    exact ⟨(by
      split at h
      · rename_i n j e1
        simp only [Bool.and_eq_true, beq_iff_eq] at h
        obtain ⟨⟨⟨h1, h2⟩, h3⟩, h4⟩ := h
        subst h1
        obtain ⟨g1, g2, g3⟩ := gl_ok q h2
        obtain ⟨fa, fd, ps, F, ar, m, kp, b, _⟩ := M.fns f _ j e1
        rw [← q.prog, ← q.w, ← q.K, ← q.mg, ← q.base] at F
        exact ee_callLent F ar (q.room h4) g1 (by rw [q.mg]; exact m) (by rw [q.K]; exact kp) (by rw [q.K]; exact b) (q.takes h4) (ha.a _ _ _ _ q h3).1 (ha.a _ _ _ _ q h3).2 g2
      · cases h), rfl⟩
  · cases h

theorem snd_call (M : Md V C G P w K mg base k) (f : Nat) (a : T) (ha : Snd V J C G P w K mg base k a) : Snd V J C G P w K mg base k (.call f a) := by
  refine .ofE rfl rfl rfl (fun c X W e q h => ?_) (fun _ _ => rfl) (fun _ _ => rfl) (fun _ _ => rfl) (fun _ _ => rfl) (fun _ _ => rfl) (fun _ _ _ => rfl) (fun _ _ => rfl) (fun _ _ => rfl)
  simp only [ck] at h
  split at h
  · rename_i x p y r p2
    try simp only [Bool.and_eq_true, beq_iff_eq] at h
    exact ⟨(by
      split at h
      · rename_i n j e1
        simp only [Bool.and_eq_true, beq_iff_eq] at h
        obtain ⟨⟨⟨h1, h2⟩, h3⟩, h4⟩ := h
        subst h1
        obtain ⟨g1, g2, g3⟩ := gl_ok q h2
        obtain ⟨fa, fd, ps, F, ar, m, kp, b, _⟩ := M.fns f _ j e1
        rw [← q.prog, ← q.w, ← q.K, ← q.mg, ← q.base] at F
        exact ee_call F ar (q.room h4) g1 (by rw [q.mg]; exact m) (by rw [q.K]; exact kp) (by rw [q.K]; exact b) (q.takes h4) (ha.a _ _ _ _ q h3).1 (ha.a _ _ _ _ q h3).2 g2
      · cases h), rfl⟩
  · cases h

theorem mt_ok (m : Mt) (X : Cx) : ∃ r id, MethOk X.K G r m.sem ∧ MtR X id r ∧ PlainAttrs m.T ∧ Slot m.T m.nm id ∧ typeOf (.builtin id) = pure (.type "method_descriptor") := by
  cases m with
  | count => exact ⟨_, _, count_ok, mt_countF, PySem.F.plainAttrs_list, PySem.F.slot_list_count, PySem.F.type_list_count⟩
  | index => exact ⟨_, _, index_ok, mt_index, PySem.F.plainAttrs_list, PySem.F.slot_list_index, PySem.F.type_list_index⟩
theorem mu_ok (m : Mu) (X : Cx) : ∃ r id, MutOk X.K G (if m.bare then (fun v vs H Q => r v [] H Q) else r) m.sem ∧ MtR X id r ∧ PlainAttrs m.T ∧ Slot m.T m.nm id ∧ typeOf (.builtin id) = pure (.type "method_descriptor") := by
  cases m with
  | append => exact ⟨_, _, append_ok, mt_append, PySem.F.plainAttrs_list, PySem.F.slot_list_append, PySem.F.type_list_append⟩
  | extend => exact ⟨_, _, extend_ok, mt_extend, PySem.F.plainAttrs_list, PySem.F.slot_list_extend, PySem.F.type_list_extend⟩
  | reverse => exact ⟨_, _, reverse_ok, mt_reverse, PySem.F.plainAttrs_list, PySem.F.slot_list_reverse, PySem.F.type_list_reverse⟩
  | pop => exact ⟨_, _, pop_ok, mt_pop, PySem.F.plainAttrs_list, PySem.F.slot_list_pop, PySem.F.type_list_pop⟩
  | popAt => exact ⟨_, _, popAt_ok, mt_popAt, PySem.F.plainAttrs_list, PySem.F.slot_list_pop, PySem.F.type_list_pop⟩

theorem snd_meth (m : Mt) (o a : T) (ho : Snd V J C G P w K mg base k o) (ha : Snd V J C G P w K mg base k a) : Snd V J C G P w K mg base k (.meth m o a) := by
  refine .ofE rfl rfl rfl (fun c X W e q h => ?_) (fun _ _ => rfl) (fun _ _ => rfl) (fun _ _ => rfl) (fun _ _ => rfl) (fun _ _ => rfl) (fun _ _ _ => rfl) (fun _ _ => rfl) (fun _ _ => rfl)
  simp only [ck] at h
  split at h
  · rename_i z nm ap y r cp
    try simp only [Bool.and_eq_true, beq_iff_eq] at h
    exact ⟨(by
      simp only [decide_eq_true_eq] at h
      obtain ⟨⟨⟨⟨⟨h1, h2⟩, h3⟩, h4⟩, h5⟩, h6⟩ := h
      obtain ⟨r, id, ok, mr, pl, sl, ty⟩ := mt_ok (G := G) m X
      rw [h1] at sl
      exact ee_meth pl sl ty mr ok (ho.e _ _ _ _ q h2) (ha.a _ _ _ _ q h5).1 h3 (ha.a _ _ _ _ q h5).2 h6 (by simpa using h4)), rfl⟩
  · cases h

theorem snd_mut (m : Mu) (o a : T) (ho : Snd V J C G P w K mg base k o) (ha : Snd V J C G P w K mg base k a) : Snd V J C G P w K mg base k (.mut m o a) := by
  refine .ofE rfl rfl rfl (fun c X W e q h => ?_) (fun _ _ => rfl) (fun _ _ => rfl) (fun _ _ => rfl) (fun _ _ => rfl) (fun _ _ => rfl) (fun _ _ _ => rfl) (fun _ _ => rfl) (fun _ _ => rfl)
  simp only [ck] at h
  split at h
  · rename_i z nm ap xs cp
    try simp only [Bool.and_eq_true, beq_iff_eq] at h
    exact ⟨(by
      obtain ⟨⟨⟨⟨h1, h2⟩, h3⟩, h4⟩, h5⟩ := h
      obtain ⟨r, id, ok, mr, pl, sl, ty⟩ := mu_ok (G := G) m X
      rw [h1] at sl
      cases hb : m.bare with
      | true =>
        rw [hb] at h5 ok
        simp only [if_true] at h5 ok
        obtain rfl : xs = [] := by simpa using h5
        show EE X G W _ (mutS m.T m.sem (ev V J o).e (if m.bare = true then nilA else (ev V J a).a))
        rw [hb, if_pos rfl]
        exact ee_mut0 pl sl ty mr ok (ho.e _ _ _ _ q h2) h3 (by simpa using h4)
      | false =>
        rw [hb] at h5 ok
        simp only [Bool.false_eq_true, if_false] at h5 ok
        cases xs with
        | nil => simp at h5
        | cons y ys =>
          simp only [Bool.and_eq_true, decide_eq_true_eq] at h5
          show EE X G W _ (mutS m.T m.sem (ev V J o).e (if m.bare = true then nilA else (ev V J a).a))
          rw [hb, if_neg Bool.false_ne_true]
          exact ee_mut pl sl ty mr ok (ho.e _ _ _ _ q h2) (ha.a _ _ _ _ q h5.1.2).1 h3 (ha.a _ _ _ _ q h5.1.2).2 h5.2 (by simpa using h4)), rfl⟩
  · cases h

theorem et_din {X : Cx} {W : WX} {a b : Expr} {pos : Pos} {fa fb : SemE} (hu : X.A.units + 1 < cLine) (ha : EE X G W a fa) (hb : EE X G W b fb) (hs : setless b = true) : ET X G W (.Compare a [.In] [b] pos) (cmp2 (dinQ id) fa fb) := by
  obtain ⟨ta, pa, qa⟩ := ha.ex
  obtain ⟨tb, pb, qb⟩ := hb.ex
  refine ⟨_, pt_cmp (pc_din hu pa pb) (behind_c hs _), fun σ H ρ F fp Q S h => ?_⟩
  simp only [cmp2] at h
  refine two_run qa qb S h fun u w ρ' v z F' fp' H' S' r1 r2 _ h' => ?_
  simp only [app2B] at h'
  split at h'
  · rename_i x e1
    split at h'
    · rename_i y e2
      cases q : dinQ id x y with
      | none => rw [q] at h'; exact h'.elim
      | some k =>
        rw [q] at h'
        obtain ⟨p, kws, ky, rfl, rfl, hp, rfl⟩ := run_din S'.sub (fl_of S' r1 e1) (fl_of S' r2 e2) q
        exact ⟨p, _, rfl, dget_of hp ky, _, rfl, Run.now h' S' rfl⟩
    · exact h'.elim
  · exact h'.elim

theorem et_dnin {X : Cx} {W : WX} {a b : Expr} {pos : Pos} {fa fb : SemE} (hu : X.A.units + 1 < cLine) (ha : EE X G W a fa) (hb : EE X G W b fb) (hs : setless b = true) : ET X G W (.Compare a [.NotIn] [b] pos) (cmp2 (dinQ (!·)) fa fb) := by
  obtain ⟨ta, pa, qa⟩ := ha.ex
  obtain ⟨tb, pb, qb⟩ := hb.ex
  refine ⟨_, pt_cmp (pc_dnotin hu pa pb) (behind_c hs _), fun σ H ρ F fp Q S h => ?_⟩
  simp only [cmp2] at h
  refine two_run qa qb S h fun u w ρ' v z F' fp' H' S' r1 r2 _ h' => ?_
  simp only [app2B] at h'
  split at h'
  · rename_i x e1
    split at h'
    · rename_i y e2
      cases q : dinQ (!·) x y with
      | none => rw [q] at h'; exact h'.elim
      | some k =>
        rw [q] at h'
        obtain ⟨p, kws, ky, rfl, rfl, hp, rfl⟩ := run_din S'.sub (fl_of S' r1 e1) (fl_of S' r2 e2) q
        exact ⟨p, _, rfl, dget_of hp ky, _, rfl, Run.now h' S' rfl⟩
    · exact h'.elim
  · exact h'.elim

theorem snd_bad  : Snd V J C G P w K mg base k (.bad) where
  e := fun c X W e q h => ⟨fun _ _ _ => False, ⟨fun _ _ _ _ _ _ h => h.elim⟩, fun σ H ρ F fp Q S q => q⟩
  t := fun c X W e q h => et_bad
  s := fun c X W e q h => ⟨fun _ _ _ => False, ⟨fun _ _ _ _ _ _ h => h.elim⟩, fun σ H ρ F fp D S q => q⟩

theorem snd_cmp (op : CmpOp) (a b : T) (ha : Snd V J C G P w K mg base k a) (hb : Snd V J C G P w K mg base k b) : Snd V J C G P w K mg base k (.cmp op a b) where
  e := by
   intro c X W e q h
   simp only [ck] at h
   split at h
   · rename_i x o y p
     try simp only [Bool.and_eq_true, beq_iff_eq] at h
     exact (by obtain ⟨⟨⟨h1, h3⟩, h4⟩, h5⟩ := h; subst h1; obtain ⟨r, o, g⟩ := cmp_rule (G := G) q.hu op; exact ee_cmp o g (ha.e _ _ _ _ q h3) (hb.e _ _ _ _ q h4) h5)
   · cases h
  t := by
   intro c X W e q h
   simp only [ck] at h
   split at h
   · rename_i x o y p
     try simp only [Bool.and_eq_true, beq_iff_eq] at h
     exact (by obtain ⟨⟨⟨h1, h3⟩, h4⟩, h5⟩ := h; subst h1; obtain ⟨r, o, g⟩ := cmp_rule (G := G) q.hu op; exact et_cmp o g (ha.e _ _ _ _ q h3) (hb.e _ _ _ _ q h4) h5)
   · cases h

theorem snd_cmp3 (op op' : CmpOp) (a b d : T) (ha : Snd V J C G P w K mg base k a) (hb : Snd V J C G P w K mg base k b) (hd : Snd V J C G P w K mg base k d) : Snd V J C G P w K mg base k (.cmp3 op op' a b d) where
  e := by
   intro c X W e q h
   simp only [ck] at h
   split at h
   · rename_i x o o' y z p
     try simp only [Bool.and_eq_true, beq_iff_eq] at h
     exact (by obtain ⟨⟨⟨⟨⟨h1, h2⟩, h3⟩, h4⟩, h4'⟩, h5⟩ := h; subst h1; subst h2; obtain ⟨r, o, g⟩ := cmp_rule (G := G) q.hu op; obtain ⟨r', o', g'⟩ := cmp_rule (G := G) q.hu op'; exact ee_cmp3 o o' g g' (ha.e _ _ _ _ q h3) (hb.e _ _ _ _ q h4) (hd.e _ _ _ _ q h4') h5)
   · cases h
  t := by
   intro c X W e q h
   simp only [ck] at h
   split at h
   · rename_i x o o' y z p
     try simp only [Bool.and_eq_true, beq_iff_eq] at h
     exact (by obtain ⟨⟨⟨⟨⟨h1, h2⟩, h3⟩, h4⟩, h4'⟩, h5⟩ := h; subst h1; subst h2; obtain ⟨r, o, g⟩ := cmp_rule (G := G) q.hu op; obtain ⟨r', o', g'⟩ := cmp_rule (G := G) q.hu op'; exact et_cmp3 o o' g g' (ha.e _ _ _ _ q h3) (hb.e _ _ _ _ q h4) (hd.e _ _ _ _ q h4') h5)
   · cases h

theorem snd_and1 (a : T) (ha : Snd V J C G P w K mg base k a) : Snd V J C G P w K mg base k (.and1 a) where
  e := by
   intro c X W e q h
   simp only [ck] at h
   split at h
   · rename_i x p
     try simp only [Bool.and_eq_true, beq_iff_eq] at h
     exact ee_one (ha.e _ _ _ _ q h)
   · cases h
  t := by
   intro c X W e q h
   simp only [ck] at h
   split at h
   · rename_i x p
     try simp only [Bool.and_eq_true, beq_iff_eq] at h
     exact (ew_and1 (ha.t _ _ _ _ q h)).et
   · cases h
  wh := by
   intro _ c X W e q h
   simp only [ck] at h
   split at h
   · rename_i x p
     try simp only [Bool.and_eq_true, beq_iff_eq] at h
     exact ew_and1 (ha.t _ _ _ _ q h)
   · cases h

theorem snd_and2 (a b : T) (ha : Snd V J C G P w K mg base k a) (hb : Snd V J C G P w K mg base k b) : Snd V J C G P w K mg base k (.and2 a b) where
  e := by
   intro c X W e q h
   simp only [ck] at h
   split at h
   · rename_i x y r p
     try simp only [Bool.and_eq_true, beq_iff_eq] at h
     exact ee_and (ha.e _ _ _ _ q h.1.2) (hb.e _ _ _ _ q h.2)
   · cases h
  t := by
   intro c X W e q h
   simp only [ck] at h
   split at h
   · rename_i x y r p
     try simp only [Bool.and_eq_true, beq_iff_eq] at h
     exact (ew_and (ha.t _ _ _ _ q h.1.2) (hb.wh h.1.1 _ _ _ _ q h.2)).et
   · cases h
  wh := by
   intro _ c X W e q h
   simp only [ck] at h
   split at h
   · rename_i x y r p
     try simp only [Bool.and_eq_true, beq_iff_eq] at h
     exact ew_and (ha.t _ _ _ _ q h.1.2) (hb.wh h.1.1 _ _ _ _ q h.2)
   · cases h

theorem snd_or1 (a : T) (ha : Snd V J C G P w K mg base k a) : Snd V J C G P w K mg base k (.or1 a) where
  e := by
   intro c X W e q h
   simp only [ck] at h
   split at h
   · rename_i x p
     try simp only [Bool.and_eq_true, beq_iff_eq] at h
     exact ee_one (ha.e _ _ _ _ q h)
   · cases h
  t := by
   intro c X W e q h
   simp only [ck] at h
   split at h
   · rename_i x p
     try simp only [Bool.and_eq_true, beq_iff_eq] at h
     exact (ew_or1 (ha.t _ _ _ _ q h)).et
   · cases h
  wh := by
   intro _ c X W e q h
   simp only [ck] at h
   split at h
   · rename_i x p
     try simp only [Bool.and_eq_true, beq_iff_eq] at h
     exact ew_or1 (ha.t _ _ _ _ q h)
   · cases h

theorem snd_or2 (a b : T) (ha : Snd V J C G P w K mg base k a) (hb : Snd V J C G P w K mg base k b) : Snd V J C G P w K mg base k (.or2 a b) where
  e := by
   intro c X W e q h
   simp only [ck] at h
   split at h
   · rename_i x y r p
     try simp only [Bool.and_eq_true, beq_iff_eq] at h
     exact ee_or (ha.e _ _ _ _ q h.1.2) (hb.e _ _ _ _ q h.2)
   · cases h
  t := by
   intro c X W e q h
   simp only [ck] at h
   split at h
   · rename_i x y r p
     try simp only [Bool.and_eq_true, beq_iff_eq] at h
     exact (ew_or (ha.t _ _ _ _ q h.1.2) (hb.wh h.1.1 _ _ _ _ q h.2)).et
   · cases h
  wh := by
   intro _ c X W e q h
   simp only [ck] at h
   split at h
   · rename_i x y r p
     try simp only [Bool.and_eq_true, beq_iff_eq] at h
     exact ew_or (ha.t _ _ _ _ q h.1.2) (hb.wh h.1.1 _ _ _ _ q h.2)
   · cases h

theorem snd_not (a : T) (ha : Snd V J C G P w K mg base k a) : Snd V J C G P w K mg base k (.not a) where
  e := by
   intro c X W e q h
   simp only [ck] at h
   split at h
   · rename_i x p
     try simp only [Bool.and_eq_true, beq_iff_eq] at h
     exact ee_not (ha.e _ _ _ _ q h)
   · cases h
  t := by
   intro c X W e q h
   simp only [ck] at h
   split at h
   · rename_i x p
     try simp only [Bool.and_eq_true, beq_iff_eq] at h
     exact et_not (ha.t _ _ _ _ q h)
   · cases h

theorem snd_ifx (d a b : T) (hd : Snd V J C G P w K mg base k d) (ha : Snd V J C G P w K mg base k a) (hb : Snd V J C G P w K mg base k b) : Snd V J C G P w K mg base k (.ifx d a b) where
  e := by
   intro c X W e q h
   simp only [ck] at h
   split at h
   · rename_i x y z p
     try simp only [Bool.and_eq_true, beq_iff_eq] at h
     exact ee_if (hd.t _ _ _ _ q h.1.1) (ha.e _ _ _ _ q h.1.2) (hb.e _ _ _ _ q h.2)
   · cases h
  t := fun c X W e q h => et_bad

theorem snd_din (neg : Bool) (a b : T) (ha : Snd V J C G P w K mg base k a) (hb : Snd V J C G P w K mg base k b) : Snd V J C G P w K mg base k (.din neg a b) where
  e := by
   intro c X W e q h
   simp only [ck] at h
   split at h
   · rename_i x o y p
     try simp only [Bool.and_eq_true, beq_iff_eq] at h
     exact (by
      obtain ⟨⟨⟨h1, h2⟩, h3⟩, h4⟩ := h
      cases neg with
      | false => subst h1; exact ee_din (by have := q.hu; omega) (ha.e _ _ _ _ q h2) (hb.e _ _ _ _ q h3) h4
      | true => subst h1; exact ee_dnotin (by have := q.hu; omega) (ha.e _ _ _ _ q h2) (hb.e _ _ _ _ q h3) h4)
   · cases h
  t := by
   intro c X W e q h
   simp only [ck] at h
   split at h
   · rename_i x o y p
     try simp only [Bool.and_eq_true, beq_iff_eq] at h
     exact (by
      obtain ⟨⟨⟨h1, h2⟩, h3⟩, h4⟩ := h
      cases neg with
      | false => subst h1; exact et_din (by have := q.hu; omega) (ha.e _ _ _ _ q h2) (hb.e _ _ _ _ q h3) h4
      | true => subst h1; exact et_dnin (by have := q.hu; omega) (ha.e _ _ _ _ q h2) (hb.e _ _ _ _ q h3) h4)
   · cases h

theorem swp2 {a b : Expr} {x y : Str} {px py pt pt2 : Pos} {kt k2 : Nat} {env : PySem.Env} (hk : env.scope.kind = .function) (hx : env.scope.names.lookup x = some .local) (hy : env.scope.names.lookup y = some .local) (hl : (py.line == px.line) = true) (hxy : (x == y) = false)
    (sa : starless a = true) (sb : starless b = true) (hf : (foldedForSure 8 a && foldedForSure 8 b) = false) (hc : (constantsAlone 8 a && constantsAlone 8 b) = false) :
    swappedStores [.Tuple [.Name x px, .Name y py] kt pt] (.Tuple [a, b] k2 pt2) env = pure (some [x, y]) := by
  have hb : env.blockKind = .function := by unfold Env.blockKind; rw [hk]; rfl
  have hyx : (y == x) = false := by rw [beq_eq_false_iff_ne] at hxy ⊢; exact fun e => hxy e.symm
  have hl' : py.line = px.line := eq_of_beq hl
  unfold swappedStores
  simp [hb, Env.kindOf, hx, hy, hl', Expr.pos, List.eraseDups, List.eraseDupsBy, List.eraseDupsBy.loop, hxy, hyx, hf, hc]
  intro h
  rcases h with h | h
  · exfalso; revert h sa; clear hf hc; cases a <;> simp [starless]
  · exfalso; revert h sb; clear hf hc; cases b <;> simp [starless]
theorem swp3 {a b d : Expr} {x y z : Str} {px py pz pt pt2 : Pos} {kt k2 : Nat} {env : PySem.Env} (hk : env.scope.kind = .function) (hx : env.scope.names.lookup x = some .local) (hy : env.scope.names.lookup y = some .local) (hz : env.scope.names.lookup z = some .local)
    (hl : (py.line == px.line) = true) (hl2 : (pz.line == px.line) = true) (hxy : (x == y) = false) (hxz : (x == z) = false) (hyz : (y == z) = false)
    (sa : starless a = true) (sb : starless b = true) (sd : starless d = true) (hf : (foldedForSure 8 a && (foldedForSure 8 b && foldedForSure 8 d)) = false) (hc : (constantsAlone 8 a && (constantsAlone 8 b && constantsAlone 8 d)) = false) :
    swappedStores [.Tuple [.Name x px, .Name y py, .Name z pz] kt pt] (.Tuple [a, b, d] k2 pt2) env = pure (some [x, y, z]) := by
  have hb : env.blockKind = .function := by unfold Env.blockKind; rw [hk]; rfl
  have hyx : (y == x) = false := by rw [beq_eq_false_iff_ne] at hxy ⊢; exact fun e => hxy e.symm
  have hzx : (z == x) = false := by rw [beq_eq_false_iff_ne] at hxz ⊢; exact fun e => hxz e.symm
  have hzy : (z == y) = false := by rw [beq_eq_false_iff_ne] at hyz ⊢; exact fun e => hyz e.symm
  have hl' : py.line = px.line := eq_of_beq hl
  have hl2' : pz.line = px.line := eq_of_beq hl2
  unfold swappedStores
  simp [hb, Env.kindOf, hx, hy, hz, hl', hl2', Expr.pos, List.eraseDups, List.eraseDupsBy, List.eraseDupsBy.loop, hxy, hyx, hxz, hzx, hyz, hzy, hf, hc]
  intro h
  rcases h with h | h | h
  · exfalso; revert h sa; clear hf hc; cases a <;> simp [starless]
  · exfalso; revert h sb; clear hf hc; cases b <;> simp [starless]
  · exfalso; revert h sd; clear hf hc; cases d <;> simp [starless]

theorem snd_nil  : Snd V J C G P w K mg base k (.nil) where
  a := by
   intro c X W es q h
   obtain rfl : es = [] := by simpa [ck] using h
   exact ⟨ea_nil, rfl⟩
  o := by
   intro c X W es q h
   obtain rfl : es = none := by simpa [ck] using h
   exact .none
  f := by
   intro c X sc es q h
   obtain rfl : es = [] := by simpa [ck] using h
   exact .none
  gs := by
   intro c X W es q h
   obtain rfl : es = [] := by simpa [ck] using h
   exact egs_nil
  b := by
   intro c X W es q h
   obtain rfl : es = [] := by simpa [ck] using h
   exact sss_nil

theorem snd_cons (a b : T) (ha : Snd V J C G P w K mg base k a) (hb : Snd V J C G P w K mg base k b) : Snd V J C G P w K mg base k (.cons a b) where
  a := by
   intro c X W es q h
   simp only [ck] at h
   split at h
   · rename_i e es
     try simp only [Bool.and_eq_true, beq_iff_eq] at h
     exact ⟨ea_cons (ha.e _ _ _ _ q h.1.1) h.1.2 (hb.a _ _ _ _ q h.2).1, by rw [List.all_cons, h.1.2, (hb.a _ _ _ _ q h.2).2]; rfl⟩
   · cases h
  o := by
   intro c X W es q h
   simp only [ck] at h
   split at h
   · rename_i e
     try simp only [Bool.and_eq_true, beq_iff_eq] at h
     exact .some (ha.e _ _ _ _ q h)
   · cases h
  f := by
   intro c X sc es q h
   simp only [ck] at h
   split at h
   · rename_i e
     try simp only [Bool.and_eq_true, beq_iff_eq] at h
     exact .some fun s H A cl fp => ha.t _ _ _ _ (q s H A cl fp) h
   · cases h
  gs := by
   intro c X W es q h
   simp only [ck] at h
   split at h
   · rename_i e es
     try simp only [Bool.and_eq_true, beq_iff_eq] at h
     exact egs_cons (ha.g _ _ _ _ q h.1.1) h.1.2 (hb.gs _ _ _ _ q h.2)
   · cases h
  b := by
   intro c X W es q h
   simp only [ck] at h
   split at h
   · rename_i e es
     try simp only [Bool.and_eq_true, beq_iff_eq] at h
     exact sss_cons (ha.s _ _ _ _ q h.1) (hb.b _ _ _ _ q h.2)
   · cases h

theorem snd_gnm (i : Nat) : Snd V J C G P w K mg base k (.gnm i) where
  g := by
   intro c X W e q h
   simp only [ck] at h
   split at h
   · rename_i x p
     try simp only [Bool.and_eq_true, beq_iff_eq] at h
     exact eg_name (by rw [q.N]; exact q.nodup) (by rw [q.N]; exact h.1) (loc_ok q h.2).1 (loc_ok q h.2).2
   · cases h

theorem snd_gtup (a : T) (ha : Snd V J C G P w K mg base k a) : Snd V J C G P w K mg base k (.gtup a) where
  g := by
   intro c X W e q h
   simp only [ck] at h
   split at h
   · rename_i es x1 p
     try simp only [Bool.and_eq_true, beq_iff_eq] at h
     exact (by obtain ⟨⟨⟨h1, h2⟩, h3⟩, h4⟩ := h; show EG X G _ (tupG (lenT a) _) _; rw [h4]; exact eg_tup (q.calm h1) (ha.gs _ _ _ _ q h2) h3)
   · cases h

theorem snd_iseq (a : T) (ha : Snd V J C G P w K mg base k a) : Snd V J C G P w K mg base k (.iseq a) where
  i := fun c X W g e q h => ei_seq (ha.e c X W e q h)

theorem snd_irange1 (M : Md V C G P w K mg base k) (a : T) (ha : Snd V J C G P w K mg base k a) : Snd V J C G P w K mg base k (.irange1 a) where
  i := by
   intro c X W g e q h
   simp only [ck] at h
   split at h
   · rename_i x p y p2
     try simp only [Bool.and_eq_true, beq_iff_eq] at h
     exact (by obtain ⟨⟨⟨h1, h2⟩, h3⟩, h4⟩ := h; subst h1; obtain ⟨g1, g2, g3, g4⟩ := abs_ok' M q h2; exact ei_range1 g1 g4 (ea_cons (ha.e _ _ _ _ q h3) h4 ea_nil) h4)
   · cases h

theorem snd_irange2 (M : Md V C G P w K mg base k) (a b : T) (ha : Snd V J C G P w K mg base k a) (hb : Snd V J C G P w K mg base k b) : Snd V J C G P w K mg base k (.irange2 a b) where
  i := by
   intro c X W g e q h
   simp only [ck] at h
   split at h
   · rename_i x p y z p2
     try simp only [Bool.and_eq_true, beq_iff_eq] at h
     exact (by obtain ⟨⟨⟨⟨⟨h1, h2⟩, h3⟩, h4⟩, h5⟩, h6⟩ := h; subst h1; obtain ⟨g1, g2, g3, g4⟩ := abs_ok' M q h2; exact ei_range2 g1 g4 (ea_cons (ha.e _ _ _ _ q h3) h4 (ea_cons (hb.e _ _ _ _ q h5) h6 ea_nil)) h4 h6)
   · cases h

theorem snd_izip (M : Md V C G P w K mg base k) (a b : T) (ha : Snd V J C G P w K mg base k a) (hb : Snd V J C G P w K mg base k b) : Snd V J C G P w K mg base k (.izip a b) where
  i := by
   intro c X W g e q h
   simp only [ck] at h
   split at h
   · rename_i x1 x2 x3 x p y z p2
     try simp only [Bool.and_eq_true, beq_iff_eq] at h
     exact (by obtain ⟨⟨⟨⟨⟨h1, h2⟩, h3⟩, h4⟩, h5⟩, h6⟩ := h; subst h1; obtain ⟨g1, g2, g3, g4⟩ := abs_ok' M q h2; exact ei_zip g1 g4 (ea_cons (ha.e _ _ _ _ q h3) h4 (ea_cons (hb.e _ _ _ _ q h5) h6 ea_nil)) h4 h6)
   · cases h

theorem snd_ienum (M : Md V C G P w K mg base k) (a : T) (ha : Snd V J C G P w K mg base k a) : Snd V J C G P w K mg base k (.ienum a) where
  i := by
   intro c X W g e q h
   simp only [ck] at h
   split at h
   · rename_i x1 x2 x3 x p y p2
     try simp only [Bool.and_eq_true, beq_iff_eq] at h
     exact (by obtain ⟨⟨⟨h1, h2⟩, h3⟩, h4⟩ := h; subst h1; obtain ⟨g1, g2, g3, g4⟩ := abs_ok' M q h2; exact ei_enum g1 g4 (ha.e _ _ _ _ q h3) h4)
   · cases h

theorem snd_pass  : Snd V J C G P w K mg base k (.pass) where
  s := by
   intro c X W e q h
   simp only [ck] at h
   split at h
   · rename_i p
     try simp only [Bool.and_eq_true, beq_iff_eq] at h
     exact ss_pass
   · cases h

theorem snd_brk  : Snd V J C G P w K mg base k (.brk) where
  s := by
   intro c X W e q h
   simp only [ck] at h
   split at h
   · rename_i p
     try simp only [Bool.and_eq_true, beq_iff_eq] at h
     exact ss_break
   · cases h

theorem snd_cont  : Snd V J C G P w K mg base k (.cont) where
  s := by
   intro c X W e q h
   simp only [ck] at h
   split at h
   · rename_i p
     try simp only [Bool.and_eq_true, beq_iff_eq] at h
     exact ss_cont
   · cases h

theorem snd_ret (a : T) (ha : Snd V J C G P w K mg base k a) : Snd V J C G P w K mg base k (.ret a) where
  s := by
   intro c X W e q h
   simp only [ck] at h
   split at h
   · rename_i e p
     try simp only [Bool.and_eq_true, beq_iff_eq] at h
     exact ss_ret (ha.e _ _ _ _ q h)
   · cases h

theorem snd_set (i : Nat) (a : T) (ha : Snd V J C G P w K mg base k a) : Snd V J C G P w K mg base k (.set i a) where
  s := by
   intro c X W e q h
   simp only [ck] at h
   split at h
   · rename_i x p e p2
     try simp only [Bool.and_eq_true, beq_iff_eq] at h
     exact ss_set (free_ok q h.1.1.1.1) (by rw [q.N]; exact q.nodup) (by rw [q.N]; exact h.1.1.1.2) (loc_ok q h.1.1.2).1 (loc_ok q h.1.1.2).2 h.1.2 (ha.e _ _ _ _ q h.2)
   · cases h

theorem snd_asg (g a : T) (hg : Snd V J C G P w K mg base k g) (ha : Snd V J C G P w K mg base k a) : Snd V J C G P w K mg base k (.asg g a) where
  s := by
   intro c X W e q h
   simp only [ck] at h
   split at h
   · rename_i g e p
     try simp only [Bool.and_eq_true, beq_iff_eq] at h
     exact ss_asg (frees_ok q h.1.1.1.1.1) (ha.e _ _ _ _ q h.2) (hg.g _ _ _ _ q h.1.1.1.1.2) h.1.1.2 h.1.2 h.1.1.1.2
   · cases h

theorem snd_drop (a : T) (ha : Snd V J C G P w K mg base k a) : Snd V J C G P w K mg base k (.drop a) where
  s := by
   intro c X W e q h
   simp only [ck] at h
   split at h
   · rename_i e p
     try simp only [Bool.and_eq_true, beq_iff_eq] at h
     exact ss_expr h.1 (ha.e _ _ _ _ q h.2)
   · cases h

theorem snd_ite (d a b : T) (hd : Snd V J C G P w K mg base k d) (ha : Snd V J C G P w K mg base k a) (hb : Snd V J C G P w K mg base k b) : Snd V J C G P w K mg base k (.ite d a b) where
  s := by
   intro c X W e q h
   simp only [ck] at h
   split at h
   · rename_i x y z p
     try simp only [Bool.and_eq_true, beq_iff_eq] at h
     exact ss_if (hd.t _ _ _ _ q h.1.1) (ha.b _ _ _ _ q h.1.2) (hb.b _ _ _ _ q h.2)
   · cases h

theorem snd_for_ (i g b : T) (hi : Snd V J C G P w K mg base k i) (hg : Snd V J C G P w K mg base k g) (hb : Snd V J C G P w K mg base k b) : Snd V J C G P w K mg base k (.for_ i g b) where
  s := by
   intro c X W e q h
   simp only [ck] at h
   split at h
   · rename_i x y z p
     try simp only [Bool.and_eq_true, beq_iff_eq] at h
     exact ss_for (frees_ok q h.1.1.1.1.1.1) (q.own h.1.1.1.1.2) (q.calm h.1.1.1.1.1.2) (hi.i _ _ _ _ _ q h.1.1.1.2) (hg.g _ _ _ _ q h.1.1.2) (hb.b _ _ _ _ q h.1.2) h.2
   · cases h

theorem snd_while_ (d b : T) (hd : Snd V J C G P w K mg base k d) (hb : Snd V J C G P w K mg base k b) : Snd V J C G P w K mg base k (.while_ d b) where
  s := by
   intro c X W e q h
   simp only [ck] at h
   split at h
   · rename_i x y p
     try simp only [Bool.and_eq_true, beq_iff_eq] at h
     exact ss_while _ (q.own h.1.1) (hd.t _ _ _ _ q h.1.2) (hb.b _ _ _ _ q h.2)
   · cases h

theorem snd_setit (i : Nat) (o v : T) (ho : Snd V J C G P w K mg base k o) (hv : Snd V J C G P w K mg base k v) : Snd V J C G P w K mg base k (.setit i o v) where
  s := by
   intro c X W e q h
   simp only [ck] at h
   split at h
   · rename_i x p y p1 e p2
     try simp only [Bool.and_eq_true, beq_iff_eq] at h
     exact ss_setItem (by rw [q.N]; exact h.1.1.1.1.1.1.1) (by rw [q.sc]; exact visB_ok h.1.1.1.1.1.1.2) (plainN_ok h.1.1.1.1.1.2).1 (plainN_ok h.1.1.1.1.1.2).2.1 (by have := q.hu; omega) (ho.e _ _ _ _ q h.1.1.1.1.2) (hv.e _ _ _ _ q h.1.1.1.2) h.1.1.2 h.1.2 h.2
   · cases h

theorem snd_raise (M : Md V C G P w K mg base k) (i : Nat) : Snd V J C G P w K mg base k (.raise i) where
  s := by
   intro c X W e q h
   simp only [ck] at h
   split at h
   · rename_i x p p2 p3
     try simp only [Bool.and_eq_true, beq_iff_eq] at h
     exact (by
      obtain ⟨⟨⟨h1, h1'⟩, h2⟩, h3⟩ := h
      obtain ⟨g1, g2, g3⟩ := gl_ok q h3
      obtain ⟨B, ni, ii, bm, F, ex, sb, ty⟩ := M.rais i x h1' h2
      obtain ⟨c1, c2⟩ := M.clss i x h2
      exact ss_raise rfl F (by rw [q.K]; exact ex) (by rw [q.mg]; exact c1) (by rw [q.K]; exact c2) (raises_own (by rw [q.K]; exact sb) (by rw [q.K]; exact ty)) g1 g2 (q.calm h1) (q.takes h1))
   · cases h

theorem snd_par2 (i j : Nat) (a b : T) (ha : Snd V J C G P w K mg base k a) (hb : Snd V J C G P w K mg base k b) : Snd V J C G P w K mg base k (.par2 i j a b) where
  s := by
   intro c X W e q h
   simp only [ck] at h
   split at h
   · rename_i x px y py x1 p1 d e x2 p2 p3
     try simp only [Bool.and_eq_true, beq_iff_eq] at h
     exact (by
      obtain ⟨⟨⟨⟨⟨⟨⟨⟨f1, f2⟩, h1⟩, h2⟩, h3⟩, h4⟩, h5⟩, h6⟩, h7⟩ := h
      simp only [Bool.or_eq_true] at h5
      rcases h5 with h5 | h5
      case inr =>
        simp only [Bool.and_eq_true] at h5
        obtain ⟨⟨h5, s5⟩, s6⟩ := h5
        unfold swN at h5
        simp only [Bool.and_eq_true, Bool.not_eq_true'] at h5
        obtain ⟨⟨n1, n2⟩, n3⟩ := h5
        refine ss_par2c (free_ok q f1) (free_ok q f2) (q.calm h1) (by rw [q.N]; exact q.nodup) (by rw [q.N]; exact h2) (by rw [q.N]; exact h3) (loc_ok q n2).1 (loc_ok q n2).2 (loc_ok q n3).1 (loc_ok q n3).2 (ea_cons (ha.e _ _ _ _ q h6) s5 (ea_cons (hb.e _ _ _ _ q h7) s6 ea_nil)) (swpN2 ?_)
        rw [q.sc]
        simp only [kindIs, Bool.and_eq_false_iff, beq_eq_false_iff_ne] at n1
        exact n1
      unfold swB at h5
      simp only [Bool.and_eq_true, Bool.not_eq_true'] at h5
      obtain ⟨⟨⟨⟨⟨⟨⟨⟨s1, s2⟩, s3⟩, s4⟩, s5⟩, s6⟩, s7⟩, s8⟩, s9⟩ := h5
      have k1 := kindIs_iff s1; have k2 := kindIs_iff s2
      rw [← q.sc] at k1 k2 s9
      exact ss_par2 (free_ok q f1) (free_ok q f2) (q.calm h1) (by rw [q.N]; exact q.nodup) (by rw [q.N]; exact h2) (by rw [q.N]; exact h3) (by simpa using h4) k1 k2 (ea_cons (ha.e _ _ _ _ q h6) s5 (ea_cons (hb.e _ _ _ _ q h7) s6 ea_nil))
        (swp2 (eq_of_beq s9) k1 k2 s3 s4 s5 s6 s7 s8))
   · cases h

theorem snd_par3 (i j l : Nat) (a b d : T) (ha : Snd V J C G P w K mg base k a) (hb : Snd V J C G P w K mg base k b) (hd : Snd V J C G P w K mg base k d) : Snd V J C G P w K mg base k (.par3 i j l a b d) where
  s := by
   intro c X W e q h
   simp only [ck] at h
   split at h
   · rename_i x px y py z pz x1 p1 e1 e2 e3 x2 p2 p3
     try simp only [Bool.and_eq_true, beq_iff_eq] at h
     exact (by
      obtain ⟨⟨⟨⟨⟨⟨⟨⟨⟨⟨⟨⟨⟨f1, f2⟩, f3⟩, h1⟩, h2⟩, h3⟩, h3'⟩, h4⟩, h4'⟩, h4''⟩, h5⟩, h6⟩, h7⟩, h8⟩ := h
      simp only [Bool.or_eq_true] at h5
      rcases h5 with h5 | h5
      case inr =>
        simp only [Bool.and_eq_true] at h5
        obtain ⟨⟨⟨h5, s5⟩, s6⟩, s6'⟩ := h5
        unfold swN3 at h5
        simp only [Bool.and_eq_true, Bool.not_eq_true'] at h5
        obtain ⟨⟨⟨n1, n2⟩, n3⟩, n4⟩ := h5
        refine ss_par3c (free_ok q f1) (free_ok q f2) (free_ok q f3) (q.calm h1) (by rw [q.N]; exact q.nodup) (by rw [q.N]; exact h2) (by rw [q.N]; exact h3) (by rw [q.N]; exact h3') (loc_ok q n2).1 (loc_ok q n2).2 (loc_ok q n3).1 (loc_ok q n3).2 (loc_ok q n4).1 (loc_ok q n4).2
          (ea_cons (ha.e _ _ _ _ q h6) s5 (ea_cons (hb.e _ _ _ _ q h7) s6 (ea_cons (hd.e _ _ _ _ q h8) s6' ea_nil))) (swpN3 ?_)
        rw [q.sc]
        simp only [kindIs, Bool.and_eq_false_iff, beq_eq_false_iff_ne] at n1
        exact n1
      unfold swB3 at h5
      simp only [Bool.and_eq_true, Bool.not_eq_true'] at h5
      obtain ⟨⟨⟨⟨⟨⟨⟨⟨⟨⟨⟨⟨⟨s1, s2⟩, s2'⟩, s3⟩, s3'⟩, s4⟩, s4'⟩, s4''⟩, s5⟩, s6⟩, s6'⟩, s7⟩, s8⟩, s9⟩ := h5
      have k1 := kindIs_iff s1; have k2 := kindIs_iff s2; have k3 := kindIs_iff s2'
      rw [← q.sc] at k1 k2 k3 s9
      exact ss_par3 (free_ok q f1) (free_ok q f2) (free_ok q f3) (q.calm h1) (by rw [q.N]; exact q.nodup) (by rw [q.N]; exact h2) (by rw [q.N]; exact h3) (by rw [q.N]; exact h3') (by simpa using h4) (by simpa using h4') (by simpa using h4'') k1 k2 k3
        (ea_cons (ha.e _ _ _ _ q h6) s5 (ea_cons (hb.e _ _ _ _ q h7) s6 (ea_cons (hd.e _ _ _ _ q h8) s6' ea_nil)))
        (swp3 (eq_of_beq s9) k1 k2 k3 s3 s3' s4 s4' s4'' s5 s6 s6' s7 s8))
   · cases h

theorem snd_comp (own : List (Str × Nat)) (i g f a : T) (hi : Snd V J C G P w K mg base k i) (hg : Snd V J C G P w K mg base k g) (hf : Snd V J C G P w K mg base k f) (ha : Snd V J C G P w K mg base k a) : Snd V J C G P w K mg base k (.comp own i g f a) where
  e := by
   intro c X W e q h
   simp only [ck] at h
   split at h
   · rename_i x g1 i1 fs sc p
     try simp only [Bool.and_eq_true, beq_iff_eq] at h
     exact (by
      obtain ⟨⟨⟨⟨⟨h1, h2⟩, h3⟩, h4⟩, h5⟩, ⟨h6, h7⟩, h8⟩ := h
      have kk := fun (s : Shared) (H : Hp) (A : Addr) (cl : List (Str × Addr)) (fp : List Addr) => ctx_blk q h1 (sc := sc) s H A cl fp
      exact ee_comp (pos := p) (W := W) (q.calm h1) (by rw [q.N]; exact q.nodup) (hi.i _ _ _ _ _ q h2) (own := own) (scope := sc) (by rw [q.N, q.sc]; exact blkOk_by h3) (fun s H A cl fp => hg.g _ _ _ _ (kk s H A cl fp) h6) (hf.f _ X sc fs kk h7) (fun s H A cl fp => ha.e _ _ _ _ (kk s H A cl fp) h8) (by simpa using h4) h5)
   · cases h
  t := fun c X W e q h => et_bad
  sc := by
   intro _ c X W i x px e pp q h
   simp only [ck] at h
   split at h
   · rename_i x1 g1 i1 fs sc p
     try simp only [Bool.and_eq_true, beq_iff_eq] at h
     exact (by
      obtain ⟨⟨⟨⟨⟨h1, h2⟩, h3⟩, h4⟩, h5⟩, ⟨h6, h7⟩, h8⟩ := h
      have kk := fun (s : Shared) (H : Hp) (A : Addr) (cl : List (Str × Addr)) (fp : List Addr) => ctx_blk q h1 (sc := sc) s H A cl fp
      intro hJ hN hy hsw
      exact ss_setComp (W := W) hJ (q.calm h1) (by rw [q.N]; exact q.nodup) hN hy hsw (hi.i _ _ _ _ _ q h2) (own := own) (scope := sc) (by rw [q.N, q.sc]; exact blkOk_by h3) (fun s H A cl fp => hg.g _ _ _ _ (kk s H A cl fp) h6) (hf.f _ X sc fs kk h7) (fun s H A cl fp => ha.e _ _ _ _ (kk s H A cl fp) h8) (by simpa using h4) h5)
   · cases h

theorem snd_setc (i : Nat) (a : T) (ha : Snd V J C G P w K mg base k a) : Snd V J C G P w K mg base k (.setc i a) where
  s := by
    intro c X W st q h
    simp only [ck] at h
    split at h
    · rename_i x px el g it fs sc p p2
      simp only [Bool.and_eq_true, beq_iff_eq, Bool.not_eq_true'] at h
      obtain ⟨⟨⟨⟨⟨⟨⟨h0, h1⟩, h2⟩, h3⟩, h4⟩, h5⟩, h6⟩, h7⟩ := h
      have k1 := kindIs_iff h3
      rw [← q.sc] at k1 h4
      refine ha.sc h1 c X W i x px _ p2 q h7 (free_ok q h0) (by rw [q.N]; exact h2) k1 ?_
      show (pure (_ && _ && _ && _) : Sem Bool) = _
      have hb : X.env.blockKind = .function := by unfold Env.blockKind; rw [h4]; rfl
      rw [hb]
      simp [Env.kindOf, k1, Expr.pos, h5, h6]
    · cases h

theorem snd_tryk (M : Md V C G P w K mg base k) (i : Nat) (a : T) (ha : Snd V J C G P w K mg base k a) : Snd V J C G P w K mg base k (.tryk i a) where
  s := by
    intro c X W st q h
    simp only [ck] at h
    split at h
    · rename_i e p1 x p2 nm kx p3 nm2 p4 p5 p6 p7 p8
      simp only [Bool.and_eq_true, beq_iff_eq] at h
      obtain ⟨⟨⟨⟨⟨⟨⟨⟨⟨⟨⟨h0, h1⟩, h2⟩, h3⟩, h4⟩, h5⟩, h6⟩, h7⟩, h8⟩, h9⟩, h10⟩, h11⟩ := h
      subst h5
      subst h8
      subst h10
      obtain ⟨fk, fd, ps, Cf, F, m1, kp, b, m2, ex⟩ := M.kind h0
      obtain ⟨g1, g2, g3⟩ := gl_ok q h9
      obtain ⟨l1, l2, l3⟩ := gl_ok q h11
      obtain ⟨n1, n2, n3⟩ := plainN_ok h7
      have k1 := kindIs_iff h6
      rw [← q.sc] at k1
      rw [← q.prog, ← q.w, ← q.K, ← q.mg, ← q.base] at F
      rw [← q.K] at kp b ex
      exact ss_tryk (q.stk h2).1 (q.stk h2).2 (by rw [q.N]; exact q.nodup) (by rw [q.N]; exact h4) k1 ⟨g1, g2, .inl (by rw [q.mg]; exact m2)⟩ (q.takes h1)
        (fun W' pn xe tk => ha.e _ _ _ _ (ctx_tr q h1 tk) h3) ex F (roomH_of (q.room h1).room) l1 (by rw [q.mg]; exact m1) kp b l2 n1 n2
    · cases h

theorem snd_lstN (a : T) (ha : Snd V J C G P w K mg base k a) : Snd V J C G P w K mg base k (.lstN a) := by
  refine .ofE rfl rfl rfl (fun c X W e q h => ?_) (fun _ _ => rfl) (fun _ _ => rfl) (fun _ _ => rfl) (fun _ _ => rfl) (fun _ _ => rfl) (fun _ _ _ => rfl) (fun _ _ => rfl) (fun _ _ => rfl)
  simp only [ck] at h
  split at h
  · rename_i xs p
    try simp only [Bool.and_eq_true, beq_iff_eq] at h
    exact ⟨ee_lstN (ha.a _ _ _ _ q h).1, rfl⟩
  · cases h

theorem snd_appN (o i a : T) (ho : Snd V J C G P w K mg base k o) (hi : Snd V J C G P w K mg base k i) (ha : Snd V J C G P w K mg base k a) : Snd V J C G P w K mg base k (.appN o i a) := by
  refine .ofE rfl rfl rfl (fun c X W e q h => ?_) (fun _ _ => rfl) (fun _ _ => rfl) (fun _ _ => rfl) (fun _ _ => rfl) (fun _ _ => rfl) (fun _ _ _ => rfl) (fun _ _ => rfl) (fun _ _ => rfl)
  simp only [ck] at h
  split at h
  · rename_i z kb p2 nm ap y cp
    try simp only [Bool.and_eq_true, beq_iff_eq] at h
    exact ⟨(by
      obtain ⟨⟨⟨⟨⟨⟨h1, h2⟩, h3⟩, h4⟩, h5⟩, h6⟩, h7⟩ := h
      subst h1
      exact ee_appN PySem.F.plainAttrs_list PySem.F.slot_list_append PySem.F.type_list_append mt_append (ho.e _ _ _ _ q h2) (hi.e _ _ _ _ q h3) (ha.a _ _ _ _ q h4).1 h5 h6 (by simpa using h7)), rfl⟩
  · cases h

theorem snd_refl (M : Md V C G P w K mg base k) (told : Str) (a : T) (ha : ∀ {V : Gv} {k : Nat}, Md V C G P w K mg base k → Snd V J C G P w K mg base k a) : Snd V J C G P w K mg base k (.refl told a) := by
  refine .ofE rfl rfl rfl (fun c X W e q h => ?_) (fun _ _ => rfl) (fun _ _ => rfl) (fun _ _ => rfl) (fun _ _ => rfl) (fun _ _ => rfl) (fun _ _ _ => rfl) (fun _ _ => rfl) (fun _ _ => rfl)
  simp only [ck] at h
  split at h
  · rename_i x p1 body sc p2 p3
    try simp only [Bool.and_eq_true, beq_iff_eq] at h
    exact ⟨(by
      obtain ⟨⟨⟨⟨⟨⟨h1, h2⟩, h3⟩, h4⟩, h5⟩, h6⟩, h7⟩ := h
      have ev0 : (ev V J (.refl told a)).e = lowS V (fun V' => reflS V'.res told (ev V' J a).e) := rfl
      rw [ev0]
      cases eL : V.callL with
      | none => exact ⟨fun _ _ _ => False, ⟨fun _ _ _ _ _ _ z => z.elim⟩, fun σ H ρ F fp Q S z => by unfold lowS at z; rw [eL] at z; exact z⟩
      | some cl =>
        obtain ⟨k', rfl, hf, hk⟩ := M.low cl eL
        have ML : Md ⟨cl, V.J, V.sub, V.res, none⟩ C G P w K mg base k' := { none := M.none, nums := M.nums, clss := M.clss, rais := M.rais, fns := hf, kind := hk, refu := M.refu, low := fun _ z => by cases z }
        have e0 : lowS V (fun V' => reflS V'.res told (ev V' J a).e) = reflS V.res told (ev ⟨cl, V.J, V.sub, V.res, none⟩ J a).e := by unfold lowS; rw [eL]
        rw [e0]
        obtain ⟨g1, _, _⟩ := gl_ok q h5
        obtain ⟨qg, b, nm, stg, g, fd, m1, Fg, Sg, hb, hT, hlk, hne, hpl⟩ := M.refu _ _ h4
        obtain ⟨fk, fdk, psk, Cf, Fk, mk, kk, bk, mf, ex⟩ := hk h3
        obtain ⟨c0, P0, z1, z2, z3, z4⟩ := q.lam h2
        rw [← q.prog, ← q.w, ← q.K, ← q.mg, ← q.base] at Fk
        rw [← q.K] at Fg hb kk bk ex
        rw [← q.mg] at m1 mk mf
        exact ee_refused g1 m1 Fg Sg hb hT hlk mf hne ex Fk mk kk bk z4 z1 z2 z3 (q.room h1) (by rw [q.sc]; exact LamX.lamS_by h6) rfl (fun _ _ _ _ _ => rfl)
          (fun A outer s H E f c' hr => (ha ML).e _ _ _ _ (ctx_lam (V' := ⟨cl, V.J, V.sub, V.res, none⟩) q h1 rfl A outer s H E f c' hr) h7) hpl), rfl⟩
  · cases h

theorem snd_lend (a : T) (ha : Snd V J C G P w K mg base k a) : Snd V J C G P w K mg base k (.lend a) where
  e := fun c X W e q h => ee_lend (ha.e _ _ _ _ q (by simpa only [ck] using h))
  t := fun c X W e q h => et_lend (ha.t _ _ _ _ q (by simpa only [ck] using h))
theorem snd_compN (own : List (Str × Nat)) (i g a : T) (hi : Snd V J C G P w K mg base k i) (hg : Snd V J C G P w K mg base k g) (ha : Snd V J C G P w K mg base k a) : Snd V J C G P w K mg base k (.compN own i g a) where
  e := by
   intro c X W e q h
   simp only [ck] at h
   split at h
   · rename_i x g1 i1 sc p
     try simp only [Bool.and_eq_true, beq_iff_eq] at h
     exact (by
      obtain ⟨⟨⟨⟨⟨h1, h2⟩, h3⟩, h4⟩, h5⟩, h6, h8⟩ := h
      have kk := fun (s : Shared) (H : Hp) (A : Addr) (cl : List (Str × Addr)) (fp : List Addr) => ctx_blk q h1 (sc := sc) s H A cl fp
      exact ee_compN (pos := p) (W := W) (q.calm h1) (by rw [q.N]; exact q.nodup) (hi.i _ _ _ _ _ q h2) (own := own) (scope := sc) (by rw [q.N, q.sc]; exact blkOk_by h3) (fun s H A cl fp => hg.g _ _ _ _ (kk s H A cl fp) h6) (fun s H A cl fp => ha.e _ _ _ _ (kk s H A cl fp) h8) (by simpa using h4) h5)
   · cases h
  t := fun c X W e q h => et_bad
  sc := by
   intro _ c X W i x px e pp q h
   simp only [ck] at h
   split at h
   · rename_i x1 g1 i1 sc p
     try simp only [Bool.and_eq_true, beq_iff_eq] at h
     exact (by
      obtain ⟨⟨⟨⟨⟨h1, h2⟩, h3⟩, h4⟩, h5⟩, h6, h8⟩ := h
      have kk := fun (s : Shared) (H : Hp) (A : Addr) (cl : List (Str × Addr)) (fp : List Addr) => ctx_blk q h1 (sc := sc) s H A cl fp
      intro hJ hN hy hsw
      exact ss_setCompN (W := W) hJ (q.calm h1) (by rw [q.N]; exact q.nodup) hN hy hsw (hi.i _ _ _ _ _ q h2) (own := own) (scope := sc) (by rw [q.N, q.sc]; exact blkOk_by h3) (fun s H A cl fp => hg.g _ _ _ _ (kk s H A cl fp) h6) (fun s H A cl fp => ha.e _ _ _ _ (kk s H A cl fp) h8) (by simpa using h4) h5)
   · cases h

/-- what the words say is so -/
theorem snd {V : Gv} {k : Nat} (M : Md V C G P w K mg base k) : ∀ t : T, Snd V J C G P w K mg base k t
  | .refl told a => snd_refl M told a (fun M' => snd M' a)
  | .bad => snd_bad | .nm i => snd_nm i | .int i => snd_int i | .bl i => snd_bl i | .non => snd_non | .str i => snd_str i | .gint y i => snd_gint M y i | .tyN n => snd_tyN M n | .gcls n => snd_gcls M n
  | .bin op a b => snd_bin op a b (snd M a) (snd M b) | .neg a => snd_neg a (snd M a) | .cmp op a b => snd_cmp op a b (snd M a) (snd M b) | .cmp3 op o2 a b d => snd_cmp3 op o2 a b d (snd M a) (snd M b) (snd M d)
  | .and1 a => snd_and1 a (snd M a) | .and2 a b => snd_and2 a b (snd M a) (snd M b) | .or1 a => snd_or1 a (snd M a) | .or2 a b => snd_or2 a b (snd M a) (snd M b) | .not a => snd_not a (snd M a) | .ifx d a b => snd_ifx d a b (snd M d) (snd M a) (snd M b)
  | .tup a => snd_tup a (snd M a) | .lst a => snd_lst a (snd M a) | .dnew => snd_dnew
  | .ix a b => snd_ix a b (snd M a) (snd M b) | .sl a l u => snd_sl a l u (snd M a) (snd M l) (snd M u) | .dget a b => snd_dget a b (snd M a) (snd M b) | .din n a b => snd_din n a b (snd M a) (snd M b) | .dget2 o a b => snd_dget2 o a b (snd M o) (snd M a) (snd M b)
  | .prim f a => snd_prim M f a (snd M a) | .sitems a => snd_sitems M a (snd M a) | .callB f a => snd_callB M f a (snd M a) | .call f a => snd_call M f a (snd M a) | .gfn f => snd_gfn M f | .callX n a b => snd_callX M n a b (snd M a) (snd M b) | .meth m o a => snd_meth m o a (snd M o) (snd M a) | .mut m o a => snd_mut m o a (snd M o) (snd M a)
  | .lstN a => snd_lstN a (snd M a) | .appN o i a => snd_appN o i a (snd M o) (snd M i) (snd M a) | .lend a => snd_lend a (snd M a) | .compN own i g a => snd_compN own i g a (snd M i) (snd M g) (snd M a)
  | .comp own i g f a => snd_comp own i g f a (snd M i) (snd M g) (snd M f) (snd M a)
  | .nil => snd_nil | .cons a b => snd_cons a b (snd M a) (snd M b)
  | .sortSet a => snd_sortSet M a (snd M a) | .lenSet a => snd_lenSet M a (snd M a) | .mmd m d a => snd_mmd M m d a (snd M a) | .slp a l u t => snd_slp a l u t (snd M a) (snd M l) (snd M u) (snd M t) | .ienum a => snd_ienum M a (snd M a)
  | .gnm i => snd_gnm i | .gtup a => snd_gtup a (snd M a)
  | .iseq a => snd_iseq a (snd M a) | .irange1 a => snd_irange1 M a (snd M a) | .irange2 a b => snd_irange2 M a b (snd M a) (snd M b) | .izip a b => snd_izip M a b (snd M a) (snd M b)
  | .pass => snd_pass | .brk => snd_brk | .cont => snd_cont | .ret a => snd_ret a (snd M a) | .set i a => snd_set i a (snd M a) | .setc i a => snd_setc i a (snd M a) | .asg g a => snd_asg g a (snd M g) (snd M a)
  | .par2 i j a b => snd_par2 i j a b (snd M a) (snd M b) | .par3 i j l a b d => snd_par3 i j l a b d (snd M a) (snd M b) (snd M d) | .drop a => snd_drop a (snd M a)
  | .ite d a b => snd_ite d a b (snd M d) (snd M a) (snd M b) | .for_ i g b => snd_for_ i g b (snd M i) (snd M g) (snd M b) | .while_ d b => snd_while_ d b (snd M d) (snd M b)
  | .setit i o v => snd_setit i o v (snd M o) (snd M v) | .raise i => snd_raise M i | .tryk i a => snd_tryk M i a (snd M a)
end
end Pv

namespace Pv
open PySem PySem.Spec PyProof.Rows L2 L2H
/-- a def's words: how many parameters, which of them are lent, its names, its body -/
structure Df where
  name : Str
  ar : Nat
  J : List Nat
  N : List Str
  body : T
  lam : Bool := false
def jOf (D : Nat → Option Df) (f : Nat) : List Nat := match D f with
  | some d => d.J
  | none => []
/-- one step down -/
def evStep (D : Nat → Option Df) (sub : Nat → Nat → Bool) (res : Nat → Option Str) (c : Nat → SemF) (cl : Option (Nat → SemF)) (f : Nat) : SemF := match D f with
  | some d => fnV d.ar d.N.length d.J (ev ⟨c, jOf D, sub, res, cl⟩ d.J d.body).s
  | none => fun _ => .bad
def evCall (D : Nat → Option Df) (sub : Nat → Nat → Bool) (res : Nat → Option Str) : Nat → Nat → SemF
  | 0 => fun _ _ => .bad
  | 1 => evStep D sub res (evCall D sub res 0) none
  | 2 => evStep D sub res (evCall D sub res 1) none
  | k + 3 => evStep D sub res (evCall D sub res (k + 2)) (some (evCall D sub res k))
/-- what a lambda's calls mean -/
def evL (D : Nat → Option Df) (sub : Nat → Nat → Bool) (res : Nat → Option Str) : Nat → Option (Nat → SemF)
  | k + 2 => some (evCall D sub res k)
  | _ => none
def ccOf (d : Df) (st : Stmt) : Cc := { N := d.N, sc := defScope st, calm := true, fnB := fun _ => true, body := true, J := d.J, lam := d.lam }
def ccHot (d : Df) (st : Stmt) : Cc := { N := d.N, sc := defScope st, calm := false, fnB := fun _ => true, body := false, J := [], lam := false }
def coldC (C : Gc) : Gc := { C with fns := [], hot := false, refu := none }
def V0 (sub : Nat → Nat → Bool) (res : Nat → Option Str) : Gv := ⟨fun _ _ => .bad, fun _ => [], sub, res, none⟩
/-- what a law's head gives -/
structure Lw (D : Nat → Option Df) (sub : Nat → Nat → Bool) (res : Nat → Option Str) (C : Gc) (G : Tab) (P : Program) (w : World) (K : PySem.W.Frag) (mg : Str → Option Value) (base : Heap) : Prop where
  none : ∀ x, C.none.contains x = true → mg x = none
  nums : ∀ x i, C.nums.contains (x, i) = true → ∃ t, mg x = some (.int i t)
  clss : ∀ (c : Nat) (x : Str), C.clss.lookup c = some x → mg x = some (.ref (G.cls c)) ∧ PySem.W.keepIn K (.ref (G.cls c)) = true
  rais : ∀ (c : Nat) (x : Str), C.rais.contains c = true → C.clss.lookup c = some x → ∃ (B newId initId : String) (bmB : List Value), ExcBaseFacts B newId initId bmB ∧ PySem.W.excIn K (G.cls c) bmB newId = true ∧ PySem.W.subIn K (.ref (G.cls c)) (.type "BaseException") = some true ∧ PySem.W.typeIn K (.ref (G.cls c)) = some (.type "type")
  fns : ∀ (f : Nat) (n : Str) (j : Nat), C.fns.lookup f = some (n, j) → ∃ (d : Df) (st : Stmt) (qual : Str) (a : Addr) (fd : FuncData) (ps : List Str), D f = some d ∧ d.ar = j ∧ ps.length = j ∧ Fun K n qual st a fd ∧ FnScope d.N ps (defScope st) ∧ (ck C d.body).b (ccOf d st) (defBody st) = true ∧ mg n = some (.ref a) ∧ Binds K fd ps [] ∧ G.fn f = a ∧
    (d.lam = true → ∃ c0 P0, fd.code = .ref c0 ∧ (P0, qual ++ ".<locals>." ++ "<lambda>") ∈ G.tabs ∧ (∀ p ∈ G.tabs, p.1 = P0 → p.2 = qual ++ ".<locals>." ++ "<lambda>") ∧ LamX.TabB base mg c0 P0)
  refu : ∀ x told, C.refu = some (x, told) → ∃ (qg a nm : Str) (stg : Stmt) (g : Addr) (fd : FuncData), mg x = some (.ref g) ∧ Fun K x qg stg g fd ∧ FnScope [a, nm] [a] (defScope stg) ∧ Binds K fd [a] [] ∧ RefT a nm C.far C.kind told (defBody stg) ∧
    ((defScope stg).names.lookup C.far = some .globalImplicit ∧ (defScope stg).names.lookup C.kind = some .globalImplicit ∧ (defScope stg).names.lookup nm = some .local) ∧ a ≠ nm ∧ ∀ y ∈ [x, a, nm, C.far, C.kind], (y == ("__debug__" : Str)) = false ∧ (y == ("__classdict__" : Str)) = false
  exn : ∀ a, G.exn a = .none
  kind : C.hot = true → ∃ (d : Df) (st : Stmt) (qual : Str) (a : Addr) (fd : FuncData) (ps : List Str) (Cf : Addr), Fun K C.kind qual st a fd ∧ FnScope d.N ps (defScope st) ∧ ps.length = 1 ∧ (ck (coldC C) d.body).b (ccHot d st) (defBody st) = true ∧ mg C.kind = some (.ref a) ∧ Binds K fd ps [] ∧ mg C.far = some (.ref Cf) ∧
    (∀ c r, res c = some r → ClsOk K G sub c) ∧ (∀ c r, res c = some r → PySem.W.exmOne K (.ref (G.cls c)) (.ref Cf) = some true) ∧
    ∀ c r, res c = some r → exitV [] 1 ((ev (V0 sub res) [] d.body).s ([some (.d (.exn c))] ++ List.replicate (d.N.length - 1) .none)) = .ok (.d (.str r)) [.none]
section
variable {D : Nat → Option Df} {sub : Nat → Nat → Bool} {res : Nat → Option Str} {C : Gc} {G : Tab} {P : Program} {w : World} {K : PySem.W.Frag} {mg : Str → Option Value} {base : Heap}
theorem Lw.kindP (L : Lw D sub res C G P w K mg base) (k : Nat) (h : C.hot = true) : ∃ fk fd ps Cf, FnP P w K mg base (L2.CX P w) (k + 1) fk fd ps (spKind K G res) ∧ mg C.kind = some (.ref fk) ∧ PySem.W.keepIn K (.ref fk) = true ∧ Binds K fd ps [] ∧ mg C.far = some (.ref Cf) ∧ ∀ c r, res c = some r → PySem.W.exmOne K (.ref (G.cls c)) (.ref Cf) = some true := by
  obtain ⟨d, st, qual, a, fd, ps, Cf, F, Sc, hps, hck, m1, b, m2, hcl, hex, hres⟩ := L.kind h
  refine ⟨a, fd, ps, Cf, ?_, m1, F.kp, b, m2, hex⟩
  refine kind_ok (body := (ev (V0 sub res) [] d.body).s) F Sc hps hcl hres fun X G' W hG hP hw hK hmg hbase hN hsc hfn hu hx => ?_
  have M : Md (V0 sub res) (coldC C) G' P w K mg base 0 :=
    { none := L.none, nums := L.nums, clss := by rw [hG]; exact L.clss, rais := by rw [hG]; exact L.rais
      fns := fun f n j h => by simp [coldC] at h
      refu := fun x told h => by simp [coldC] at h
      low := fun _ z => by cases z
      kind := fun h => by simp [coldC] at h }
  exact (snd (J := []) M d.body).b (ccHot d st) X W (defBody st) { prog := hP, w := hw, K := hK, mg := hmg, base := hbase, N := hN, sc := hsc, J := rfl, nodup := Sc.nd, calm := fun h => absurd h Bool.false_ne_true, fnB := fun x _ => hfn x, hu := hu, exn := hx, noex := fun h => absurd h Bool.false_ne_true, room := fun h => absurd h Bool.false_ne_true, takes := fun h => absurd h Bool.false_ne_true, own := fun h => absurd h Bool.false_ne_true, stk := fun h => absurd h Bool.false_ne_true, lam := fun h => absurd h Bool.false_ne_true } hck
theorem evCall_step (k f : Nat) : evCall D sub res (k + 1) f = evStep D sub res (evCall D sub res k) (evL D sub res k) f := by
  match k with
  | 0 => rfl
  | 1 => rfl
  | k + 2 => rfl
theorem evCall_succ (k f : Nat) {d : Df} (e : D f = some d) : evCall D sub res (k + 1) f = fnV d.ar d.N.length d.J (ev ⟨evCall D sub res k, jOf D, sub, res, evL D sub res k⟩ d.J d.body).s := by
  rw [evCall_step]
  unfold evStep
  rw [e]
theorem evCall_ar (L : Lw D sub res C G P w K mg base) {f j : Nat} {n : Str} (h : C.fns.lookup f = some (n, j)) (k : Nat) (as : List A) (hl : as.length ≠ j) : evCall D sub res k f as = .bad := by
  cases k with
  | zero => rfl
  | succ k =>
    obtain ⟨d, st, qual, a, fd, ps, e, rfl, _⟩ := L.fns f n j h
    rw [evCall_succ k f e]
    exact fnV_ar as hl
/-- a def's promise, if the defs below keep theirs -/
theorem Lw.up (L : Lw D sub res C G P w K mg base) (k : Nat) (M : Md ⟨evCall D sub res k, jOf D, sub, res, evL D sub res k⟩ C G P w K mg base (k + 1)) {f : Nat} {d : Df} {n qual : Str} {st : Stmt} {a : Addr} {fd : FuncData} {ps : List Str} (e : D f = some d) (F : Fun K n qual st a fd) (Sc : FnScope d.N ps (defScope st)) (e2 : d.ar = ps.length)
    (hck : (ck C d.body).b (ccOf d st) (defBody st) = true) (hlam : d.lam = true → ∃ c0 P0, fd.code = .ref c0 ∧ (P0, qual ++ ".<locals>." ++ "<lambda>") ∈ G.tabs ∧ (∀ p ∈ G.tabs, p.1 = P0 → p.2 = qual ++ ".<locals>." ++ "<lambda>") ∧ LamX.TabB base mg c0 P0) :
    FnG P w K mg base (L2.CX P w) (k + 2) a fd ps (spF K G ps.length (evCall D sub res (k + 1) f)) := by
  rw [evCall_succ k f e, e2]
  refine fn_ok F Sc fun X W hP hw hK hmg hbase hN hsc hcalm hfn hstk hfr hroom tk own hcode hq => ?_
  exact (snd (J := d.J) M d.body).b (ccOf d st) X W (defBody st) { prog := hP, w := hw, K := hK, mg := hmg, base := hbase, N := hN, sc := hsc, J := rfl, nodup := Sc.nd, calm := fun _ => hcalm, fnB := fun x _ => hfn x, hu := hroom.room.units, exn := ⟨fun a c h => by rw [L.exn] at h; cases h⟩, noex := fun _ => L.exn, room := fun _ => hroom, takes := fun _ => tk, own := fun _ => own, stk := fun _ => ⟨hstk, hfr⟩, lam := fun h => by rw [hcode, hq, hmg, hbase]; exact hlam h } hck
/-- what every def's promise is, at a level -/
def FnsAt (C : Gc) (G : Tab) (P : Program) (w : World) (K : PySem.W.Frag) (mg : Str → Option Value) (base : Heap) (k : Nat) (c : Nat → SemF) : Prop :=
  ∀ f n j, C.fns.lookup f = some (n, j) → ∃ a fd ps, FnG P w K mg base (L2.CX P w) k a fd ps (spF K G j (c f)) ∧ (∀ as, as.length ≠ j → c f as = .bad) ∧ mg n = some (.ref a) ∧ PySem.W.keepIn K (.ref a) = true ∧ Binds K fd ps [] ∧ G.fn f = a
theorem Lw.mdOf (L : Lw D sub res C G P w K mg base) (k : Nat) (h1 : FnsAt C G P w K mg base (k + 1) (evCall D sub res k)) (h2 : ∀ k', k = k' + 2 → FnsAt C G P w K mg base (k' + 1) (evCall D sub res k')) : Md ⟨evCall D sub res k, jOf D, sub, res, evL D sub res k⟩ C G P w K mg base (k + 1) :=
  { none := L.none, nums := L.nums, clss := L.clss, rais := L.rais, kind := L.kindP k, refu := L.refu, fns := h1
    low := fun cl z => by
      match k, h2, z with
      | 0, _, z => cases z
      | 1, _, z => cases z
      | k' + 2, h2, z => cases z; exact ⟨k' + 1, rfl, h2 k' rfl, L.kindP k'⟩ }
/-- every def keeps its promise -/
theorem Lw.fnsAt (L : Lw D sub res C G P w K mg base) : ∀ k, ∀ m, m ≤ k → FnsAt C G P w K mg base (m + 1) (evCall D sub res m)
  | 0, m, hm => by
    obtain rfl : m = 0 := Nat.le_zero.mp hm
    intro f n j h
    obtain ⟨d, st, qual, a, fd, ps, e, e2, hps, F, Sc, hck, m, b, hG, _⟩ := L.fns f n j h
    refine ⟨a, fd, ps, ⟨fun vs H Q E q => by rw [q.1, hps], fun A outer s H args us vs Q E hr he hb hv hs => ?_⟩, fun as hl => rfl, m, F.kp, b, hG⟩
    obtain ⟨_, F', fp, as, _, r⟩ := hs
    exact r.elim
  | k + 1, m, hm => by
    by_cases hk : m ≤ k
    · exact L.fnsAt k m hk
    · obtain rfl : m = k + 1 := by omega
      intro f n j h
      obtain ⟨d, st, qual, a, fd, ps, e, e2, hps, F, Sc, hck, m, b, hG, hlam⟩ := L.fns f n j h
      have M := L.mdOf k (L.fnsAt k k (Nat.le_refl _)) fun k' e => L.fnsAt k k' (by omega)
      refine ⟨a, fd, ps, ?_, evCall_ar L h (k + 1), m, F.kp, b, hG⟩
      rw [← hps]
      exact L.up k M e F Sc (e2.trans hps.symm) hck hlam
theorem Lw.md (L : Lw D sub res C G P w K mg base) (k : Nat) : Md ⟨evCall D sub res k, jOf D, sub, res, evL D sub res k⟩ C G P w K mg base (k + 1) := L.mdOf k (L.fnsAt k k (Nat.le_refl _)) fun k' e => L.fnsAt k k' (by omega)
/-- one def's promise, with its own data -/
theorem Lw.one (L : Lw D sub res C G P w K mg base) (k : Nat) {f : Nat} {d : Df} {n qual : Str} {st : Stmt} {a : Addr} {fd : FuncData} {ps : List Str} (e : D f = some d) (F : Fun K n qual st a fd) (Sc : FnScope d.N ps (defScope st)) (e2 : d.ar = ps.length)
    (hck : (ck C d.body).b (ccOf d st) (defBody st) = true) (hlam : d.lam = true → ∃ c0 P0, fd.code = .ref c0 ∧ (P0, qual ++ ".<locals>." ++ "<lambda>") ∈ G.tabs ∧ (∀ p ∈ G.tabs, p.1 = P0 → p.2 = qual ++ ".<locals>." ++ "<lambda>") ∧ LamX.TabB base mg c0 P0) :
    FnG P w K mg base (L2.CX P w) (k + 2) a fd ps (spF K G ps.length (evCall D sub res (k + 1) f)) := L.up k (L.md k) e F Sc e2 hck hlam
/-- the law's end: what it answers -/
def spLaw (K : PySem.W.Frag) (T : List (Addr × Str)) : Sp := fun vs H Q _ => ∃ (a : Addr) (ns : List Int), vs = [.ref a] ∧ SqL K H a (ns.map L2.V.int) ∧ ns.length ≤ 63 ∧ LamX.Tabs T H ∧ ∀ H', Q (.bl true) H'
theorem sk_start {F H : Hp} {v : L2.V} {x : Pv.D} (sub : SubT G F H) (h : IsD K G F v x) : Sk K G F (fun _ => False) H ([v].map some) ([A.d x].map some) := by
  have key : ∀ (i : Nat) (w : L2.V) (a : A), Sl ([v].map some) ([A.d x].map some) i w a → w = v ∧ a = .d x := fun i w a s => by
    obtain ⟨s1, s2⟩ := s
    cases i with
    | zero => simp at s1 s2; exact ⟨s1.symm, s2.symm⟩
    | succ i => simp at s1
  refine ⟨sub, rfl, fun i a e => ?_, fun i w a b s o => ?_, fun i j w w' a c b hne s s' o o' => ?_⟩
  · cases i with
    | zero => simp at e; subst e; exact ⟨v, rfl, h⟩
    | succ i => simp at e
  · obtain ⟨_, rfl⟩ := key i w a s; simp at o
  · obtain ⟨_, rfl⟩ := key i w a s; simp at o
theorem law_imp {f : Nat} {k : Nat} (hv : ∀ ns : List Int, ns.length ≤ 63 → ∃ ws, evCall D sub res k f [.d (.scr ns)] = .ok (.d (.bl true)) ws) :
    ∀ vs H Q E, spLaw K G.tabs vs H Q E → spF K G 1 (evCall D sub res k f) vs H Q E := by
  rintro vs H Q E ⟨a, ns, rfl, hS, hl, hT, q⟩
  obtain ⟨ws, h⟩ := hv ns hl
  have hS' : SqL K (noT G H) a (ns.map L2.V.int) := by
    rcases hS with (z | ⟨o, z⟩) | z
    · exact .inl (.inl (noT_at z (plain_lst _).1))
    · exact .inl (.inr ⟨o, noT_at z (fun _ y => by cases y)⟩)
    · exact .inr z
  refine ⟨rfl, noT G H, fun _ => False, [.d (.scr ns)], sk_start ⟨noT_le, hT, fun _ _ => noT_ne⟩ (.scr hS'), ?_⟩
  rw [h]
  intro v H' F' fp' e S r
  have r1 : IsD K G F' v (.bl true) := r.1
  cases r1
  exact q _
end

/-! ### the law's call, no repr being under way; cs: the code objects that make lambdas, each with its table -/
section
variable {P : Program} {w : World} {K : PySem.W.Frag} {mg mb : Str → Option Value} {a : Addr} {cs : List (Addr × Addr)} {s₁ : Shared} {vs : List Value} {ns : List Int}
/-- what is tracked at first: the script, unless K knows it, and the tables -/
def lawH (K : PySem.W.Frag) (cs : List (Addr × Addr)) (a : Addr) (vs : List Value) (ns : List Int) : Hp := fun b =>
  if b ∈ cs.map (·.2) then some (.tbl #[]) else if b = a ∧ K.lookup a = none then some (.frz { cls := .type "list", data := .seq vs.toArray } (.lst (ns.map V.int))) else none
theorem lawH_at (b : Addr) : (b ∈ cs.map (·.2) ∧ lawH K cs a vs ns b = some (.tbl #[])) ∨
    (b ∉ cs.map (·.2) ∧ ((b = a ∧ K.lookup a = none ∧ lawH K cs a vs ns b = some (.frz { cls := .type "list", data := .seq vs.toArray } (.lst (ns.map V.int)))) ∨ (¬ (b = a ∧ K.lookup a = none) ∧ lawH K cs a vs ns b = none))) := by
  unfold lawH
  by_cases h : b ∈ cs.map (·.2)
  · exact .inl ⟨h, if_pos h⟩
  · by_cases g : b = a ∧ K.lookup a = none
    · exact .inr ⟨h, .inl ⟨g.1, g.2, by rw [if_neg h, if_pos g]⟩⟩
    · exact .inr ⟨h, .inr ⟨g, by rw [if_neg h, if_neg g]⟩⟩
theorem law_callG {CX : CXT} {k : Nat} {fa : Addr} {fd : FuncData} {x : Str} {sp : Sp}
    (KX : K.In s₁.heap) (top : s₁.heap.Ns mainGlobals mg ∧ s₁.heap.Ns builtinsNs mb ∧ (∀ x : Str, x ≠ "__name__" → mb x = bootBuiltins x) ∧ s₁.heap.NoLimit) (hg : s₁.gens = #[])
    (tb : ∀ p ∈ cs, s₁.heap.get? p.2 = some { cls := .none, data := .fields #[] } ∧ K.lookup p.2 = none ∧ PySem.W.CodeHd s₁.heap p.1 p.2)
    (hbm : ∃ (bm : Addr) (ob : Obj), mg "__builtins__" = some (.ref bm) ∧ bm ≠ builtinsNs ∧ s₁.heap.get? bm = some ob ∧ ob.cls = .type "module" ∧ ob.dict = some builtinsNs ∧ ob.data = .plain)
    (ha : s₁.heap.get? a = some { cls := .type "list", data := .seq vs.toArray }) (hi : IntsAre vs ns) (hl : ns.length ≤ sizeLine) (hr : RoomG k callerA)
    (F : ∀ base : Heap, K.In base → base.Ns mainGlobals mg → (∀ p ∈ cs, LamX.TabB base mg p.1 p.2) → FnG P w K mg base CX k fa fd [x] sp) (hbind : ∀ (s : Shared) (u : Value), BindsTo s fd ⟨[u], []⟩ [(x, u)])
    (hsp : ∀ H : Hp, (∀ p ∈ cs, H p.2 = some (.tbl #[])) → SqL K H a (ns.map V.int) → sp [.ref a] H (fun v _ => v = .bl true) fun _ _ _ => False)
    (hCX : ∀ H e s', CX [] H s₁ (fun _ _ _ => False) e s' → False) :
    codeAny (model P w) callerA (.call (.ref fa) ⟨[.ref a], []⟩) (fun r s' => r = .ok (.ret (.bool true)) ∧ OldK s₁.heap s'.heap ∧ s'.os = s₁.os ∧ AllBare s'.gens) s₁ := by
  obtain ⟨hns, hb, hbb, hlim⟩ := top
  have rv := vals_ints hi
  have lenV := hi.length
  have isT : ∀ b : Addr, b ∈ cs.map (·.2) → s₁.heap.get? b = some { cls := .none, data := .fields #[] } := fun b hb => by
    obtain ⟨p, hp, rfl⟩ := List.mem_map.mp hb
    exact (tb p hp).1
  let H : Hp := lawH K cs a vs ns
  have at_ : ∀ b, _ := fun b => lawH_at (K := K) (cs := cs) (a := a) (vs := vs) (ns := ns) b
  have hT : ∀ p ∈ cs, H p.2 = some (.tbl #[]) := fun p hp => by
    rcases at_ p.2 with ⟨_, e⟩ | ⟨n, _⟩
    · exact e
    · exact absurd (List.mem_map.mpr ⟨p, hp, rfl⟩) n
  have hok : HOk P w H s₁.heap := fun b u e => by
    have e : lawH K cs a vs ns b = some u := e
    rcases at_ b with ⟨m, q⟩ | ⟨_, ⟨rfl, _, q⟩ | ⟨_, q⟩⟩ <;> rw [q] at e <;> cases e
    · exact isT b m
    · exact ⟨ha, by rw [List.length_map]; exact hl, vs, _, rv, ha⟩
  have hS : SqL K H a (ns.map V.int) := by
    cases hk : K.lookup a with
    | some o =>
      have e := KX a o hk
      rw [ha] at e; cases e
      exact .inr ⟨_, vs.toArray, _, hk, rfl, rfl, rfl, by rw [List.size_toArray, lenV]; exact hl, by simpa using rv⟩
    | none =>
      rcases at_ a with ⟨m, q⟩ | ⟨_, ⟨_, _, q⟩ | ⟨n, q⟩⟩
      · have z := isT a m
        rw [ha] at z
        have z' : Data.seq vs.toArray _ = Data.fields #[] := congrArg Obj.data (Option.some.inj z)
        cases z'
      · exact .inl (.inr ⟨_, q⟩)
      · exact absurd ⟨rfl, hk⟩ n
  -- what else stands there is not tracked
  have noD : ∀ {b : Addr} {o : Obj}, s₁.heap.get? b = some o → (∀ vs n, o.data ≠ .seq vs n) → o.data ≠ .fields #[] → H b = none := fun {b o} e h1 h2 => by
    rcases at_ b with ⟨m, q⟩ | ⟨_, ⟨rfl, _, q⟩ | ⟨_, q⟩⟩
    · have z := isT b m
      rw [e] at z; cases z
      exact absurd rfl h2
    · rw [ha] at e; cases e
      exact absurd rfl (h1 _ _)
    · exact q
  have base_of : ∀ {b : Addr} {o : Obj}, s₁.heap.get? b = some o → H b = none → (hidT s₁.heap H).get? b = some o := fun e n => hidT_get e n
  have nsK : ∀ {b : Addr} {m : Str → Option Value}, s₁.heap.Ns b m → (hidT s₁.heap H).Ns b m := fun {b m} ⟨o, es, ep, e, d, r⟩ =>
    ⟨o, es, ep, base_of e (noD e (fun vs n z => by rw [d] at z; cases z) fun z => by rw [d] at z; cases z), d, r⟩
  have hKb : K.In (hidT s₁.heap H) := fun b o e => base_of (KX b o e) (by
    rcases at_ b with ⟨m, q⟩ | ⟨_, ⟨rfl, n, q⟩ | ⟨_, q⟩⟩
    · obtain ⟨p, hp, rfl⟩ := List.mem_map.mp m
      rw [(tb p hp).2.1] at e; cases e
    · rw [n] at e; cases e
    · exact q)
  have hM : Mod K mg (hidT s₁.heap H) := ⟨hKb, nsK hns, ⟨mb, nsK hb, hbb⟩, let ⟨mc, h1, h2⟩ := hlim; ⟨mc, nsK h1, h2⟩⟩
  have TB : ∀ p ∈ cs, LamX.TabB (hidT s₁.heap H) mg p.1 p.2 := fun p hp => by
    have gT := (tb p hp).1
    refine ⟨?_, ?_, fun z => ?_⟩
    · obtain ⟨o, us, file, tf, flags, tg, inF, text, tt, e1, r1, r2, r3, r⟩ := (tb p hp).2.2
      refine ⟨o, us, file, tf, flags, tg, inF, text, tt, base_of e1 (noD e1 (fun vs n z => by rw [r2] at z; cases z) fun z => ?_), r1, r2, r3, r⟩
      rw [r2] at z; cases z
      simp at r3
    · obtain ⟨bm, ob, b1, b2, b3, b4, b5, b6⟩ := hbm
      refine ⟨bm, ob, b1, b2, fun q => ?_, fun q => ?_, base_of b3 (noD b3 (fun vs n z => by rw [b6] at z; cases z) fun z => by rw [b6] at z; cases z), b4, b5, b6⟩
      · obtain ⟨o, es, ep, e, hd, _⟩ := hns
        rw [q, e] at b3; cases b3
        rw [hd] at b6; cases b6
      · rw [q, gT] at b3; cases b3
        cases b6
    · obtain ⟨o, es, ep, e, hd, _⟩ := hns
      rw [z, gT] at e; cases e
      cases hd
  have e0 : Env0 P w K mg (hidT s₁.heap H) callerA [] s₁ H := ⟨rfl, hM, fun b o e => of_hidT e, Nat.le_of_eq (hidT_size _ _), trivial, fun b hb => absurd (show b ∈ ([] : List Addr) from hb) (by simp), hok, .of_eq hg⟩
  refine codeAny_mono ((F _ hKb (nsK hns) TB).run callerA [] s₁ H ⟨[.ref a], []⟩ [.ref a] [.ref a] _ _ hr e0 (hbind s₁ (.ref a)) (.cons rfl .nil) (hsp H hT hS)) fun r s' h => ?_
  match r with
  | .error e => exact (hCX H e s' h).elim
  | .ok .next => exact False.elim h
  | .ok .brk => exact False.elim h
  | .ok .cont => exact False.elim h
  | .ok (.ret u) =>
    obtain ⟨v, H', os, bare, un, hok', r', q⟩ := h
    have q' : v = .bl true := q
    subst q'
    obtain rfl : u = Value.bool true := r'
    have grown : ∀ p ∈ cs, ∃ more : Array Value, s'.heap.get? p.2 = some { cls := .none, data := .fields more } := fun p hp => by
      obtain ⟨more, z⟩ := un.tbls p.2 #[] (hT p hp)
      exact ⟨_, hok' p.2 _ z⟩
    have kept : ∀ b o, b ∉ cs.map (·.2) → s₁.heap.get? b = some o → s'.heap.get? b = some o := fun b o nb e => by
      rcases at_ b with ⟨m, _⟩ | ⟨_, ⟨rfl, _, q⟩ | ⟨_, q⟩⟩
      · exact absurd m nb
      · have z2 := un.frzs b _ _ q
        obtain ⟨e1, _⟩ := hok b _ q
        obtain ⟨e2, _⟩ := hok' b _ z2
        rw [e] at e1; cases e1
        exact e2
      · exact un.keep b o e q (by intro z; exact absurd (show b ∈ ([] : List Addr) from z) (by simp)) (by simp)
    refine ⟨rfl, ⟨fun b o e => ?_, fun b o e => ?_⟩, os, bare⟩
    · by_cases hb : b ∈ cs.map (·.2)
      · obtain ⟨p, hp, rfl⟩ := List.mem_map.mp hb
        obtain ⟨more, hm⟩ := grown p hp
        rw [(tb p hp).1] at e; cases e
        exact .inr (.inl ⟨((tb p hp).2.2.tab (tb p hp).1).isCodeTable, rfl, #[], more, rfl, by rw [Array.empty_append]; exact hm⟩)
      · exact .inl (kept b o hb e)
    · by_cases hb : b ∈ cs.map (·.2)
      · obtain ⟨p, hp, rfl⟩ := List.mem_map.mp hb
        obtain ⟨more, hm⟩ := grown p hp
        exact ⟨_, hm⟩
      · exact ⟨o, kept b o hb e⟩
end
theorem walk_ofG {l : PySem.W.OpenLaw} {n k : Nat} {q : Program} {loose : List Str} {XP : (Str → Option Value) → Heap → Prop} {YP : World → Heap → Prop} {d : DefRec} {K : Params → PySem.W.Frag} {CX : World → CXT} {sp : World → Sp} {x : Str} {cs : List (Addr × Addr)}
    (hn : l.most = some n) (hn2 : n ≤ sizeLine) (hdf : d.params.defaults = []) (hr : RoomG k callerA)
    (hY : ∀ (w : World) (h : Heap), YP w h → (K w.params).In h)
    (hT : ∀ (w : World) (h : Heap), YP w h → ∀ p ∈ cs, h.get? p.2 = some { cls := .none, data := .fields #[] } ∧ (K w.params).lookup p.2 = none ∧ PySem.W.CodeHd h p.1 p.2)
    (F : ∀ (w : World) (mg : Str → Option Value) (fa : Addr) (h : Heap), (K w.params).In h → h.Ns mainGlobals mg → mg d.name = some (.ref fa) →
      ∃ fd : FuncData, (∀ (s : Shared) (u : Value), BindsTo s fd ⟨[u], []⟩ [(x, u)]) ∧
        ∀ base : Heap, (K w.params).In base → base.Ns mainGlobals mg → (∀ p ∈ cs, LamX.TabB base mg p.1 p.2) → FnG l.prog w (K w.params) mg base (CX w) k fa fd [x] (sp w))
    (hsp : ∀ (w : World) (H : Hp) (a : Addr) (ns : List Int), ns.length ≤ n → (∀ p ∈ cs, H p.2 = some (.tbl #[])) → SqL (K w.params) H a (ns.map V.int) → sp w [.ref a] H (fun v _ => v = .bl true) fun _ _ _ => False)
    (hCX : ∀ (w : World) (H : Hp) (s : Shared) (e : Value) (s' : Shared), CX w [] H s (fun _ _ _ => False) e s' → False) :
    PySem.W.WalkO q loose XP YP l.row.toRowW d [] (fun f vs => PySem.call f vs) := by
  refine Att.attach_call hn hdf fun w s₀ s₁ mg mb fa o pm cd doc a vs ns G Y ho hd hcd hmg hobj hints hlen hg => ?_
  have KX := hY w _ Y
  obtain ⟨fd, hb, hF⟩ := F w mg fa _ KX G.T.g hmg
  exact law_callG KX ⟨G.T.g, G.T.b, G.T.builtins, G.T.nolimit⟩ hg (hT w _ Y) G.T.bmain hobj hints (Nat.le_trans hlen hn2) hr hF hb (fun H hO hS => hsp w H a ns hlen hO hS) fun H e s' => hCX w H s₁ e s'
end Pv

namespace Pv0
open PySem PySem.Spec PyProof.Rows L2 Pv
theorem eq_of_iff {p q : Prop} (h : p ↔ q) : p = q := propext h

/-! ### what holds behind -/
def Wp {α : Type} (o : Out α) (Q : α → Ev → Prop) (E : X1 → Ev → Prop) : Prop := match o with
  | .ok a ρ => Q a ρ
  | .exc x ρ => E x ρ
  | .bad => False
def WF (o : OutF) (Q : A → List (Option A) → Prop) (E : X1 → List (Option A) → Prop) : Prop := match o with
  | .ok a ws => Q a ws
  | .exc x ws => E x ws
  | .bad => False
/-- no exception -/
def no {β : Type} : X1 → β → Prop := fun _ _ => False
section
variable {α β : Type} {o : Out α} {Q Q' : α → Ev → Prop} {E E' : X1 → Ev → Prop} {ρ : Ev}
theorem Wp.mono (h : Wp o Q E) (q : ∀ a ρ, Q a ρ → Q' a ρ) (e : ∀ x ρ, E x ρ → E' x ρ) : Wp o Q' E' := by
  unfold Wp at *
  cases o with
  | ok a ρ => exact q _ _ h
  | exc x ρ => exact e _ _ h
  | bad => exact h
theorem Wp_bad (h : Wp (.bad : Out α) Q E) : False := by unfold Wp at h; exact h
theorem Wp_exc {x : X1} {ρ : Ev} : Wp (.exc x ρ : Out α) Q E = E x ρ := by with_unfolding_all rfl
theorem Wp_ok {a : α} : Wp (.ok a ρ) Q E = Q a ρ := by with_unfolding_all rfl
theorem Wp_bind {f : α → Ev → Out β} {Q : β → Ev → Prop} : Wp (o.bind f) Q E = Wp o (fun a ρ => Wp (f a ρ) Q E) E := by cases o <;> with_unfolding_all rfl
theorem Wp_nox {o : Out α} (h : Wp o Q no) : Wp o.nox Q E := by
  unfold Wp at *
  cases o with
  | ok a ρ => exact h
  | exc x ρ => exact h.elim
  | bad => exact h
end
section
variable {o : OutF} {Q Q' : A → List (Option A) → Prop} {E E' : X1 → List (Option A) → Prop}
theorem WF.mono (h : WF o Q E) (q : ∀ a ρ, Q a ρ → Q' a ρ) (e : ∀ x ρ, E x ρ → E' x ρ) : WF o Q' E' := by
  unfold WF at *
  cases o with
  | ok a ρ => exact q _ _ h
  | exc x ρ => exact e _ _ h
  | bad => exact h
theorem WF.of (h : WF o Q no) (q : ∀ a ρ, Q a ρ → Q' a ρ) : WF o Q' E' := h.mono q fun _ _ z => z.elim
theorem WF_ok {a : A} {ws : List (Option A)} : WF (.ok a ws) Q E = Q a ws := by with_unfolding_all rfl
theorem WF_exc {a : X1} {ws : List (Option A)} : WF (.exc a ws) Q E = E a ws := by with_unfolding_all rfl
theorem WF.ex (h : WF o Q no) : ∃ a ws, o = .ok a ws ∧ Q a ws := by
  unfold WF at h
  cases o with
  | ok a ws => exact ⟨a, ws, rfl, h⟩
  | exc x ws => exact h.elim
  | bad => exact h.elim
end

/-! ### helpers, each of which is gone where its first part is known -/
def get (ρ : Ev) (i : Nat) : Option A := match ρ[i]? with
  | some x => x
  | none => none
theorem get0 {x : Option A} {ρ : Ev} : get (x :: ρ) 0 = x := by with_unfolding_all rfl
theorem getS {x : Option A} {ρ : Ev} {i : Nat} : get (x :: ρ) (i + 1) = get ρ i := by with_unfolding_all rfl
def nmU (x : Option A) (i : Nat) (k : U → Prop) : Prop := match x with
  | some (.d x) => k (.v (.d x))
  | some _ => k (.s i)
  | none => False
def fl (a : A) (k : D → Prop) : Prop := match a with
  | .d x => k x
  | .l ds => k (.lst ds)
  | .m kvs => k (.dct (kvs.map (·.1)) (kvs.map (·.2)))
  | .n _ _ => False
def sl (x : Option A) (k : A → Prop) : Prop := match x with
  | some a => k a
  | none => False
def vw (ρ : Ev) (u : U) (k : D → Prop) : Prop := match u with
  | .v a => fl a k
  | .s i => sl (get ρ i) fun a => fl a k
def vws (ρ : Ev) : List U → (List D → Prop) → Prop
  | [], k => k []
  | u :: us, k => vw ρ u fun x => vws ρ us fun xs => k (x :: xs)
def wo {α : Type} (o : Option α) (k : α → Prop) : Prop := match o with
  | some a => k a
  | none => False
def br (b : Bool) (p q : Prop) : Prop := if b = true then p else q
def nxt (r : Fw) (p q : Prop) : Prop := match r with
  | .nx => p
  | _ => q
/-- one more turn, an end, else -/
def lp (r : Fw) (p q z : Prop) : Prop := match r with
  | .nx => p
  | .ct => p
  | .bk => q
  | .rt _ => z
def exF (r : Fw) (Q : A → Prop) : Prop := match r with
  | .rt a => Q a
  | .nx => Q (.d .non)
  | _ => False
def gW (g : SemG) (d : D) (ρ : Ev) (k : Ev → Prop) : Prop := match g d ρ with
  | some ρ1 => k ρ1
  | none => False
def gsW (g : SemGs) (d : List D) (ρ : Ev) (k : Ev → Prop) : Prop := match g d ρ with
  | some ρ1 => k ρ1
  | none => False
section
variable {i : Nat} {x : D} {xs : List D} {ms : List (D × D)} {ρ : Ev} {us : List U} {u : U} {a : A}
theorem nmU_d {k : U → Prop} : nmU (some (.d x)) i k = k (.v (.d x)) := by with_unfolding_all rfl
theorem nmU_l {k : U → Prop} : nmU (some (.l xs)) i k = k (.s i) := by with_unfolding_all rfl
theorem nmU_n {os : List Bool} {ds : List D} {k : U → Prop} : nmU (some (.n os ds)) i k = k (.s i) := by with_unfolding_all rfl
theorem nmU_m {k : U → Prop} : nmU (some (.m ms)) i k = k (.s i) := by with_unfolding_all rfl
theorem fl_d {k : D → Prop} : fl (.d x) k = k x := by with_unfolding_all rfl
theorem fl_l {k : D → Prop} : fl (.l xs) k = k (.lst xs) := by with_unfolding_all rfl
theorem fl_m {k : D → Prop} : fl (.m ms) k = k (.dct (ms.map (·.1)) (ms.map (·.2))) := by with_unfolding_all rfl
theorem sl_s {k : A → Prop} : sl (some a) k = k a := by with_unfolding_all rfl
theorem vw_v {k : D → Prop} : vw ρ (.v a) k = fl a k := by with_unfolding_all rfl
theorem vw_s {k : D → Prop} : vw ρ (.s i) k = sl (get ρ i) fun a => fl a k := by with_unfolding_all rfl
theorem vws_n {k : List D → Prop} : vws ρ [] k = k [] := by with_unfolding_all rfl
theorem vws_c {k : List D → Prop} : vws ρ (u :: us) k = vw ρ u fun x => vws ρ us fun xs => k (x :: xs) := by with_unfolding_all rfl
theorem wo_s {α : Type} {a : α} {k : α → Prop} : wo (some a) k = k a := by with_unfolding_all rfl
theorem wo_if {α : Type} {a : α} {k : α → Prop} {c : Prop} [Decidable c] : wo (if c then some a else none) k = (c ∧ k a) := by
  by_cases h : c <;> simp [h, wo]
theorem wo_map {α β : Type} {o : Option α} {f : α → β} {k : β → Prop} : wo (o.map f) k = wo o fun a => k (f a) := by cases o <;> with_unfolding_all rfl
theorem br_t {p q : Prop} : br true p q = p := by with_unfolding_all rfl
theorem br_f {p q : Prop} : br false p q = q := by with_unfolding_all rfl
theorem br_not {b : Bool} {p q : Prop} : br (!b) p q = br b q p := by cases b <;> with_unfolding_all rfl
theorem br_id {b : Bool} {p q : Prop} : br (id b) p q = br b p q := by with_unfolding_all rfl
theorem br_dec {c : Prop} [Decidable c] {p q : Prop} : br (decide c) p q = if c then p else q := by by_cases h : c <;> simp [br, h]
theorem br_i {b : Bool} {p q : Prop} (h1 : b = true → p) (h2 : b = false → q) : br b p q := by
  cases b
  · exact h2 rfl
  · exact h1 rfl
theorem nxt_n {p q : Prop} : nxt .nx p q = p := by with_unfolding_all rfl
theorem nxt_r {p q : Prop} : nxt (.rt a) p q = q := by with_unfolding_all rfl
theorem nxt_b {p q : Prop} : nxt .bk p q = q := by with_unfolding_all rfl
theorem nxt_c {p q : Prop} : nxt .ct p q = q := by with_unfolding_all rfl
theorem lp_n {p q z : Prop} : lp .nx p q z = p := by with_unfolding_all rfl
theorem lp_c {p q z : Prop} : lp .ct p q z = p := by with_unfolding_all rfl
theorem lp_b {p q z : Prop} : lp .bk p q z = q := by with_unfolding_all rfl
theorem lp_r {p q z : Prop} : lp (.rt a) p q z = z := by with_unfolding_all rfl
theorem exF_r {Q : A → Prop} : exF (.rt a) Q = Q a := by with_unfolding_all rfl
theorem exF_n {Q : A → Prop} : exF .nx Q = Q (.d .non) := by with_unfolding_all rfl
end

/-! ### the words -/
section
variable {V : Gv} {J : List Nat} {ρ : Ev} {a b c as : T} {i j l : Nat}
section
variable {Q : Fw → Ev → Prop} {E : X1 → Ev → Prop}
theorem wS_nil : Wp ((ev V J .nil).s ρ) Q E = Q .nx ρ := by with_unfolding_all rfl
theorem wS_cons : Wp ((ev V J (.cons a as)).s ρ) Q E = Wp ((ev V J a).s ρ) (fun r ρ1 => nxt r (Wp ((ev V J as).s ρ1) Q E) (Q r ρ1)) E := by
  show Wp (thenS ((ev V J a).s ρ) (ev V J as).s) Q E = _
  cases (ev V J a).s ρ with
  | ok r ρ1 => cases r <;> with_unfolding_all rfl
  | exc x ρ1 => with_unfolding_all rfl
  | bad => with_unfolding_all rfl
theorem wS_pass : Wp ((ev V J .pass).s ρ) Q E = Q .nx ρ := by with_unfolding_all rfl
theorem wS_brk : Wp ((ev V J .brk).s ρ) Q E = Q .bk ρ := by with_unfolding_all rfl
theorem wS_cont : Wp ((ev V J .cont).s ρ) Q E = Q .ct ρ := by with_unfolding_all rfl
theorem wS_ret : Wp ((ev V J (.ret a)).s ρ) Q E = Wp ((ev V J a).e ρ) (fun u ρ1 => Wp (giveU J u ρ1) Q E) E := Wp_bind
theorem wGive_v {a : A} : Wp (giveU J (.v a) ρ) Q E = Q (.rt a) ρ := by with_unfolding_all rfl
theorem wGive_s : Wp (giveU J (.s i) ρ) Q E = (J.contains i = false ∧ sl (get ρ i) fun a => Q (.rt a) (ρ.set i none)) := by
  simp only [giveU, get]
  by_cases h : i ∈ J
  · have h' : J.contains i = true := by simpa using h
    simp only [if_pos h, h']
    simp [Wp]
  · have h' : J.contains i = false := by simpa using h
    rw [if_neg h, h']
    rcases ρ[i]? with _ | _ | a <;> simp [Wp, sl]
theorem wS_set : Wp ((ev V J (.set i a)).s ρ) Q E = Wp ((ev V J a).e ρ) (fun u ρ1 => Wp (toA u ρ1) (fun a ρ2 => Q .nx (ρ2.set i (some a))) E) E := by
  show Wp (Out.bind _ _) Q E = _
  simp only [Wp_bind, Wp_ok]
theorem wS_setc : Wp ((ev V J (.setc i a)).s ρ) Q E = Wp ((ev V J a).e ρ) (fun u ρ1 => Wp (toA u ρ1) (fun a ρ2 => Q .nx (ρ2.set i (some a))) E) E := wS_set
theorem wS_drop : Wp ((ev V J (.drop a)).s ρ) Q E = Wp ((ev V J a).e ρ) (fun _ ρ1 => Q .nx ρ1) E := by
  show Wp (Out.bind _ _) Q E = _
  simp only [Wp_bind, Wp_ok]
theorem Wp_ite {α : Type} {k : Bool} {x y : Out α} {Q : α → Ev → Prop} : Wp (if k = true then x else y) Q E = br k (Wp x Q E) (Wp y Q E) := by cases k <;> with_unfolding_all rfl
theorem wS_ite : Wp ((ev V J (.ite c a b)).s ρ) Q E = Wp ((ev V J c).t ρ) (fun k ρ1 => br k (Wp ((ev V J a).s ρ1) Q E) (Wp ((ev V J b).s ρ1) Q E)) E := by
  show Wp (Out.bind _ _) Q E = _
  simp only [Wp_bind, Wp_ite]
theorem wS_for : Wp ((ev V J (.for_ a b c)).s ρ) Q E = Wp ((ev V J a).i ρ) (fun ds ρ1 => Wp (forL (ev V J b).g (ev V J c).s ds ρ1) Q E) E := by
  show Wp (Out.bind _ _) Q E = _
  simp only [Wp_bind]
theorem wS_while : Wp ((ev V J (.while_ c b)).s ρ) Q E = Wp (whileL (ev V J c).t (ev V J b).s FUEL ρ) Q E := by simp only [ev, Sm.ofS]
theorem wS_raise {c : Nat} : Wp ((ev V J (.raise c)).s ρ) Q E = E ⟨c, []⟩ ρ := by with_unfolding_all rfl
theorem wS_asg : Wp ((ev V J (.asg b a)).s ρ) Q E = Wp ((ev V J a).e ρ) (fun u ρ1 => Wp (frz u ρ1) (fun x ρ2 => gW (ev V J b).g x ρ2 fun ρ3 => Q .nx ρ3) E) E := by
  show Wp (Out.bind (Out.bind _ _) _) Q E = _
  simp only [Wp_bind]
  congr 1; funext u ρ1; congr 1; funext x ρ2
  simp only [gW]
  cases (ev V J b).g x ρ2 <;> with_unfolding_all rfl
theorem wS_par2 : Wp ((ev V J (.par2 i j a b)).s ρ) Q E = Wp ((ev V J a).e ρ) (fun u ρ1 => Wp ((ev V J b).e ρ1) (fun w ρ2 => Wp (toA u ρ2) (fun x ρ3 => Wp (toA w ρ3) (fun y ρ4 => Q .nx ((ρ4.set i (some x)).set j (some y))) E) E) E) E := by
  show Wp (Out.bind (Out.bind _ _) _) Q E = _
  simp only [Wp_bind, consA, nilA, Wp_ok, toAs]
theorem wS_par3 : Wp ((ev V J (.par3 i j l a b c)).s ρ) Q E = Wp ((ev V J a).e ρ) (fun u ρ1 => Wp ((ev V J b).e ρ1) (fun w ρ2 => Wp ((ev V J c).e ρ2) (fun v ρ3 => Wp (toA u ρ3) (fun x ρ4 => Wp (toA w ρ4) (fun y ρ5 => Wp (toA v ρ5) (fun z ρ6 => Q .nx (((ρ6.set i (some x)).set j (some y)).set l (some z))) E) E) E) E) E) E := by
  show Wp (Out.bind (Out.bind _ _) _) Q E = _
  simp only [Wp_bind, consA, nilA, Wp_ok, toAs]
theorem wS_setit : Wp ((ev V J (.setit i a b)).s ρ) Q E = Wp ((ev V J b).e ρ) (fun u ρ1 => Wp (frz u ρ1) (fun x ρ2 => sl (get ρ2 i) fun _ => Wp ((ev V J a).e ρ2) (fun w ρ3 => Wp (frz w ρ3) (fun y ρ4 => sl (get ρ4 i) fun z => wo (putQ z y x) fun z' => Q .nx (ρ4.set i (some z'))) E) E) E) E := by
  show Wp (Out.bind (Out.bind _ _) _) Q E = _
  simp only [Wp_bind]
  congr 1; funext u ρ1; congr 1; funext x ρ2
  simp only [get]
  rcases ρ2[i]? with _ | _ | z
  · with_unfolding_all rfl
  · with_unfolding_all rfl
  · simp only [sl, dE, Wp_bind]
    congr 1; funext w ρ3; congr 1; funext y ρ4
    rcases ρ4[i]? with _ | _ | z
    · with_unfolding_all rfl
    · with_unfolding_all rfl
    · simp only
      cases putQ z y x <;> with_unfolding_all rfl
theorem wS_try : Wp ((ev V J (.tryk i a)).s ρ) Q E = Wp ((ev V J a).e ρ) (fun u ρ1 => Wp (giveU J u ρ1) Q E) (fun x ρ1 => (x.fs.isEmpty = true ∧ i < ρ1.length) ∧ wo (V.res x.c) fun r => Q (.rt (.d (.str r))) ρ1) := by
  show Wp (tryS J i (ev V J a).e V.res ρ) Q E = _
  unfold tryS
  cases (ev V J a).e ρ with
  | ok u ρ1 => with_unfolding_all rfl
  | exc x ρ1 =>
    rw [Wp_exc]
    by_cases h : x.fs.isEmpty = true ∧ i < ρ1.length
    · simp only [if_pos h]
      cases V.res x.c with
      | none => exact (eq_of_iff ⟨fun z => (Wp_bad z).elim, fun z => z.2.elim⟩)
      | some r => simp only [Wp_ok, wo, h, and_self, true_and]
    · simp only [if_neg h]
      exact (eq_of_iff ⟨fun z => (Wp_bad z).elim, fun z => (h z.1).elim⟩)
  | bad => with_unfolding_all rfl
end
section
variable {Q : A → Ev → Prop} {E : X1 → Ev → Prop}
theorem wTo_v {a : A} : Wp (toA (.v a) ρ) Q E = Q a ρ := by with_unfolding_all rfl
theorem wFrz_s' {Q : D → Ev → Prop} : Wp (frz (.s i) ρ) Q E = sl (get ρ i) fun a => fl a fun x => Q x (ρ.set i (some (.d x))) := by
  simp only [frz, get]
  rcases ρ[i]? with _ | _ | a
  · with_unfolding_all rfl
  · with_unfolding_all rfl
  · cases a <;> with_unfolding_all rfl
theorem wTo_s : Wp (toA (.s i) ρ) Q E = sl (get ρ i) fun a => fl a fun x => Q (.d x) (ρ.set i (some (.d x))) := by
  show Wp (Out.bind _ _) Q E = _
  rw [Wp_bind, wFrz_s']
  with_unfolding_all rfl
theorem wFrz_v {a : A} {Q : D → Ev → Prop} : Wp (frz (.v a) ρ) Q E = fl a fun x => Q x ρ := by cases a <;> with_unfolding_all rfl
theorem wFrzs_n {Q : List D → Ev → Prop} : Wp (frzs [] ρ) Q E = Q [] ρ := by with_unfolding_all rfl
theorem wFrzs_c {u : U} {us : List U} {Q : List D → Ev → Prop} : Wp (frzs (u :: us) ρ) Q E = Wp (frz u ρ) (fun x ρ1 => Wp (frzs us ρ1) (fun xs ρ2 => Q (x :: xs) ρ2) E) E := by
  show Wp (Out.bind _ _) Q E = _
  simp only [Wp_bind, Wp_ok]
end
section
variable {Q : U → Ev → Prop} {E : X1 → Ev → Prop}
theorem vw_of {g : D → Out U} {u : U} : Wp (match viewU ρ u with | some x => g x | none => .bad) Q E = vw ρ u fun x => Wp (g x) Q E := by
  cases u with
  | v a => cases a <;> with_unfolding_all rfl
  | s i =>
    simp only [viewU, vw, get]
    rcases ρ[i]? with _ | _ | a
    · with_unfolding_all rfl
    · with_unfolding_all rfl
    · cases a <;> with_unfolding_all rfl
theorem vw_ofB {g : D → Out Bool} {Q : Bool → Ev → Prop} {u : U} : Wp (match viewU ρ u with | some x => g x | none => .bad) Q E = vw ρ u fun x => Wp (g x) Q E := by
  cases u with
  | v a => cases a <;> with_unfolding_all rfl
  | s i =>
    simp only [viewU, vw, get]
    rcases ρ[i]? with _ | _ | a
    · with_unfolding_all rfl
    · with_unfolding_all rfl
    · cases a <;> with_unfolding_all rfl
theorem wOutA {o : Option A} : Wp (outA o ρ) Q E = wo o fun a => Q (.v a) ρ := by cases o <;> with_unfolding_all rfl
theorem wOutB {o : Option Bool} {Q : Bool → Ev → Prop} : Wp (outB o ρ) Q E = wo o fun a => Q a ρ := by cases o <;> with_unfolding_all rfl
theorem wE_nm : Wp ((ev V J (.nm i)).e ρ) Q E = nmU (get ρ i) i fun u => Q u ρ := by
  show Wp (nmS i ρ) Q E = _
  simp only [nmS, get]
  rcases ρ[i]? with _ | _ | a
  · with_unfolding_all rfl
  · with_unfolding_all rfl
  · cases a <;> with_unfolding_all rfl
theorem wE_int {i : Int} : Wp ((ev V J (.int i)).e ρ) Q E = Q (.v (.d (.int i))) ρ := by with_unfolding_all rfl
theorem wE_bl {i : Bool} : Wp ((ev V J (.bl i)).e ρ) Q E = Q (.v (.d (.bl i))) ρ := by with_unfolding_all rfl
theorem wE_non : Wp ((ev V J .non).e ρ) Q E = Q (.v (.d .non)) ρ := by with_unfolding_all rfl
theorem wE_str {x : Str} : Wp ((ev V J (.str x)).e ρ) Q E = Q (.v (.d (.str x))) ρ := by with_unfolding_all rfl
theorem wE_gint {x : Str} {i : Int} : Wp ((ev V J (.gint x i)).e ρ) Q E = Q (.v (.d (.int i))) ρ := by with_unfolding_all rfl
theorem wE_tyN {x : String} : Wp ((ev V J (.tyN x)).e ρ) Q E = Q (.v (.d (.ty x))) ρ := by with_unfolding_all rfl
theorem wE_gcls {c : Nat} : Wp ((ev V J (.gcls c)).e ρ) Q E = Q (.v (.d (.cls c))) ρ := by with_unfolding_all rfl
theorem wE_gfn {c : Nat} : Wp ((ev V J (.gfn c)).e ρ) Q E = Q (.v (.d (.fn c))) ρ := by with_unfolding_all rfl
theorem wApp2 {g : D → D → Option A} {u w : U} : Wp (app2 g u w ρ) Q E = vw ρ u fun x => vw ρ w fun y => wo (g x y) fun z => Q (.v z) ρ := by
  refine (vw_of (u := u) (g := fun x => match viewU ρ w with | some y => outA (g x y) ρ | none => .bad)).trans ?_
  congr 1; funext x
  exact (vw_of (u := w) (g := fun y => outA (g x y) ρ)).trans (by congr 1; funext y; exact wOutA)
theorem wApp2B {g : D → D → Option Bool} {u w : U} {Q : Bool → Ev → Prop} : Wp (app2B g u w ρ) Q E = vw ρ u fun x => vw ρ w fun y => wo (g x y) fun z => Q z ρ := by
  refine (vw_ofB (u := u) (g := fun x => match viewU ρ w with | some y => outB (g x y) ρ | none => .bad)).trans ?_
  congr 1; funext x
  exact (vw_ofB (u := w) (g := fun y => outB (g x y) ρ)).trans (by congr 1; funext y; exact wOutB)
theorem wTru {u : U} {Q : Bool → Ev → Prop} : Wp (truS u ρ) Q E = vw ρ u fun x => wo (boolD x) fun k => Q k ρ :=
  (vw_ofB (u := u) (g := fun x => outB (boolD x) ρ)).trans (by congr 1; funext y; exact wOutB)
theorem wE_bin {op : Operator} : Wp ((ev V J (.bin op a b)).e ρ) Q E = Wp ((ev V J a).e ρ) (fun u ρ1 => Wp ((ev V J b).e ρ1) (fun w ρ2 => vw ρ2 u fun x => vw ρ2 w fun y => wo (binQ op x y) fun z => Q (.v z) ρ2) E) E := by
  show Wp (Out.bind _ _) Q E = _
  simp only [Wp_bind, wApp2]
theorem wE_neg : Wp ((ev V J (.neg a)).e ρ) Q E = Wp ((ev V J a).e ρ) (fun u ρ1 => Wp (negU u ρ1) Q E) E := Wp_bind
theorem wNeg {i : Int} : Wp (negU (.v (.d (.int i))) ρ) Q E = Q (.v (.d (.int (-i)))) ρ := by with_unfolding_all rfl
theorem wE_cmp {op : CmpOp} : Wp ((ev V J (.cmp op a b)).e ρ) Q E = Wp ((ev V J a).e ρ) (fun u ρ1 => Wp ((ev V J b).e ρ1) (fun w ρ2 => vw ρ2 u fun x => vw ρ2 w fun y => wo (cmpQ op x y) fun z => Q (.v (.d (.bl z))) ρ2) E) E := by
  show Wp (Out.bind (Out.bind _ _) _) Q E = _
  simp only [Wp_bind, wApp2B, bV, Wp_ok]
theorem wT_cmp {op : CmpOp} {Q : Bool → Ev → Prop} : Wp ((ev V J (.cmp op a b)).t ρ) Q E = Wp ((ev V J a).e ρ) (fun u ρ1 => Wp ((ev V J b).e ρ1) (fun w ρ2 => vw ρ2 u fun x => vw ρ2 w fun y => wo (cmpQ op x y) fun z => Q z ρ2) E) E := by
  show Wp (Out.bind _ _) Q E = _
  simp only [Wp_bind, wApp2B]
theorem wT_cmp3 {op op' : CmpOp} {Q : Bool → Ev → Prop} : Wp ((ev V J (.cmp3 op op' a b c)).t ρ) Q E = Wp ((ev V J a).e ρ) (fun u ρ1 => Wp (frz u ρ1) (fun x ρ2 => Wp ((ev V J b).e ρ2) (fun w ρ3 => Wp (frz w ρ3) (fun y ρ4 => wo (cmpQ op x y) fun k => br k (Wp ((ev V J c).e ρ4) (fun v ρ5 => Wp (frz v ρ5) (fun z ρ6 => wo (cmpQ op' y z) fun k => Q k ρ6) E) E) (Q false ρ4)) E) E) E) E := by
  show Wp (Out.bind (Out.bind _ _) _) Q E = _
  simp only [Wp_bind, dE, wOutB, Wp_ite, Wp_ok]
theorem wE_cmp3 {op op' : CmpOp} : Wp ((ev V J (.cmp3 op op' a b c)).e ρ) Q E = Wp ((ev V J (.cmp3 op op' a b c)).t ρ) (fun k ρ1 => Q (.v (.d (.bl k))) ρ1) E := by
  show Wp (Out.bind _ _) Q E = _
  simp only [Wp_bind, bV, Wp_ok]; with_unfolding_all rfl
theorem wT_and1 {Q : Bool → Ev → Prop} : Wp ((ev V J (.and1 a)).t ρ) Q E = Wp ((ev V J a).t ρ) Q E := by with_unfolding_all rfl
theorem wE_and1 : Wp ((ev V J (.and1 a)).e ρ) Q E = Wp ((ev V J a).e ρ) Q E := by with_unfolding_all rfl
theorem wT_or1 {Q : Bool → Ev → Prop} : Wp ((ev V J (.or1 a)).t ρ) Q E = Wp ((ev V J a).t ρ) Q E := by with_unfolding_all rfl
theorem wE_or1 : Wp ((ev V J (.or1 a)).e ρ) Q E = Wp ((ev V J a).e ρ) Q E := by with_unfolding_all rfl
theorem wT_and2 {Q : Bool → Ev → Prop} : Wp ((ev V J (.and2 a b)).t ρ) Q E = Wp ((ev V J a).t ρ) (fun k ρ1 => br k (Wp ((ev V J b).t ρ1) Q E) (Q false ρ1)) E := by
  show Wp (Out.bind _ _) Q E = _
  simp only [Wp_bind, Wp_ite, Wp_ok]
theorem wT_or2 {Q : Bool → Ev → Prop} : Wp ((ev V J (.or2 a b)).t ρ) Q E = Wp ((ev V J a).t ρ) (fun k ρ1 => br k (Q true ρ1) (Wp ((ev V J b).t ρ1) Q E)) E := by
  show Wp (Out.bind _ _) Q E = _
  simp only [Wp_bind, Wp_ite, Wp_ok]
theorem wT_not {Q : Bool → Ev → Prop} : Wp ((ev V J (.not a)).t ρ) Q E = Wp ((ev V J a).t ρ) (fun k ρ1 => Q (!k) ρ1) E := by
  show Wp (Out.bind _ _) Q E = _
  simp only [Wp_bind, Wp_ok]
def isTr (u : U) (k : Bool → Prop) : Prop := match u with
  | .v (.d (.bl b)) => k b
  | _ => False
theorem isTr_b {b : Bool} {k : Bool → Prop} : isTr (.v (.d (.bl b))) k = k b := by with_unfolding_all rfl
theorem wIsBl {u : U} {Q : Bool → Ev → Prop} : Wp (isBl u ρ) Q E = isTr u fun b => Q b ρ := by
  cases u with
  | s i => with_unfolding_all rfl
  | v z => cases z with
    | l x => with_unfolding_all rfl
    | m x => with_unfolding_all rfl
    | n _ _ => with_unfolding_all rfl
    | d x => cases x <;> with_unfolding_all rfl
theorem wE_and2 : Wp ((ev V J (.and2 a b)).e ρ) Q E = Wp ((ev V J a).e ρ) (fun u ρ1 => isTr u fun k => br k (Wp ((ev V J b).e ρ1) Q E) (Q (.v (.d (.bl false))) ρ1)) E := by
  show Wp (Out.bind _ _) Q E = _
  simp only [Wp_bind, wIsBl, Wp_ite, bV, Wp_ok]
theorem wE_or2 : Wp ((ev V J (.or2 a b)).e ρ) Q E = Wp ((ev V J a).e ρ) (fun u ρ1 => isTr u fun k => br k (Q (.v (.d (.bl true))) ρ1) (Wp ((ev V J b).e ρ1) Q E)) E := by
  show Wp (Out.bind _ _) Q E = _
  simp only [Wp_bind, wIsBl, Wp_ite, bV, Wp_ok]
theorem wE_not : Wp ((ev V J (.not a)).e ρ) Q E = Wp ((ev V J a).e ρ) (fun u ρ1 => isTr u fun k => Q (.v (.d (.bl (!k)))) ρ1) E := by
  show Wp (Out.bind _ _) Q E = _
  simp only [Wp_bind, wIsBl, bV, Wp_ok]
theorem wE_ifx : Wp ((ev V J (.ifx c a b)).e ρ) Q E = Wp ((ev V J c).t ρ) (fun k ρ1 => br k (Wp ((ev V J a).e ρ1) Q E) (Wp ((ev V J b).e ρ1) Q E)) E := by
  show Wp (Out.bind _ _) Q E = _
  simp only [Wp_bind, Wp_ite]
theorem wE_tup : Wp ((ev V J (.tup as)).e ρ) Q E = Wp ((ev V J as).a ρ) (fun us ρ1 => Wp (frzs us ρ1) (fun xs ρ2 => wo (tupV xs) fun z => Q (.v z) ρ2) E) E := by
  show Wp (Out.bind _ _) Q E = _
  simp only [Wp_bind, frzA, wOutA]
theorem wE_lst : Wp ((ev V J (.lst as)).e ρ) Q E = Wp ((ev V J as).a ρ) (fun us ρ1 => Wp (frzs us ρ1) (fun xs ρ2 => wo (lstV xs) fun z => Q (.v z) ρ2) E) E := by
  show Wp (Out.bind _ _) Q E = _
  simp only [Wp_bind, frzA, wOutA]
theorem wE_dnew : Wp ((ev V J .dnew).e ρ) Q E = Q (.v (.m [])) ρ := by with_unfolding_all rfl
theorem wE_ix : Wp ((ev V J (.ix a b)).e ρ) Q E = Wp ((ev V J a).e ρ) (fun u ρ1 => Wp ((ev V J b).e ρ1) (fun w ρ2 => vw ρ2 u fun x => vw ρ2 w fun y => wo (ixQ x y) fun z => Q (.v z) ρ2) E) E := by
  show Wp (Out.bind _ _) Q E = _
  simp only [Wp_bind, wApp2]
theorem wE_dget : Wp ((ev V J (.dget a b)).e ρ) Q E = Wp ((ev V J a).e ρ) (fun u ρ1 => Wp ((ev V J b).e ρ1) (fun w ρ2 => vw ρ2 u fun x => vw ρ2 w fun y => wo (dgetQ x y) fun z => Q (.v z) ρ2) E) E := by
  show Wp (Out.bind _ _) Q E = _
  simp only [Wp_bind, wApp2]
theorem wT_din {n : Bool} {Q : Bool → Ev → Prop} : Wp ((ev V J (.din n a b)).t ρ) Q E = Wp ((ev V J a).e ρ) (fun u ρ1 => Wp ((ev V J b).e ρ1) (fun w ρ2 => vw ρ2 u fun x => vw ρ2 w fun y => wo (dinQ (if n then (!·) else id) x y) fun z => Q z ρ2) E) E := by
  show Wp (Out.bind _ _) Q E = _
  simp only [Wp_bind, wApp2B]
theorem wE_din {n : Bool} : Wp ((ev V J (.din n a b)).e ρ) Q E = Wp ((ev V J (.din n a b)).t ρ) (fun k ρ1 => Q (.v (.d (.bl k))) ρ1) E := by
  show Wp (Out.bind _ _) Q E = _
  simp only [Wp_bind, bV, Wp_ok]; with_unfolding_all rfl
def pW (f : Option SemE) (ρ : Ev) (Q : Option Int → Ev → Prop) (E : X1 → Ev → Prop) : Prop := Wp (partS f ρ) Q E
theorem wE_sl : Wp ((ev V J (.sl a b c)).e ρ) Q E = Wp ((ev V J a).e ρ) (fun u ρ1 => pW (ev V J b).o ρ1 (fun l ρ2 => pW (ev V J c).o ρ2 (fun h ρ3 => vw ρ3 u fun x => wo (sliceQ x l h) fun z => Q (.v z) ρ3) E) E) E := by
  show Wp (Out.bind _ _) Q E = _
  simp only [Wp_bind, pW]
  congr 1; funext u ρ1; congr 1; funext l ρ2; congr 1; funext h ρ3
  exact (vw_of (u := u) (g := fun x => outA (sliceQ x l h) ρ3)).trans (by congr 1; funext y; exact wOutA)
def ioW (u : U) (k : Option Int → Prop) : Prop := match u with
  | .v (.d (.int i)) => k (some i)
  | _ => False
theorem ioW_i {i : Int} {k : Option Int → Prop} : ioW (.v (.d (.int i))) k = k (some i) := by with_unfolding_all rfl
theorem pW_n {Q : Option Int → Ev → Prop} : pW (ev V J .nil).o ρ Q E = Q none ρ := by with_unfolding_all rfl
theorem pW_c {Q : Option Int → Ev → Prop} : pW (ev V J (.cons a as)).o ρ Q E = Wp ((ev V J a).e ρ) (fun u ρ1 => ioW u fun i => Q i ρ1) E := by
  show Wp (Out.bind _ _) Q E = _
  rw [Wp_bind]
  congr 1; funext u ρ1
  cases u with
  | s i => with_unfolding_all rfl
  | v a => cases a with
    | d x => cases x <;> with_unfolding_all rfl
    | l x => with_unfolding_all rfl
    | m x => with_unfolding_all rfl
    | n _ _ => with_unfolding_all rfl
theorem wE_slp {d : T} : Wp ((ev V J (.slp a b c d)).e ρ) Q E = Wp ((ev V J a).e ρ) (fun u ρ1 => pW (ev V J b).o ρ1 (fun l ρ2 => pW (ev V J c).o ρ2 (fun h ρ3 => pW (some (ev V J d).e) ρ3 (fun st ρ4 => Wp (stepU u l h st ρ4) Q E) E) E) E) E := by
  show Wp (Out.bind _ _) Q E = _
  simp only [Wp_bind, pW]
theorem wE_prim {f : Pr} : Wp ((ev V J (.prim f as)).e ρ) Q E = Wp ((ev V J as).a ρ) (fun us ρ1 => vws ρ1 us fun xs => wo (f.sem V.sub xs) fun z => Q (.v z) ρ1) E := by
  show Wp (Out.bind _ _) Q E = _
  rw [Wp_bind]
  congr 1; funext us ρ1
  suffices h : ∀ (us : List U) (g : List D → Option A), Wp (appS g us ρ1) Q E = vws ρ1 us fun xs => wo (g xs) fun z => Q (.v z) ρ1 from h us _
  intro us
  induction us with
  | nil => intro g; simp only [appS, views, wOutA, vws]
  | cons u us ih =>
    intro g
    have := ih fun xs => g xs
    simp only [appS, views, vws]
    have key : ∀ x, Wp (match (match views ρ1 us with | some xs => some (x :: xs) | none => none) with | some xs => outA (g xs) ρ1 | none => .bad) Q E = vws ρ1 us fun xs => wo (g (x :: xs)) fun z => Q (.v z) ρ1 := fun x => by
      rw [← ih fun xs => g (x :: xs)]
      simp only [appS]
      cases views ρ1 us <;> with_unfolding_all rfl
    simp only [← key]
    rw [← vw_of]
    cases viewU ρ1 u <;> with_unfolding_all rfl
theorem wE_sortSet : Wp ((ev V J (.sortSet a)).e ρ) Q E = Wp ((ev V J a).e ρ) (fun u ρ1 => vw ρ1 u fun x => wo ((seqOf x).bind setL) fun out => Q (.v (.l out)) ρ1) E := by
  show Wp (Out.bind _ _) Q E = _
  simp only [Wp_bind]
  congr 1; funext u ρ1
  refine (vw_of (u := u) (g := fun d => match (seqOf d).bind setL with | some out => .ok (.v (.l out)) ρ1 | none => .bad)).trans ?_
  congr 1; funext x
  cases (seqOf x).bind setL <;> with_unfolding_all rfl
theorem wE_lenSet : Wp ((ev V J (.lenSet a)).e ρ) Q E = Wp ((ev V J a).e ρ) (fun u ρ1 => vw ρ1 u fun x => wo ((seqOf x).bind toIs) fun ns => ns.length ≤ 4000 ∧ Q (.v (.d (.int (usort ltI ns).length))) ρ1) E := by
  show Wp (Out.bind _ _) Q E = _
  simp only [Wp_bind]
  congr 1; funext u ρ1
  refine (vw_of (u := u) (g := fun d => match (seqOf d).bind toIs with | some ns => (if ns.length ≤ 4000 then .ok (.v (.d (.int (usort ltI ns).length))) ρ1 else .bad) | none => .bad)).trans ?_
  congr 1; funext x
  cases (seqOf x).bind toIs with
  | none => with_unfolding_all rfl
  | some ns =>
    simp only [wo]
    split
    · rename_i h; simp [h, Wp]
    · rename_i h; simp [h, Wp]
theorem wE_mmd {mx : Bool} {k : Option Int} : Wp ((ev V J (.mmd mx k a)).e ρ) Q E = Wp ((ev V J a).e ρ) (fun u ρ1 => vw ρ1 u fun x => wo (mmdD mx (kOpt k) x) fun z => Q (.v z) ρ1) E := by
  show Wp (Out.bind _ _) Q E = _
  simp only [Wp_bind]
  congr 1; funext u ρ1
  exact (vw_of (u := u) (g := fun d => outA (mmdD mx (kOpt k) d) ρ1)).trans (by congr 1; funext y; exact wOutA)
/-! conditions that are no comparison -/
def tW (u : U) (ρ : Ev) (k : Bool → Prop) : Prop := vw ρ u fun x => wo (boolD x) k
theorem wT_val (m : Sm) (h : m.t = valT m.e) {Q : Bool → Ev → Prop} : Wp (m.t ρ) Q E = Wp (m.e ρ) (fun u ρ1 => vw ρ1 u fun x => wo (boolD x) fun k => Q k ρ1) E := by
  rw [h]
  show Wp (Out.bind _ _) Q E = _
  simp only [Wp_bind, wTru]
theorem wT_nm {Q : Bool → Ev → Prop} : Wp ((ev V J (.nm i)).t ρ) Q E = Wp ((ev V J (.nm i)).e ρ) (fun u ρ1 => vw ρ1 u fun x => wo (boolD x) fun k => Q k ρ1) E := wT_val _ rfl
theorem wT_bl {i : Bool} {Q : Bool → Ev → Prop} : Wp ((ev V J (.bl i)).t ρ) Q E = Wp ((ev V J (.bl i)).e ρ) (fun u ρ1 => vw ρ1 u fun x => wo (boolD x) fun k => Q k ρ1) E := wT_val _ rfl
theorem wT_call {f : Nat} {Q : Bool → Ev → Prop} : Wp ((ev V J (.call f as)).t ρ) Q E = Wp ((ev V J (.call f as)).e ρ) (fun u ρ1 => vw ρ1 u fun x => wo (boolD x) fun k => Q k ρ1) E := wT_val _ rfl
theorem wT_callX {ns : List Nat} {Q : Bool → Ev → Prop} : Wp ((ev V J (.callX ns a as)).t ρ) Q E = Wp ((ev V J (.callX ns a as)).e ρ) (fun u ρ1 => vw ρ1 u fun x => wo (boolD x) fun k => Q k ρ1) E := wT_val _ rfl
theorem wT_prim {f : Pr} {Q : Bool → Ev → Prop} : Wp ((ev V J (.prim f as)).t ρ) Q E = Wp ((ev V J (.prim f as)).e ρ) (fun u ρ1 => vw ρ1 u fun x => wo (boolD x) fun k => Q k ρ1) E := wT_val _ rfl
theorem wT_bin {op : Operator} {Q : Bool → Ev → Prop} : Wp ((ev V J (.bin op a b)).t ρ) Q E = Wp ((ev V J (.bin op a b)).e ρ) (fun u ρ1 => vw ρ1 u fun x => wo (boolD x) fun k => Q k ρ1) E := wT_val _ rfl
theorem wT_ix {Q : Bool → Ev → Prop} : Wp ((ev V J (.ix a b)).t ρ) Q E = Wp ((ev V J (.ix a b)).e ρ) (fun u ρ1 => vw ρ1 u fun x => wo (boolD x) fun k => Q k ρ1) E := wT_val _ rfl
/-! arguments -/
theorem wA_n {Q : List U → Ev → Prop} : Wp ((ev V J .nil).a ρ) Q E = Q [] ρ := by with_unfolding_all rfl
theorem wA_c {Q : List U → Ev → Prop} : Wp ((ev V J (.cons a as)).a ρ) Q E = Wp ((ev V J a).e ρ) (fun u ρ1 => Wp ((ev V J as).a ρ1) (fun us ρ2 => Q (u :: us) ρ2) E) E := by
  show Wp (Out.bind _ _) Q E = _
  simp only [Wp_bind, Wp_ok]
/-! calls -/
theorem wE_call {f : Nat} : Wp ((ev V J (.call f as)).e ρ) Q E = Wp ((ev V J as).a ρ) (fun us ρ1 => Wp (callU (V.J f) (V.call f) us ρ1) Q E) E := Wp_bind
theorem argsJ_n : ∀ (us : List U) (k : Nat) (ρ : Ev), argsJ [] k us ρ = (frzs us ρ).bind fun xs ρ1 => .ok (xs.map .x) ρ1
  | [], _, _ => (by with_unfolding_all rfl)
  | u :: us, k, ρ => by
    simp only [argsJ, frzs]
    rw [if_neg (by simp)]
    simp only [argsJ_n us]
    cases frz u ρ with
    | ok x ρ1 =>
      simp only [Out.bind]
      cases frzs us ρ1 <;> with_unfolding_all rfl
    | exc _ _ => with_unfolding_all rfl
    | bad => with_unfolding_all rfl
theorem argsJ_0 : ∀ (us : List U) (k : Nat) (ρ : Ev), argsJ [0] (k + 1) us ρ = (frzs us ρ).bind fun xs ρ1 => .ok (xs.map .x) ρ1
  | [], _, _ => (by with_unfolding_all rfl)
  | u :: us, k, ρ => by
    simp only [argsJ, frzs]
    rw [if_neg (by simp)]
    simp only [argsJ_0 us]
    cases frz u ρ with
    | ok x ρ1 =>
      simp only [Out.bind]
      cases frzs us ρ1 <;> with_unfolding_all rfl
    | exc _ _ => with_unfolding_all rfl
    | bad => with_unfolding_all rfl
theorem lent_x : ∀ xs : List D, lentJ (xs.map .x) = []
  | [] => (by with_unfolding_all rfl)
  | x :: xs => by simp only [List.map_cons, lentJ, lent_x xs]
theorem pick_x (ρ : Ev) : ∀ xs : List D, pickJ ρ (xs.map .x) = some (xs.map .d)
  | [] => (by with_unfolding_all rfl)
  | x :: xs => by simp only [List.map_cons, pickJ, pick_x ρ xs]
theorem back_x (ρ : Ev) : ∀ (xs : List D) (ws : List (Option A)), backJ (xs.map .x) ws ρ = ρ
  | [], ws => by cases ws <;> with_unfolding_all rfl
  | x :: xs, [] => (by with_unfolding_all rfl)
  | x :: xs, w :: ws => by simp only [List.map_cons, backJ, back_x ρ xs ws]
theorem wCall_n {sem : SemF} {us : List U} : Wp (callU [] sem us ρ) Q E = Wp (frzs us ρ) (fun xs ρ1 => WF (sem (xs.map .d)) (fun z _ => Q (.v z) ρ1) (fun x _ => E x ρ1)) E := by
  simp only [callU, argsJ_n, Wp_bind, Wp_ok]
  congr 1; funext xs ρ1
  rw [lent_x, if_pos List.nodup_nil, pick_x]
  simp only
  cases sem (xs.map .d) with
  | ok a ws => simp only [outF, Wp, WF, back_x]
  | exc a ws => simp only [outF, Wp, WF, back_x]
  | bad => with_unfolding_all rfl
def hd (ws : List (Option A)) (ρ : Ev) (i : Nat) : Ev := match ws with
  | w :: _ => ρ.set i w
  | [] => ρ
theorem hd_c {w : Option A} {ws : List (Option A)} : hd (w :: ws) ρ i = ρ.set i w := by with_unfolding_all rfl
theorem wCall_0 {sem : SemF} {us : List U} : Wp (callU [0] sem (.s i :: us) ρ) Q E = Wp (frzs us ρ) (fun xs ρ1 => sl (get ρ1 i) fun p => WF (sem (p :: xs.map .d)) (fun z ws => Q (.v z) (hd ws ρ1 i)) (fun x ws => E x (hd ws ρ1 i))) E := by
  simp only [callU, argsJ]
  rw [if_pos (by simp)]
  simp only [argsJ_0, Wp_bind, Wp_ok]
  congr 1; funext xs ρ1
  simp only [lentJ, lent_x, pickJ, pick_x]
  rw [if_pos (by simp)]
  simp only [get]
  rcases ρ1[i]? with _ | _ | p
  · with_unfolding_all rfl
  · with_unfolding_all rfl
  · simp only [sl]
    cases sem (p :: xs.map .d) with
    | ok a ws => cases ws <;> simp only [outF, Wp, WF, backJ, back_x, hd]
    | exc a ws => cases ws <;> simp only [outF, Wp, WF, backJ, back_x, hd]
    | bad => with_unfolding_all rfl
def fnW (u : U) (k : Nat → Prop) : Prop := match u with
  | .v (.d (.fn i)) => k i
  | _ => False
theorem fnW_f {k : Nat → Prop} : fnW (.v (.d (.fn i))) k = k i := by with_unfolding_all rfl
theorem wE_callX {ns : List Nat} : Wp ((ev V J (.callX ns a as)).e ρ) Q E = Wp ((ev V J a).e ρ) (fun u ρ1 => fnW u fun f => ns.contains f = true ∧ Wp ((ev V J as).a ρ1) (fun us ρ2 => Wp (callU (V.J f) (V.call f) us ρ2) Q E) E) E := by
  show Wp (Out.bind _ _) Q E = _
  rw [Wp_bind]
  congr 1; funext u ρ1
  cases u with
  | s i => with_unfolding_all rfl
  | v z => cases z with
    | l x => with_unfolding_all rfl
    | m x => with_unfolding_all rfl
    | n _ _ => with_unfolding_all rfl
    | d x => cases x with
      | fn f =>
        show Wp (if ns.contains f = true then _ else _) Q E = (ns.contains f = true ∧ _)
        by_cases h : ns.contains f = true
        · rw [if_pos h, Wp_bind]; exact (eq_of_iff ⟨fun z => ⟨h, z⟩, fun z => z.2⟩)
        · rw [if_neg h]; exact (eq_of_iff ⟨fun z => (Wp_bad z).elim, fun z => (h z.1).elim⟩)
      | _ => with_unfolding_all rfl
def mmW (a : Option A) (k : List (D × D) → Prop) : Prop := match a with
  | some (.m kvs) => k kvs
  | _ => False
theorem mmW_m {kvs : List (D × D)} {k : List (D × D) → Prop} : mmW (some (.m kvs)) k = k kvs := rfl
def mW (u : U) (ρ : Ev) (k : List (D × D) → Prop) : Prop := match u with
  | .v a => mmW (some a) k
  | .s i => mmW (get ρ i) k
theorem mW_v {a : A} {k : List (D × D) → Prop} : mW (.v a) ρ k = mmW (some a) k := rfl
theorem mW_s {k : List (D × D) → Prop} : mW (.s i) ρ k = mmW (get ρ i) k := rfl
theorem wE_sitems : Wp ((ev V J (.sitems a)).e ρ) Q E = Wp ((ev V J a).e ρ) (fun u ρ1 => mW u ρ1 fun kvs => okSort (itemsD kvs) = true ∧ Q (.v (.l (sortD (itemsD kvs)))) ρ1) E := by
  show Wp (Out.bind _ _) Q E = _
  rw [Wp_bind]
  congr 1; funext u ρ1
  have key : ∀ kvs, Wp (if okSort (itemsD kvs) = true then .ok (.v (.l (sortD (itemsD kvs)))) ρ1 else .bad) Q E = (okSort (itemsD kvs) = true ∧ Q (.v (.l (sortD (itemsD kvs)))) ρ1) := fun kvs => by
    by_cases h : okSort (itemsD kvs) = true
    · rw [if_pos h]; exact (eq_of_iff ⟨fun z => ⟨h, z⟩, fun z => z.2⟩)
    · rw [if_neg h]; exact (eq_of_iff ⟨fun z => z.elim, fun z => h z.1⟩)
  cases u with
  | v a => cases a with
    | d x => with_unfolding_all rfl
    | l x => with_unfolding_all rfl
    | m kvs => exact key kvs
    | n _ _ => with_unfolding_all rfl
  | s i =>
    simp only [ownM, mW, get]
    rcases ρ1[i]? with _ | _ | z
    · with_unfolding_all rfl
    · with_unfolding_all rfl
    · cases z with
      | d x => with_unfolding_all rfl
      | l x => with_unfolding_all rfl
      | m kvs => exact key kvs
      | n _ _ => with_unfolding_all rfl
def atW (a : A) (k : D → Prop) : Prop := match a with
  | .d x => atomD x = true ∧ k x
  | _ => False
theorem atW_d {x : D} {k : D → Prop} : atW (.d x) k = (atomD x = true ∧ k x) := rfl
theorem wE_callB {f : Nat} : Wp ((ev V J (.callB f as)).e ρ) Q E = Wp ((ev V J as).a ρ) (fun us ρ1 => vws ρ1 us fun xs => WF (V.call f (xs.map .d)) (fun z _ => atW z fun x => Q (.v (.d x)) ρ1) no) E := by
  show Wp (Out.bind _ _) Q E = _
  rw [Wp_bind]
  congr 1; funext us ρ1
  have key : ∀ o : OutF, Wp (outB1 o ρ1) Q E = WF o (fun z _ => atW z fun x => Q (.v (.d x)) ρ1) no := fun o => by
    cases o with
    | ok a ws => cases a with
      | d x =>
        show Wp (if atomD x = true then _ else _) Q E = (atomD x = true ∧ Q (.v (.d x)) ρ1)
        by_cases h : atomD x = true
        · rw [if_pos h]; exact (eq_of_iff ⟨fun z => ⟨h, z⟩, fun z => z.2⟩)
        · rw [if_neg h]; exact (eq_of_iff ⟨fun z => z.elim, fun z => h z.1⟩)
      | l _ => with_unfolding_all rfl
      | m _ => with_unfolding_all rfl
      | n _ _ => with_unfolding_all rfl
    | exc x ws => with_unfolding_all rfl
    | bad => with_unfolding_all rfl
  suffices h : ∀ (us : List U) (g : List D → OutF), Wp (match views ρ1 us with | some xs => outB1 (g xs) ρ1 | none => .bad) Q E = vws ρ1 us fun xs => WF (g xs) (fun z _ => atW z fun x => Q (.v (.d x)) ρ1) no from h us fun xs => V.call f (xs.map .d)
  intro us
  induction us with
  | nil => intro g; exact key _
  | cons u us ih =>
    intro g
    refine Eq.trans ?_ ((vw_of (ρ := ρ1) (Q := Q) (E := E) (u := u) (g := fun y => match views ρ1 us with | some xs => outB1 (g (y :: xs)) ρ1 | none => .bad)).trans ?_)
    · simp only [views]
      cases viewU ρ1 u with
      | none => rfl
      | some y => cases views ρ1 us <;> rfl
    · show _ = vw ρ1 u fun y => vws ρ1 us fun xs => WF (g (y :: xs)) (fun z _ => atW z fun x => Q (.v (.d x)) ρ1) no
      congr 1; funext y
      exact ih fun xs => g (y :: xs)
/-! methods -/
theorem wE_meth {m : Mt} : Wp ((ev V J (.meth m a as)).e ρ) Q E = Wp ((ev V J a).e ρ) (fun u ρ1 => vw ρ1 u fun x => tyOk m.T x = true ∧ Wp ((ev V J as).a ρ1) (fun us ρ2 => vw ρ2 u fun x => vws ρ2 us fun xs => tyOk m.T x = true ∧ wo (m.sem x xs) fun z => Q (.v z) ρ2) E) E := by
  show Wp (Out.bind _ _) Q E = _
  rw [Wp_bind]
  congr 1; funext u ρ1
  refine (vw_of (u := u) (g := fun x => if tyOk m.T x = true then ((ev V J as).a ρ1).bind fun us ρ2 => methQ m.T m.sem u us ρ2 else .bad)).trans ?_
  congr 1; funext x
  by_cases h : tyOk m.T x = true
  · rw [if_pos h, Wp_bind]
    refine Eq.trans ?_ (eq_of_iff ⟨fun z => ⟨h, z⟩, fun z => z.2⟩ : Wp ((ev V J as).a ρ1) (fun us ρ2 => vw ρ2 u fun x => vws ρ2 us fun xs => tyOk m.T x = true ∧ wo (m.sem x xs) fun z => Q (.v z) ρ2) E = _)
    congr 1; funext us ρ2
    clear h
    refine (vw_of (u := u) (g := fun x => match views ρ2 us with | some xs => (if tyOk m.T x = true then outA (m.sem x xs) ρ2 else .bad) | none => .bad)).trans ?_
    congr 1; funext x
    suffices h : ∀ (us : List U) (g : List D → Option A), Wp (match views ρ2 us with | some xs => (if tyOk m.T x = true then outA (g xs) ρ2 else .bad) | none => .bad) Q E = vws ρ2 us fun xs => tyOk m.T x = true ∧ wo (g xs) fun z => Q (.v z) ρ2 from h us _
    intro us
    induction us with
    | nil =>
      intro g
      show Wp (if tyOk m.T x = true then outA (g []) ρ2 else .bad) Q E = (tyOk m.T x = true ∧ wo (g []) fun z => Q (.v z) ρ2)
      by_cases h : tyOk m.T x = true
      · rw [if_pos h, wOutA]; exact (eq_of_iff ⟨fun z => ⟨h, z⟩, fun z => z.2⟩)
      · rw [if_neg h]; exact (eq_of_iff ⟨fun z => (Wp_bad z).elim, fun z => (h z.1).elim⟩)
    | cons u us ih =>
      intro g
      refine Eq.trans ?_ ((vw_of (ρ := ρ2) (Q := Q) (E := E) (u := u) (g := fun y => match views ρ2 us with | some xs => (if tyOk m.T x = true then outA (g (y :: xs)) ρ2 else .bad) | none => .bad)).trans ?_)
      · simp only [views]
        cases viewU ρ2 u with
        | none => with_unfolding_all rfl
        | some y => cases views ρ2 us <;> with_unfolding_all rfl
      · show _ = vw ρ2 u fun y => vws ρ2 us fun xs => tyOk m.T x = true ∧ wo (g (y :: xs)) fun z => Q (.v z) ρ2
        congr 1; funext y
        exact ih fun xs => g (y :: xs)
  · rw [if_neg h]; exact (eq_of_iff ⟨fun z => (Wp_bad z).elim, fun z => (h z.1).elim⟩)
def oT (T : String) (u : U) (ρ : Ev) (k : Nat → A → Prop) : Prop := match u with
  | .s i => sl (get ρ i) fun a => (match a with | .l _ => T == "list" | .m _ => T == "dict" | _ => false) = true ∧ k i a
  | _ => False
theorem oT_s {T : String} {k : Nat → A → Prop} : oT T (.s i) ρ k = sl (get ρ i) fun a => (match a with | .l _ => T == "list" | .m _ => T == "dict" | _ => false) = true ∧ k i a := by with_unfolding_all rfl
theorem wOwn {T : String} {i : Nat} {o : Out U} : Wp (if ownT T (.s i) ρ = true then o else .bad) Q E = oT T (.s i) ρ fun _ _ => Wp o Q E := by
  by_cases hb : ownT T (.s i) ρ = true
  · rw [if_pos hb]
    simp only [oT, get]
    revert hb
    simp only [ownT]
    rcases ρ[i]? with _ | _ | a
    · exact fun h => absurd h Bool.false_ne_true
    · exact fun h => absurd h Bool.false_ne_true
    · cases a with
      | d x => exact fun h => absurd h Bool.false_ne_true
      | l xs => exact fun h => (eq_of_iff ⟨fun z => ⟨h, z⟩, fun z => z.2⟩)
      | m xs => exact fun h => (eq_of_iff ⟨fun z => ⟨h, z⟩, fun z => z.2⟩)
      | n _ _ => exact fun h => absurd h Bool.false_ne_true
  · rw [if_neg hb]
    simp only [oT, get]
    revert hb
    simp only [ownT]
    rcases ρ[i]? with _ | _ | a
    · intro _; with_unfolding_all rfl
    · intro _; with_unfolding_all rfl
    · cases a with
      | d x => exact fun _ => (eq_of_iff ⟨fun z => (Wp_bad z).elim, fun z => absurd z.1 Bool.false_ne_true⟩)
      | l xs => exact fun h => (eq_of_iff ⟨fun z => (Wp_bad z).elim, fun z => (h z.1).elim⟩)
      | m xs => exact fun h => (eq_of_iff ⟨fun z => (Wp_bad z).elim, fun z => (h z.1).elim⟩)
      | n _ _ => exact fun _ => (eq_of_iff ⟨fun z => (Wp_bad z).elim, fun z => absurd z.1 Bool.false_ne_true⟩)
theorem wE_mut {m : Mu} : Wp ((ev V J (.mut m a as)).e ρ) Q E = Wp ((ev V J a).e ρ) (fun u ρ1 => oT m.T u ρ1 fun i _ => Wp ((if m.bare then nilA else (ev V J as).a) ρ1) (fun us ρ2 => Wp (frzs us ρ2) (fun xs ρ3 => sl (get ρ3 i) fun z => wo (m.sem z xs) fun r => Q (.v (.d r.1)) (ρ3.set i (some r.2))) E) E) E := by
  show Wp (Out.bind _ _) Q E = _
  rw [Wp_bind]
  congr 1; funext u ρ1
  cases u with
  | v a => with_unfolding_all rfl
  | s i =>
    refine wOwn.trans ?_
    simp only [oT]
    congr 1; funext z
    congr 1
    rw [Wp_bind]
    congr 1; funext us ρ2
    rw [Wp_bind]
    congr 1; funext xs ρ3
    simp only [mutQ, get]
    rcases ρ3[i]? with _ | _ | z
    · with_unfolding_all rfl
    · with_unfolding_all rfl
    · simp only [sl]
      cases m.sem z xs <;> with_unfolding_all rfl
def dctW (x : D) (k : List D → List D → Prop) : Prop := match x with
  | .dct ks ds => ks.length = ds.length ∧ k ks ds
  | _ => False
theorem dctW_d {ks ds : List D} {k : List D → List D → Prop} : dctW (.dct ks ds) k = (ks.length = ds.length ∧ k ks ds) := by with_unfolding_all rfl
theorem wE_dget2 {d : T} : Wp ((ev V J (.dget2 d a b)).e ρ) Q E = Wp ((ev V J d).e ρ) (fun u ρ1 => vw ρ1 u fun x => dctW x fun _ _ => Wp ((ev V J a).e ρ1) (fun u2 ρ2 => Wp (frz u2 ρ2) (fun y ρ3 => Wp ((ev V J b).e ρ3) (fun u3 ρ4 => Wp (frz u3 ρ4) (fun z ρ5 => vw ρ5 u fun x => dctW x fun ks ds => wo (keyOf y) fun k => Q (.v (.d ((lookD (ks.zip ds) k).getD z))) ρ5) E) E) E) E) E := by
  show Wp (Out.bind _ _) Q E = _
  rw [Wp_bind]
  congr 1; funext u ρ1
  refine Eq.trans ?_ ((vw_of (ρ := ρ1) (Q := Q) (E := E) (u := u) (g := fun x => match x with
    | .dct ks ds => (if ks.length = ds.length then (dE (ev V J a).e ρ1).bind fun y ρ2 => (dE (ev V J b).e ρ2).bind fun z ρ3 => (match viewU ρ3 u with
      | some (.dct ks ds) => (if ks.length = ds.length then (match keyOf y with
        | some k => .ok (.v (.d ((lookD (ks.zip ds) k).getD z))) ρ3
        | none => .bad) else .bad)
      | _ => .bad) else .bad)
    | _ => .bad)).trans ?_)
  · cases viewU ρ1 u with
    | none => with_unfolding_all rfl
    | some x => cases x <;> with_unfolding_all rfl
  congr 1; funext x
  cases x with
  | dct ks ds =>
    show Wp (if ks.length = ds.length then _ else _) Q E = (ks.length = ds.length ∧ _)
    by_cases h : ks.length = ds.length
    · rw [if_pos h]
      refine Eq.trans ?_ (eq_of_iff ⟨fun z => ⟨h, z⟩, fun z => z.2⟩)
      simp only [dE, Wp_bind]
      congr 1; funext u2 ρ2; congr 1; funext y ρ3; congr 1; funext u3 ρ4; congr 1; funext z ρ5
      refine Eq.trans ?_ ((vw_of (ρ := ρ5) (Q := Q) (E := E) (u := u) (g := fun x => match x with
        | .dct ks ds => (if ks.length = ds.length then (match keyOf y with
          | some k => .ok (.v (.d ((lookD (ks.zip ds) k).getD z))) ρ5
          | none => .bad) else .bad)
        | _ => .bad)).trans ?_)
      · cases viewU ρ5 u with
        | none => with_unfolding_all rfl
        | some x => cases x <;> with_unfolding_all rfl
      congr 1; funext x
      cases x with
      | dct ks ds =>
        show Wp (if ks.length = ds.length then _ else _) Q E = (ks.length = ds.length ∧ _)
        by_cases h : ks.length = ds.length
        · rw [if_pos h]
          refine Eq.trans ?_ (eq_of_iff ⟨fun z => ⟨h, z⟩, fun z => z.2⟩)
          cases keyOf y <;> with_unfolding_all rfl
        · rw [if_neg h]; exact (eq_of_iff ⟨fun z => (Wp_bad z).elim, fun z => (h z.1).elim⟩)
      | _ => with_unfolding_all rfl
    · rw [if_neg h]; exact (eq_of_iff ⟨fun z => (Wp_bad z).elim, fun z => (h z.1).elim⟩)
  | _ => with_unfolding_all rfl
/-! what is gone through -/
theorem wE_comp {own : List (Str × Nat)} : Wp ((ev V J (.comp own a b c as)).e ρ) Q E = Wp ((ev V J a).i ρ) (fun ds ρ1 => ds.length ≤ 16777216 ∧ Wp (compL (ev V J b).g (ev V J c).f (ev V J as).e (own.map (·.2)) ds (wipeE ρ1 (own.map (·.2)))) (fun ys ρ2 => Q (.v (.l ys)) ρ2) E) E := by
  show Wp (Out.bind (Out.bind _ _) _) Q E = _
  simp only [Wp_bind]
  congr 1; funext ds ρ1
  split
  · rename_i h; simp only [h, true_and, Wp_bind, Wp_ok]
  · rename_i h; simp only [h, false_and, Wp]
end
section
variable {Q : List D → Ev → Prop} {E : X1 → Ev → Prop}
def sqW (x : D) (k : List D → Prop) : Prop := match x with
  | .lst ds => k ds
  | .tup ds => k ds
  | .scr ns => k (ns.map .int)
  | _ => False
theorem sqW_l {ds : List D} {k : List D → Prop} : sqW (.lst ds) k = k ds := by with_unfolding_all rfl
theorem sqW_t {ds : List D} {k : List D → Prop} : sqW (.tup ds) k = k ds := by with_unfolding_all rfl
theorem sqW_s {ds : List Int} {k : List D → Prop} : sqW (.scr ds) k = k (ds.map .int) := by with_unfolding_all rfl
theorem wI_seq : Wp ((ev V J (.iseq a)).i ρ) Q E = Wp ((ev V J a).e ρ) (fun u ρ1 => Wp (frz u ρ1) (fun x ρ2 => sqW x fun ds => Q ds ρ2) E) E := by
  show Wp (Out.bind (Out.bind _ _) _) Q E = _
  simp only [Wp_bind]
  congr 1; funext u ρ1; congr 1; funext x ρ2
  cases x <;> with_unfolding_all rfl
/-- numbers -/
def iD (lo : Int) (i : Nat) : D := .int (lo + i)
def inW (u : U) (k : Int → Prop) : Prop := match u with
  | .v (.d (.int i)) => k i
  | _ => False
theorem inW_i {i : Int} {k : Int → Prop} : inW (.v (.d (.int i))) k = k i := by with_unfolding_all rfl
theorem rangeIf {α : Type} {c : Prop} [Decidable c] {x : α} {Q : α → Ev → Prop} : Wp (if c then .ok x ρ else .bad) Q E = (c ∧ Q x ρ) := by
  by_cases h : c
  · rw [if_pos h, Wp_ok]; exact (eq_of_iff ⟨fun z => ⟨h, z⟩, fun z => z.2⟩)
  · rw [if_neg h]; exact (eq_of_iff ⟨fun z => (Wp_bad z).elim, fun z => (h z.1).elim⟩)
theorem wI_range1 : Wp ((ev V J (.irange1 a)).i ρ) Q E = Wp ((ev V J a).e ρ) (fun u ρ1 => inW u fun j => okR j = true ∧ Q ((List.range j.toNat).map fun i : Nat => D.int (0 + (i : Int))) ρ1) E := by
  show Wp (Out.bind (Out.bind _ _) _) Q E = _
  simp only [Wp_bind, nilA, Wp_ok]
  congr 1; funext u ρ1
  cases u with
  | s i => with_unfolding_all rfl
  | v z => cases z with
    | l x => with_unfolding_all rfl
    | m x => with_unfolding_all rfl
    | n _ _ => with_unfolding_all rfl
    | d x => cases x with
      | int j => exact rangeIf
      | _ => with_unfolding_all rfl
theorem wI_range2 : Wp ((ev V J (.irange2 a b)).i ρ) Q E = Wp ((ev V J a).e ρ) (fun u ρ1 => Wp ((ev V J b).e ρ1) (fun w ρ2 => inW u fun i => inW w fun j => (okR i = true ∧ okR j = true) ∧ Q ((List.range (j - i).toNat).map fun n : Nat => D.int (i + (n : Int))) ρ2) E) E := by
  show Wp (Out.bind (Out.bind _ _) _) Q E = _
  simp only [Wp_bind, nilA, consA, Wp_ok]
  congr 1; funext u ρ1; congr 1; funext w ρ2
  cases u with
  | s i => with_unfolding_all rfl
  | v z => cases z with
    | l x => with_unfolding_all rfl
    | m x => with_unfolding_all rfl
    | n _ _ => with_unfolding_all rfl
    | d x => cases x with
      | int j => cases w with
        | s i => with_unfolding_all rfl
        | v z => cases z with
          | l x => with_unfolding_all rfl
          | m x => with_unfolding_all rfl
          | n _ _ => with_unfolding_all rfl
          | d x => cases x with
            | int j => exact rangeIf
            | _ => with_unfolding_all rfl
      | _ => with_unfolding_all rfl
def zpW (x y : D) (k : List D → Prop) : Prop := match x, y with
  | .lst xs, .lst ys => k (zipD xs ys)
  | .tup xs, .tup ys => k (zipD xs ys)
  | _, _ => False
theorem zpW_l {xs ys : List D} {k : List D → Prop} : zpW (.lst xs) (.lst ys) k = k (zipD xs ys) := by with_unfolding_all rfl
theorem zpW_t {xs ys : List D} {k : List D → Prop} : zpW (.tup xs) (.tup ys) k = k (zipD xs ys) := by with_unfolding_all rfl
theorem wI_zip : Wp ((ev V J (.izip a b)).i ρ) Q E = Wp ((ev V J a).e ρ) (fun u ρ1 => Wp ((ev V J b).e ρ1) (fun w ρ2 => Wp (frz u ρ2) (fun x ρ3 => Wp (frz w ρ3) (fun y ρ4 => zpW x y fun ds => Q ds ρ4) E) E) E) E := by
  show Wp (Out.bind (Out.bind _ _) _) Q E = _
  simp only [Wp_bind, nilA, consA, Wp_ok, frzs]
  congr 1; funext u ρ1; congr 1; funext w ρ2; congr 1; funext x ρ3; congr 1; funext y ρ4
  cases x <;> cases y <;> with_unfolding_all rfl
def enW (x : D) (k : List D → Prop) : Prop := match x with
  | .lst ds => k (enumD ds)
  | .tup ds => k (enumD ds)
  | _ => False
theorem enW_l {ds : List D} {k : List D → Prop} : enW (.lst ds) k = k (enumD ds) := by with_unfolding_all rfl
theorem enW_t {ds : List D} {k : List D → Prop} : enW (.tup ds) k = k (enumD ds) := by with_unfolding_all rfl
theorem wI_enum : Wp ((ev V J (.ienum a)).i ρ) Q E = Wp ((ev V J a).e ρ) (fun u ρ1 => Wp (frz u ρ1) (fun x ρ2 => enW x fun ds => Q ds ρ2) E) E := by
  show Wp (Out.bind (Out.bind _ _) _) Q E = _
  simp only [Wp_bind]
  congr 1; funext u ρ1; congr 1; funext x ρ2
  cases x <;> with_unfolding_all rfl
/-! targets -/
theorem gW_nm {d : D} {k : Ev → Prop} : gW (ev V J (.gnm i)).g d ρ k = k (ρ.set i (some (.d d))) := by with_unfolding_all rfl
theorem gW_tup {ds : List D} {k : Ev → Prop} : gW (ev V J (.gtup as)).g (.tup ds) ρ k = (ds.length = lenT as ∧ gsW (ev V J as).gs ds ρ k) := by
  show (match (if ds.length = lenT as then (ev V J as).gs ds ρ else none) with | some ρ1 => k ρ1 | none => False) = _
  split
  · rename_i h; split at h
    · rename_i h2; simp only [h2, true_and, gsW, h]
    · cases h
  · rename_i h; split at h
    · rename_i h2; simp only [h2, true_and, gsW, h]
    · rename_i h2; simp only [h2, false_and]
theorem gW_lst {ds : List D} {k : Ev → Prop} : gW (ev V J (.gtup as)).g (.lst ds) ρ k = (ds.length = lenT as ∧ gsW (ev V J as).gs ds ρ k) := by
  show (match (if ds.length = lenT as then (ev V J as).gs ds ρ else none) with | some ρ1 => k ρ1 | none => False) = _
  split
  · rename_i h; split at h
    · rename_i h2; simp only [h2, true_and, gsW, h]
    · cases h
  · rename_i h; split at h
    · rename_i h2; simp only [h2, true_and, gsW, h]
    · rename_i h2; simp only [h2, false_and]
theorem gsW_n {k : Ev → Prop} : gsW (ev V J .nil).gs [] ρ k = k ρ := by with_unfolding_all rfl
theorem gsW_c {d : D} {ds : List D} {k : Ev → Prop} : gsW (ev V J (.cons a as)).gs (d :: ds) ρ k = gW (ev V J a).g d ρ fun ρ1 => gsW (ev V J as).gs ds ρ1 k := by
  show (match ((ev V J a).g d ρ).bind fun ρ1 => (ev V J as).gs ds ρ1 with | some ρ1 => k ρ1 | none => False) = _
  simp only [gW]
  cases (ev V J a).g d ρ <;> with_unfolding_all rfl
end
end
/-! ### a def's end -/
theorem WF_fn {ar n : Nat} {J : List Nat} {body : SemS} {as : List A} {Q : A → List (Option A) → Prop} {E : X1 → List (Option A) → Prop} (hl : as.length = ar) (h : Wp (body (as.map some ++ List.replicate (n - ar) none)) (fun r ρ => exF r fun a => Q a (keepJ J 0 ar ρ)) (fun x ρ => E x (keepJ J 0 ar ρ))) : WF (fnV ar n J body as) Q E := by
  unfold fnV
  rw [if_pos hl]
  cases e : body (as.map some ++ List.replicate (n - ar) none) with
  | ok r ρ =>
    rw [e, Wp_ok] at h
    cases r <;> first | (with_unfolding_all exact h) | exact h.elim
  | exc x ρ => rw [e, Wp_exc] at h; with_unfolding_all exact h
  | bad => rw [e] at h; exact (Wp_bad h).elim
theorem WF_call {D : Nat → Option Df} {sub : Nat → Nat → Bool} {res : Nat → Option Str} {k f : Nat} {d : Df} (e : D f = some d) {as : List A} {Q : A → List (Option A) → Prop} {E : X1 → List (Option A) → Prop} (hl : as.length = d.ar)
    (h : Wp ((ev ⟨evCall D sub res k, jOf D, sub, res, evL D sub res k⟩ d.J d.body).s (as.map some ++ List.replicate (d.N.length - d.ar) none)) (fun r ρ => exF r fun a => Q a (keepJ d.J 0 d.ar ρ)) (fun x ρ => E x (keepJ d.J 0 d.ar ρ))) : WF (evCall D sub res (k + 1) f as) Q E := by
  rw [evCall_succ k f e]
  exact WF_fn hl h
/-! only what is first is looked into -/
/-! ### some slots put otherwise -/
def setM : Ev → List Nat → List (Option A) → Ev
  | ρ, i :: M, x :: xs => setM (ρ.set i x) M xs
  | ρ, _, _ => ρ
theorem setM_n {ρ : Ev} {xs : List (Option A)} : setM ρ [] xs = ρ := by cases xs <;> rfl
theorem setM_c {ρ : Ev} {i : Nat} {M : List Nat} {x : Option A} {xs : List (Option A)} : setM ρ (i :: M) (x :: xs) = setM (ρ.set i x) M xs := rfl
theorem set_get : ∀ (ρ : Ev) (i : Nat), ρ.set i (get ρ i) = ρ
  | [], _ => rfl
  | x :: ρ, 0 => rfl
  | x :: ρ, i + 1 => by rw [getS, List.set_cons_succ, set_get ρ i]
theorem setM_get (ρ : Ev) : ∀ M : List Nat, setM ρ M (M.map (get ρ)) = ρ
  | [] => rfl
  | i :: M => by rw [List.map_cons, setM_c, set_get, setM_get ρ M]
section
variable {α : Type} {tg : SemG} {body : SemS} {E : X1 → Ev → Prop}
/-- a loop, by what holds ahead of what is left -/
theorem wp_forL {Q : Fw → Ev → Prop} (I : List D → Ev → Prop) (hs : ∀ d ds ρ, I (d :: ds) ρ → gW tg d ρ fun ρ1 => Wp (body ρ1) (fun r ρ2 => lp r (I ds ρ2) (Q .nx ρ2) (Q r ρ2)) E) (hq : ∀ ρ, I [] ρ → Q .nx ρ) :
    ∀ (ds : List D) (ρ : Ev), I ds ρ → Wp (forL tg body ds ρ) Q E
  | [], ρ, h => by rw [show forL tg body [] ρ = .ok .nx ρ from rfl, Wp_ok]; exact hq ρ h
  | d :: ds, ρ, h => by
    have s := hs d ds ρ h
    have ih := wp_forL I hs hq ds
    simp only [gW] at s
    simp only [forL]
    split at s
    · rename_i ρ1 e
      rw [e]
      simp only
      cases e2 : body ρ1 with
      | ok r ρ2 =>
        rw [e2, Wp_ok] at s
        cases r with
        | nx => exact ih ρ2 s
        | ct => exact ih ρ2 s
        | bk => rw [lp_b] at s; simp only [Wp_ok]; exact s
        | rt a => rw [lp_r] at s; simp only [Wp_ok]; exact s
      | exc x ρ2 => rw [e2, Wp_exc] at s; simp only [Wp_exc]; exact s
      | bad => rw [e2] at s; exact (Wp_bad s).elim
    · exact s.elim
/-- with some slots changed, over things under a name -/
theorem wp_for (enc : α → D) (M : List Nat) (I : List α → List (Option A) → Prop) {Q : Fw → Ev → Prop} (L : List α) (ρ : Ev) (h0 : I L (M.map (get ρ)))
    (hs : ∀ a L' vs, I (a :: L') vs → gW tg (enc a) (setM ρ M vs) fun ρ1 => Wp (body ρ1) (fun r ρ2 => lp r (∃ vs', ρ2 = setM ρ M vs' ∧ I L' vs') (Q .nx ρ2) (Q r ρ2)) E)
    (hq : ∀ vs, I [] vs → Q .nx (setM ρ M vs)) : Wp (forL tg body (L.map enc) ρ) Q E := by
  refine wp_forL (fun ds ρ' => ∃ L' vs, ds = L'.map enc ∧ ρ' = setM ρ M vs ∧ I L' vs) (fun d ds ρ' h => ?_) (fun ρ' h => ?_) _ _ ⟨L, _, rfl, (setM_get ρ M).symm, h0⟩
  · obtain ⟨L', vs, e1, rfl, h⟩ := h
    cases L' with
    | nil => cases e1
    | cons a L' =>
      cases e1
      have := hs a L' vs h
      simp only [gW] at this ⊢
      split at this
      · refine this.mono (fun r ρ2 h => ?_) fun _ _ h => h
        cases r with
        | nx => obtain ⟨vs', e, i⟩ := h; exact ⟨L', vs', rfl, e, i⟩
        | ct => obtain ⟨vs', e, i⟩ := h; exact ⟨L', vs', rfl, e, i⟩
        | bk => exact h
        | rt a => exact h
      · exact this
  · obtain ⟨L', vs, e1, rfl, h⟩ := h
    cases L' with
    | nil => exact hq vs h
    | cons a L' => cases e1
end
section
variable {α : Type} {tg : SemG} {t : SemT} {f : SemE} {own : List Nat} {E : X1 → Ev → Prop} {Q : List D → Ev → Prop} {ρ : Ev}
theorem compL_out {c : Option SemT} {d : D} {ds : List D} : Wp (compL tg c f own (d :: ds) ρ) Q E = gW tg d ρ fun ρ1 => Wp ((ifsS c ρ1).nox) (fun k ρ2 => br k (Wp ((dE f ρ2).nox) (fun y ρ3 => Wp (compL tg c f own ds (wipeE ρ3 own)) (fun ys ρ4 => Q (y :: ys) ρ4) E) E) (Wp (compL tg c f own ds (wipeE ρ2 own)) Q E)) E := by
  simp only [compL, gW]
  cases tg d ρ with
  | none => with_unfolding_all rfl
  | some ρ1 =>
    simp only
    rw [Wp_bind]
    congr 1; funext k ρ2
    rw [Wp_ite, Wp_bind]
    congr 2; funext y ρ3
    rw [Wp_bind]
    congr 1; 
/-- each thing gives one, nothing changes -/
theorem wp_comp (enc : α → D) (g : α → D) (L : List α) (hs : ∀ a ∈ L, gW tg (enc a) ρ fun ρ1 => Wp (f ρ1) (fun u ρ2 => Wp (frz u ρ2) (fun y ρ3 => wipeE ρ3 own = ρ ∧ y = g a) no) no) (hq : Q (L.map g) ρ) : Wp (compL tg none f own (L.map enc) ρ) Q E := by
  induction L generalizing Q with
  | nil => rw [show compL tg _ f own (([] : List α).map enc) ρ = .ok [] ρ from rfl, Wp_ok]; exact hq
  | cons a L ih =>
    rw [List.map_cons, compL_out]
    have h := hs a (List.mem_cons_self ..)
    simp only [gW] at h ⊢
    split at h
    · rename_i ρ1 _
      have h' : Wp (dE f ρ1) (fun y ρ3 => wipeE ρ3 own = ρ ∧ y = g a) no := by
        show Wp (Out.bind _ _) _ _
        rw [Wp_bind]; exact h
      rw [show (ifsS none ρ1).nox = .ok true ρ1 from rfl, Wp_ok, br_t]
      refine (Wp_nox (E := E) h').mono (fun y ρ3 hy => ?_) fun _ _ z => z
      obtain ⟨e1, rfl⟩ := hy
      rw [e1]
      exact ih (fun b hb => hs b (List.mem_cons_of_mem _ hb)) hq
    · exact h.elim
theorem wp_compF (enc : α → D) (c : α → Bool) (g : α → D) (L : List α) (hs : ∀ a ∈ L, gW tg (enc a) ρ fun ρ1 => Wp (t ρ1) (fun k ρ2 => k = c a ∧ br k (Wp (f ρ2) (fun u ρ2 => Wp (frz u ρ2) (fun y ρ3 => wipeE ρ3 own = ρ ∧ y = g a) no) no) (wipeE ρ2 own = ρ)) no)
    (hq : Q ((L.filter c).map g) ρ) : Wp (compL tg (some t) f own (L.map enc) ρ) Q E := by
  induction L generalizing Q with
  | nil => rw [show compL tg _ f own (([] : List α).map enc) ρ = .ok [] ρ from rfl, Wp_ok]; exact hq
  | cons a L ih =>
    rw [List.map_cons, compL_out]
    have h := hs a (List.mem_cons_self ..)
    simp only [gW] at h ⊢
    split at h
    · refine (Wp_nox (E := E) h).mono (fun k ρ2 hk => ?_) fun _ _ z => z
      obtain ⟨rfl, hk⟩ := hk
      cases e : c a with
      | true =>
        rw [e] at hk
        have h' : Wp (dE f ρ2) (fun y ρ3 => wipeE ρ3 own = ρ ∧ y = g a) no := by
          show Wp (Out.bind _ _) _ _
          rw [Wp_bind]; exact hk
        rw [br_t]
        refine (Wp_nox (E := E) h').mono (fun y ρ3 hy => ?_) fun _ _ z => z
        obtain ⟨e1, rfl⟩ := hy
        rw [e1]
        refine ih (fun b hb => hs b (List.mem_cons_of_mem _ hb)) ?_
        rw [List.filter_cons_of_pos e] at hq
        exact hq
      | false =>
        rw [e] at hk
        rw [br_f, show wipeE ρ2 own = ρ from hk]
        refine ih (fun b hb => hs b (List.mem_cons_of_mem _ hb)) ?_
        rw [List.filter_cons_of_neg (by rw [e]; exact Bool.false_ne_true)] at hq
        exact hq
    · exact h.elim
/-- slots change from thing to thing (a pen): what is given so far stands ahead -/
theorem wp_compM (enc : α → D) (M : List Nat) (I : List α → List D → List (Option A) → Prop) (L : List α) (h0 : I L [] (M.map (get ρ)))
    (hs : ∀ a L' ys vs, I (a :: L') ys vs → gW tg (enc a) (setM ρ M vs) fun ρ1 => Wp (f ρ1) (fun u ρ2 => Wp (frz u ρ2) (fun y ρ3 => ∃ vs', wipeE ρ3 own = setM ρ M vs' ∧ I L' (ys ++ [y]) vs') no) no)
    (hq : ∀ ys vs, I [] ys vs → Q ys (setM ρ M vs)) : Wp (compL tg none f own (L.map enc) ρ) Q E := by
  suffices h : ∀ (L : List α) (ys : List D) (vs : List (Option A)), I L ys vs → Wp (compL tg none f own (L.map enc) (setM ρ M vs)) (fun zs ρ2 => Q (ys ++ zs) ρ2) E by
    have := h L [] _ h0
    rw [setM_get] at this
    exact this
  intro L
  induction L with
  | nil => intro ys vs h; simp only [List.map_nil, compL, Wp_ok, List.append_nil]; exact hq ys vs h
  | cons a L ih =>
    intro ys vs h
    rw [List.map_cons, compL_out]
    have h := hs a L ys vs h
    simp only [gW] at h ⊢
    split at h
    · rename_i ρ1 _
      have h' : Wp (dE f ρ1) (fun y ρ3 => ∃ vs', wipeE ρ3 own = setM ρ M vs' ∧ I L (ys ++ [y]) vs') no := by
        show Wp (Out.bind _ _) _ _
        rw [Wp_bind]; exact h
      rw [show (ifsS none ρ1).nox = .ok true ρ1 from rfl, Wp_ok, br_t]
      refine (Wp_nox (E := E) h').mono (fun y ρ3 hy => ?_) fun _ _ z => z
      obtain ⟨vs', e1, i⟩ := hy
      rw [e1]
      refine (ih _ _ i).mono (fun zs ρ4 hz => ?_) fun _ _ z => z
      rw [List.append_assoc] at hz
      exact hz
    · exact h.elim
end
/-- a while, by a measure -/
theorem wp_whileN {t : SemT} {body : SemS} {Q : Fw → Ev → Prop} {E : X1 → Ev → Prop} (I : Nat → Ev → Prop) (hs : ∀ n ρ, I n ρ → Wp (t ρ) (fun k ρ1 => br k (Wp (body ρ1) (fun r ρ2 => lp r (∃ m, m < n ∧ I m ρ2) (Q .nx ρ2) (Q r ρ2)) E) (Q .nx ρ1)) E) :
    ∀ (F n : Nat) (ρ : Ev), n < F → I n ρ → Wp (whileL t body F ρ) Q E
  | 0, n, ρ, h, _ => absurd h (Nat.not_lt_zero n)
  | F + 1, n, ρ, h, hi => by
    have s := hs n ρ hi
    simp only [whileL, Wp_bind]
    refine s.mono (fun k ρ1 hk => ?_) fun _ _ z => z
    cases k with
    | false => rw [br_f] at hk; simp only [Bool.false_eq_true, if_false, Wp_ok]; exact hk
    | true =>
      rw [br_t] at hk
      simp only [if_true]
      cases e : body ρ1 with
      | ok r ρ2 =>
        rw [e, Wp_ok] at hk
        cases r with
        | nx => obtain ⟨m, hm, i⟩ := hk; exact wp_whileN I hs F m ρ2 (by omega) i
        | ct => obtain ⟨m, hm, i⟩ := hk; exact wp_whileN I hs F m ρ2 (by omega) i
        | bk => rw [lp_b] at hk; simp only [Wp_ok]; exact hk
        | rt a => rw [lp_r] at hk; simp only [Wp_ok]; exact hk
      | exc x ρ2 => rw [e, Wp_exc] at hk; simp only [Wp_exc]; exact hk
      | bad => rw [e] at hk; exact (Wp_bad hk).elim
theorem wp_while {t : SemT} {body : SemS} {Q : Fw → Ev → Prop} {E : X1 → Ev → Prop} (M : List Nat) (I : Nat → List (Option A) → Prop) (n : Nat) (ρ : Ev) (hn : n < 1099511627776) (h0 : I n (M.map (get ρ)))
    (hs : ∀ n vs, I n vs → Wp (t (setM ρ M vs)) (fun k ρ1 => br k (Wp (body ρ1) (fun r ρ2 => lp r (∃ m vs', m < n ∧ ρ2 = setM ρ M vs' ∧ I m vs') (Q .nx ρ2) (Q r ρ2)) E) (Q .nx ρ1)) E) : Wp (whileL t body FUEL ρ) Q E := by
  refine wp_whileN (fun n ρ' => ∃ vs, ρ' = setM ρ M vs ∧ I n vs) (fun n ρ' h => ?_) _ n _ hn ⟨_, (setM_get ρ M).symm, h0⟩
  obtain ⟨vs, rfl, h⟩ := h
  refine (hs n vs h).mono (fun k ρ1 hk => ?_) fun _ _ z => z
  cases k with
  | false => exact hk
  | true =>
    rw [br_t] at hk ⊢
    refine hk.mono (fun r ρ2 h => ?_) fun _ _ z => z
    cases r with
    | nx => obtain ⟨m, vs', h1, h2, h3⟩ := h; exact ⟨m, h1, vs', h2, h3⟩
    | ct => obtain ⟨m, vs', h1, h2, h3⟩ := h; exact ⟨m, h1, vs', h2, h3⟩
    | bk => exact h
    | rt a => exact h
/-! the same over data as they are -/
section
variable {tg : SemG} {t : SemT} {f : SemE} {body : SemS} {own : List Nat} {E : X1 → Ev → Prop} {Q : List D → Ev → Prop} {ρ : Ev}
theorem wp_compD (g : D → D) (ds : List D) (hs : ∀ a ∈ ds, gW tg a ρ fun ρ1 => Wp (f ρ1) (fun u ρ2 => Wp (frz u ρ2) (fun y ρ3 => wipeE ρ3 own = ρ ∧ y = g a) no) no) (hq : Q (ds.map g) ρ) : Wp (compL tg none f own ds ρ) Q E := by
  have := wp_comp (E := E) (Q := Q) id g ds hs hq
  rwa [List.map_id] at this
theorem wp_compFD (c : D → Bool) (g : D → D) (ds : List D) (hs : ∀ a ∈ ds, gW tg a ρ fun ρ1 => Wp (t ρ1) (fun k ρ2 => k = c a ∧ br k (Wp (f ρ2) (fun u ρ2 => Wp (frz u ρ2) (fun y ρ3 => wipeE ρ3 own = ρ ∧ y = g a) no) no) (wipeE ρ2 own = ρ)) no)
    (hq : Q ((ds.filter c).map g) ρ) : Wp (compL tg (some t) f own ds ρ) Q E := by
  have := wp_compF (E := E) (Q := Q) id c g ds hs hq
  rwa [List.map_id] at this
theorem wp_compMD (M : List Nat) (I : List D → List D → List (Option A) → Prop) (L : List D) (h0 : I L [] (M.map (get ρ)))
    (hs : ∀ a L' ys vs, I (a :: L') ys vs → gW tg a (setM ρ M vs) fun ρ1 => Wp (f ρ1) (fun u ρ2 => Wp (frz u ρ2) (fun y ρ3 => ∃ vs', wipeE ρ3 own = setM ρ M vs' ∧ I L' (ys ++ [y]) vs') no) no)
    (hq : ∀ ys vs, I [] ys vs → Q ys (setM ρ M vs)) : Wp (compL tg none f own L ρ) Q E := by
  have := wp_compM (E := E) (Q := Q) id M I L h0 hs hq
  rwa [List.map_id] at this
theorem wp_forD (M : List Nat) (I : List D → List (Option A) → Prop) {Q : Fw → Ev → Prop} (L : List D) (ρ : Ev) (h0 : I L (M.map (get ρ)))
    (hs : ∀ a L' vs, I (a :: L') vs → gW tg a (setM ρ M vs) fun ρ1 => Wp (body ρ1) (fun r ρ2 => lp r (∃ vs', ρ2 = setM ρ M vs' ∧ I L' vs') (Q .nx ρ2) (Q r ρ2)) E)
    (hq : ∀ vs, I [] vs → Q .nx (setM ρ M vs)) : Wp (forL tg body L ρ) Q E := by
  have := wp_for (E := E) (Q := Q) id M I L ρ h0 hs hq
  rwa [List.map_id] at this
end
section
variable {V : Gv} {J : List Nat} {a b as : T} {ρ : Ev} {E : X1 → Ev → Prop} {Q : U → Ev → Prop}
def oE (us : List U) (k : List Bool → List D → Prop) : Prop := match ownEs us with
  | some (os, ds) => k os ds
  | none => False
theorem wOwnEs {us : List U} : Wp (match ownEs us with
  | some (os, ds) => if ds.length ≤ 16777216 then Out.ok (U.v (.n os ds)) ρ else .bad
  | none => .bad) Q E = oE us fun os ds => ds.length ≤ 16777216 ∧ Q (.v (.n os ds)) ρ := by
  unfold oE
  cases h : ownEs us with
  | none => with_unfolding_all rfl
  | some z =>
    show Wp (if z.2.length ≤ 16777216 then _ else _) Q E = (z.2.length ≤ 16777216 ∧ _)
    by_cases hz : z.2.length ≤ 16777216
    · rw [if_pos hz]; exact (eq_of_iff ⟨fun y => ⟨hz, y⟩, fun y => y.2⟩)
    · rw [if_neg hz]; exact (eq_of_iff ⟨fun y => y.elim, fun y => hz y.1⟩)
theorem wE_lstN : Wp ((ev V J (.lstN as)).e ρ) Q E = Wp ((ev V J as).a ρ) (fun us ρ1 => oE us fun os ds => ds.length ≤ 16777216 ∧ Q (.v (.n os ds)) ρ1) E := by
  show Wp (Out.bind _ _) Q E = _
  rw [Wp_bind]
  refine congrArg (fun f => Wp _ f E) (funext fun us => funext fun ρ1 => ?_)
  exact wOwnEs
theorem wT_lend {Q : Bool → Ev → Prop} : Wp ((ev V J (.lend a)).t ρ) Q E = Wp ((ev V J a).t (lent ρ)) (fun k _ => Q k ρ) (fun _ _ => False) := by
  show Wp (lendT _ ρ) Q E = _
  unfold lendT
  cases (ev V J a).t (lent ρ) <;> with_unfolding_all rfl
theorem wE_appN {c : T} : Wp ((ev V J (.appN a b c)).e ρ) Q E = Wp ((ev V J a).e ρ) (fun u ρ1 => Wp ((ev V J b).e ρ1) (fun w ρ2 => Wp (appNU (ev V J c).a u w ρ2) Q E) E) E := by
  show Wp (Out.bind _ _) Q E = _
  simp only [Wp_bind]
theorem lent_nil : lent [] = [] := rfl
theorem lent_some {x : A} : lent (some x :: ρ) = some (.d (dataA x)) :: lent ρ := rfl
theorem lent_none : lent (none :: ρ) = none :: lent ρ := rfl
end
section
variable {V : Gv} {J : List Nat} {a b as : T} {ρ : Ev} {E : X1 → Ev → Prop} {Q : U → Ev → Prop}
theorem wNox {α : Type} {o : Out α} {Q : α → Ev → Prop} : Wp o.nox Q E = Wp o Q no := by
  cases o <;> with_unfolding_all rfl
def oE1 (u : U) (k : Bool → D → Prop) : Prop := match ownE u with
  | some (o, d) => k o d
  | none => False
theorem wCompN_nil {tg : SemG} {f : SemE} {vs : List Nat} {Q : List Bool × List D → Ev → Prop} : Wp (compNL tg f vs [] ρ) Q E = Q ([], []) ρ := by with_unfolding_all rfl
theorem wCompN_cons {tg : SemG} {f : SemE} {vs : List Nat} {d : D} {ds : List D} {Q : List Bool × List D → Ev → Prop} :
    Wp (compNL tg f vs (d :: ds) ρ) Q E = gW tg d ρ fun ρ1 => Wp (f ρ1) (fun u ρ3 => oE1 u fun o y => Wp (compNL tg f vs ds (wipeE ρ3 vs)) (fun ys ρ4 => Q (o :: ys.1, y :: ys.2) ρ4) E) no := by
  rw [compNL]
  unfold gW
  cases tg d ρ with
  | none => with_unfolding_all rfl
  | some ρ1 =>
    show Wp (Out.bind _ _) Q E = _
    rw [Wp_bind, wNox]
    refine congrArg (fun f => Wp _ f no) (funext fun u => funext fun ρ3 => ?_)
    unfold oE1
    cases ownE u with
    | none => with_unfolding_all rfl
    | some z =>
      show Wp (Out.bind _ _) Q E = _
      simp only [Wp_bind, Wp_ok]
theorem wE_compN {own : List (Str × Nat)} : Wp ((ev V J (.compN own a b as)).e ρ) Q E = Wp ((ev V J a).i ρ) (fun ds ρ1 => ds.length ≤ 16777216 ∧ Wp (compNL (ev V J b).g (ev V J as).e (own.map (·.2)) ds (wipeE ρ1 (own.map (·.2)))) (fun ys ρ2 => Q (.v (.n ys.1 ys.2)) ρ2) E) E := by
  show Wp (compNS _ _ _ _ ρ) Q E = _
  unfold compNS
  rw [Wp_bind]
  refine congrArg (fun f => Wp _ f E) (funext fun ds => funext fun ρ1 => ?_)
  by_cases h : ds.length ≤ 16777216
  · rw [if_pos h]; simp only [h, true_and, Wp_bind, Wp_ok]
  · rw [if_neg h]; simp only [h, false_and, Wp]
/-- the entry that is appended to -/
def apW (u w : U) (ρ : Ev) (k : Nat → List Bool → List D → Nat → List D → Prop) : Prop := match u, w with
  | .s i, .v (.d (.int z)) => match get ρ i with
    | some (.n os ds) => match ixN ds.length z with
      | some j => match os[j]?, ds[j]? with
        | some true, some (.lst xs) => k i os ds j xs
        | _, _ => False
      | none => False
    | _ => False
  | _, _ => False
theorem wAppNU {ga : SemA} {u w : U} : Wp (appNU ga u w ρ) Q E = apW u w ρ fun i os ds j xs => Wp (ga (ρ.set i none)) (fun us ρ1 => Wp (frzs us ρ1) (fun ys ρ2 => match ys with
    | [y] => xs.length < 16777216 ∧ Q (.v (.d .non)) (ρ2.set i (some (.n os (ds.set j (.lst (xs ++ [y]))))))
    | _ => False) E) E := by
  unfold appNU apW
  cases u with
  | v a => with_unfolding_all rfl
  | s i => cases w with
    | s k => with_unfolding_all rfl
    | v a => cases a with
      | l _ => with_unfolding_all rfl
      | m _ => with_unfolding_all rfl
      | n _ _ => with_unfolding_all rfl
      | d x => cases x with
        | int z =>
          simp only [get]
          rcases ρ[i]? with _ | _ | a
          · with_unfolding_all rfl
          · with_unfolding_all rfl
          · cases a with
            | d x => with_unfolding_all rfl
            | l x => with_unfolding_all rfl
            | m x => with_unfolding_all rfl
            | n os ds =>
              simp only
              cases ixN ds.length z with
              | none => with_unfolding_all rfl
              | some j =>
                simp only
                generalize os[j]? = x
                generalize ds[j]? = y
                rcases x with _ | _ | _
                · with_unfolding_all rfl
                · with_unfolding_all rfl
                · rcases y with _ | y
                  · with_unfolding_all rfl
                  · cases y with
                    | lst xs =>
                      show Wp (Out.bind _ _) Q E = _
                      rw [Wp_bind]
                      refine congrArg (fun f => Wp _ f E) (funext fun us => funext fun ρ1 => ?_)
                      rw [Wp_bind]
                      refine congrArg (fun f => Wp _ f E) (funext fun ys => funext fun ρ2 => ?_)
                      rcases ys with _ | ⟨y, _ | ⟨z, ys⟩⟩
                      · with_unfolding_all rfl
                      · show Wp (if xs.length < 16777216 then _ else _) Q E = (xs.length < 16777216 ∧ _)
                        by_cases h : xs.length < 16777216
                        · rw [if_pos h]; exact eq_of_iff ⟨fun q => ⟨h, q⟩, fun q => q.2⟩
                        · rw [if_neg h]; exact eq_of_iff ⟨fun q => (Wp_bad q).elim, fun q => (h q.1).elim⟩
                      · with_unfolding_all rfl
                    | _ => with_unfolding_all rfl
        | _ => with_unfolding_all rfl
/-- what a lambda calls -/
def loW (c : Option (Nat → SemF)) (k : (Nat → SemF) → Prop) : Prop := match c with
  | some cl => k cl
  | none => False
theorem loW_s {c : Nat → SemF} {k : (Nat → SemF) → Prop} : loW (some c) k = k c := by with_unfolding_all rfl
theorem evL_s {D : Nat → Option Df} {sub : Nat → Nat → Bool} {res : Nat → Option Str} {k : Nat} : evL D sub res (k + 2) = some (evCall D sub res k) := by with_unfolding_all rfl
theorem wE_refl {told : Str} : Wp ((ev V J (.refl told a)).e ρ) Q E = loW V.callL fun cl => Wp ((ev ⟨cl, V.J, V.sub, V.res, none⟩ J a).e (lent ρ)) (fun _ _ => Q (.v (.d (.str told))) ρ) (fun x _ => x.fs = [] ∧ wo (V.res x.c) fun r => Q (.v (.d (.str r))) ρ) := by
  have e0 : (ev V J (.refl told a)).e ρ = lowS V (fun V' => reflS V'.res told (ev V' J a).e) ρ := by with_unfolding_all rfl
  rw [e0]
  unfold lowS loW
  cases V.callL with
  | none => with_unfolding_all rfl
  | some cl =>
    show Wp (reflS V.res told _ ρ) Q E = Wp ((ev ⟨cl, V.J, V.sub, V.res, none⟩ J a).e (lent ρ)) (fun _ _ => Q (.v (.d (.str told))) ρ) (fun x _ => x.fs = [] ∧ wo (V.res x.c) fun r => Q (.v (.d (.str r))) ρ)
    unfold reflS
    generalize (ev ⟨cl, V.J, V.sub, V.res, none⟩ J a).e (lent ρ) = o
    cases o with
    | ok u ρ1 => with_unfolding_all rfl
    | bad => with_unfolding_all rfl
    | exc x ρ1 =>
      obtain ⟨c, fs⟩ := x
      cases fs with
      | nil =>
        have e1 : Wp (Out.exc (α := U) ⟨c, []⟩ ρ1) (fun _ _ => Q (.v (.d (.str told))) ρ) (fun x _ => x.fs = [] ∧ wo (V.res x.c) fun r => Q (.v (.d (.str r))) ρ) = (([] : List D) = [] ∧ wo (V.res c) fun r => Q (.v (.d (.str r))) ρ) := by with_unfolding_all rfl
        rw [e1]
        show Wp (match V.res c with | some r => Out.ok (.v (.d (.str r))) ρ | none => .bad) Q E = _
        cases V.res c with
        | none => exact eq_of_iff ⟨fun y => (Wp_bad y).elim, fun y => (show False from y.2).elim⟩
        | some r => exact eq_of_iff ⟨fun y => ⟨rfl, by with_unfolding_all exact y⟩, fun y => by with_unfolding_all exact y.2⟩
      | cons f fs =>
        have e1 : Wp (Out.exc (α := U) ⟨c, f :: fs⟩ ρ1) (fun _ _ => Q (.v (.d (.str told))) ρ) (fun x _ => x.fs = [] ∧ wo (V.res x.c) fun r => Q (.v (.d (.str r))) ρ) = ((f :: fs : List D) = [] ∧ wo (V.res c) fun r => Q (.v (.d (.str r))) ρ) := by with_unfolding_all rfl
        rw [e1]
        exact eq_of_iff ⟨fun y => (Wp_bad y).elim, fun y => by cases y.1⟩
/-! the first rules -/
theorem oE_n {k : List Bool → List D → Prop} : oE [] k = k [] [] := by with_unfolding_all rfl
theorem oE_c {u : U} {us : List U} {k : List Bool → List D → Prop} : oE (u :: us) k = oE1 u fun o d => oE us fun os ds => k (o :: os) (d :: ds) := by
  unfold oE oE1
  have e : ownEs (u :: us) = match ownE u with
    | some (o, d) => match ownEs us with
      | some (os, ds) => some (o :: os, d :: ds)
      | none => none
    | none => none := rfl
  rw [e]
  generalize ownEs us = w
  generalize ownE u = z
  rcases z with _ | ⟨o, d⟩
  · rfl
  · rcases w with _ | ⟨os, ds⟩ <;> rfl
theorem oE1_d {x : D} {k : Bool → D → Prop} : oE1 (.v (.d x)) k = k false x := by with_unfolding_all rfl
theorem oE1_l {xs : List D} {k : Bool → D → Prop} : oE1 (.v (.l xs)) k = k true (.lst xs) := by with_unfolding_all rfl
def nW (x : Option A) (k : List Bool → List D → Prop) : Prop := match x with
  | some (.n os ds) => k os ds
  | _ => False
theorem nW_n {os : List Bool} {ds : List D} {k : List Bool → List D → Prop} : nW (some (.n os ds)) k = k os ds := by with_unfolding_all rfl
def lW (x : Option D) (k : List D → Prop) : Prop := match x with
  | some (.lst xs) => k xs
  | _ => False
theorem lW_l {xs : List D} {k : List D → Prop} : lW (some (.lst xs)) k = k xs := by with_unfolding_all rfl
theorem apW_s {i : Nat} {z : Int} {k : Nat → List Bool → List D → Nat → List D → Prop} : apW (.s i) (.v (.d (.int z))) ρ k = nW (get ρ i) fun os ds => wo (ixN ds.length z) fun j => os[j]? = some true ∧ lW ds[j]? fun xs => k i os ds j xs := by
  unfold apW nW
  simp only
  rcases get ρ i with _ | a
  · rfl
  · cases a with
    | n os ds =>
      simp only
      cases ixN ds.length z with
      | none => rfl
      | some j =>
        show _ = (os[j]? = some true ∧ lW ds[j]? _)
        simp only
        generalize os[j]? = x
        generalize ds[j]? = y
        rcases x with _ | _ | _
        · exact (eq_of_iff ⟨fun q => q.elim, fun q => by cases q.1⟩)
        · exact (eq_of_iff ⟨fun q => q.elim, fun q => by cases q.1⟩)
        · rcases y with _ | y
          · exact (eq_of_iff ⟨fun q => q.elim, fun q => q.2.elim⟩)
          · cases y with
            | lst xs => exact (eq_of_iff ⟨fun q => ⟨rfl, q⟩, fun q => q.2⟩)
            | _ => exact (eq_of_iff ⟨fun q => q.elim, fun q => q.2.elim⟩)
    | _ => rfl
end
end Pv0

namespace Pv
open PySem PySem.Spec PyProof.Rows L2
/-- a mark that hangs on what goes on: where a word bears it, `simp` looks at its first part alone -/
inductive Dm {α : Sort u} (q : α) : Type | mk
open Pv0 (get hd iD setM no)

/-! ### what holds behind -/
@[irreducible] def Wp {α : Type} (o : Out α) (Q : α → Ev → Prop) (E : X1 → Ev → Prop) (_Qu : Dm Q := .mk) (_Eu : Dm E := .mk) : Prop := Pv0.Wp o Q E
@[irreducible] def WF (o : OutF) (Q : A → List (Option A) → Prop) (E : X1 → List (Option A) → Prop) (_Qu : Dm Q := .mk) (_Eu : Dm E := .mk) : Prop := Pv0.WF o Q E
section
variable {α β : Type} {o : Out α} {Q Q' : α → Ev → Prop} {E E' : X1 → Ev → Prop} {ρ : Ev}
theorem Wp.mono (h : Wp o Q E) (q : ∀ a ρ, Q a ρ → Q' a ρ) (e : ∀ x ρ, E x ρ → E' x ρ) : Wp o Q' E' := by with_unfolding_all exact Pv0.Wp.mono h q e
theorem Wp_bad (h : Wp (.bad : Out α) Q E) : False := by with_unfolding_all exact Pv0.Wp_bad h
theorem Wp_exc {x : X1} {ρ : Ev} : Wp (.exc x ρ : Out α) Q E = E x ρ := by with_unfolding_all exact Pv0.Wp_exc
theorem Wp_ok {a : α} : Wp (.ok a ρ) Q E = Q a ρ := by with_unfolding_all exact Pv0.Wp_ok
theorem Wp_bind {f : α → Ev → Out β} {Q : β → Ev → Prop} : Wp (o.bind f) Q E = Wp o (fun a ρ => Wp (f a ρ) Q E) E := by with_unfolding_all exact Pv0.Wp_bind
theorem Wp_nox {o : Out α} (h : Wp o Q no) : Wp o.nox Q E := by with_unfolding_all exact Pv0.Wp_nox h
end
section
variable {o : OutF} {Q Q' : A → List (Option A) → Prop} {E E' : X1 → List (Option A) → Prop}
theorem WF.mono (h : WF o Q E) (q : ∀ a ρ, Q a ρ → Q' a ρ) (e : ∀ x ρ, E x ρ → E' x ρ) : WF o Q' E' := by with_unfolding_all exact Pv0.WF.mono h q e
theorem WF.of (h : WF o Q no) (q : ∀ a ρ, Q a ρ → Q' a ρ) : WF o Q' E' := by with_unfolding_all exact Pv0.WF.of h q
theorem WF_ok {a : A} {ws : List (Option A)} : WF (.ok a ws) Q E = Q a ws := by with_unfolding_all exact Pv0.WF_ok
theorem WF_exc {a : X1} {ws : List (Option A)} : WF (.exc a ws) Q E = E a ws := by with_unfolding_all exact Pv0.WF_exc
theorem WF.ex (h : WF o Q no) : ∃ a ws, o = .ok a ws ∧ Q a ws := by with_unfolding_all exact Pv0.WF.ex h
end

/-! ### helpers, each of which is gone where its first part is known -/
theorem get0 {x : Option A} {ρ : Ev} : get (x :: ρ) 0 = x := by with_unfolding_all exact @Pv0.get0 _ _
theorem getS {x : Option A} {ρ : Ev} {i : Nat} : get (x :: ρ) (i + 1) = get ρ i := by with_unfolding_all exact Pv0.getS
@[irreducible] def nmU (x : Option A) (i : Nat) (k : U → Prop) (_ku : Dm k := .mk) : Prop := Pv0.nmU x i k
@[irreducible] def fl (a : A) (k : D → Prop) (_ku : Dm k := .mk) : Prop := Pv0.fl a k
@[irreducible] def sl (x : Option A) (k : A → Prop) (_ku : Dm k := .mk) : Prop := Pv0.sl x k
@[irreducible] def vw (ρ : Ev) (u : U) (k : D → Prop) (_ku : Dm k := .mk) : Prop := Pv0.vw ρ u k
@[irreducible] def vws (ρ : Ev) (us : List U) (k : List D → Prop) (_ku : Dm k := .mk) : Prop := Pv0.vws ρ us k
@[irreducible] def wo {α : Type} (o : Option α) (k : α → Prop) (_ku : Dm k := .mk) : Prop := Pv0.wo o k
@[irreducible] def br (b : Bool) (p q : Prop) (_pu : Dm p := .mk) (_qu : Dm q := .mk) : Prop := Pv0.br b p q
@[irreducible] def nxt (r : Fw) (p q : Prop) (_pu : Dm p := .mk) (_qu : Dm q := .mk) : Prop := Pv0.nxt r p q
@[irreducible] def lp (r : Fw) (p q z : Prop) (_pu : Dm p := .mk) (_qu : Dm q := .mk) (_zu : Dm z := .mk) : Prop := Pv0.lp r p q z
@[irreducible] def exF (r : Fw) (Q : A → Prop) (_Qu : Dm Q := .mk) : Prop := Pv0.exF r Q
@[irreducible] def gW (g : SemG) (d : D) (ρ : Ev) (k : Ev → Prop) (_ku : Dm k := .mk) : Prop := Pv0.gW g d ρ k
@[irreducible] def gsW (g : SemGs) (d : List D) (ρ : Ev) (k : Ev → Prop) (_ku : Dm k := .mk) : Prop := Pv0.gsW g d ρ k
section
variable {i : Nat} {x : D} {xs : List D} {ms : List (D × D)} {ρ : Ev} {us : List U} {u : U} {a : A}
theorem nmU_d {k : U → Prop} : nmU (some (.d x)) i k = k (.v (.d x)) := by with_unfolding_all exact Pv0.nmU_d
theorem nmU_l {k : U → Prop} : nmU (some (.l xs)) i k = k (.s i) := by with_unfolding_all exact Pv0.nmU_l
theorem nmU_n {os : List Bool} {ds : List D} {k : U → Prop} : nmU (some (.n os ds)) i k = k (.s i) := by with_unfolding_all exact Pv0.nmU_n
theorem nmU_m {k : U → Prop} : nmU (some (.m ms)) i k = k (.s i) := by with_unfolding_all exact Pv0.nmU_m
theorem fl_d {k : D → Prop} : fl (.d x) k = k x := by with_unfolding_all exact Pv0.fl_d
theorem fl_l {k : D → Prop} : fl (.l xs) k = k (.lst xs) := by with_unfolding_all exact Pv0.fl_l
theorem fl_m {k : D → Prop} : fl (.m ms) k = k (.dct (ms.map (·.1)) (ms.map (·.2))) := by with_unfolding_all exact Pv0.fl_m
theorem sl_s {k : A → Prop} : sl (some a) k = k a := by with_unfolding_all exact Pv0.sl_s
theorem vw_v {k : D → Prop} : vw ρ (.v a) k = fl a k := by with_unfolding_all exact Pv0.vw_v
theorem vw_s {k : D → Prop} : vw ρ (.s i) k = sl (get ρ i) fun a => fl a k := by with_unfolding_all exact Pv0.vw_s
theorem vws_n {k : List D → Prop} : vws ρ [] k = k [] := by with_unfolding_all exact Pv0.vws_n
theorem vws_c {k : List D → Prop} : vws ρ (u :: us) k = vw ρ u fun x => vws ρ us fun xs => k (x :: xs) := by with_unfolding_all exact Pv0.vws_c
theorem wo_s {α : Type} {a : α} {k : α → Prop} : wo (some a) k = k a := by with_unfolding_all exact Pv0.wo_s
theorem wo_if {α : Type} {a : α} {k : α → Prop} {c : Prop} [Decidable c] : wo (if c then some a else none) k = (c ∧ k a) := by with_unfolding_all exact Pv0.wo_if
theorem wo_map {α β : Type} {o : Option α} {f : α → β} {k : β → Prop} : wo (o.map f) k = wo o fun a => k (f a) := by with_unfolding_all exact Pv0.wo_map
theorem br_t {p q : Prop} : br true p q = p := by with_unfolding_all exact Pv0.br_t
theorem br_f {p q : Prop} : br false p q = q := by with_unfolding_all exact Pv0.br_f
theorem br_not {b : Bool} {p q : Prop} : br (!b) p q = br b q p := by with_unfolding_all exact Pv0.br_not
theorem br_id {b : Bool} {p q : Prop} : br (id b) p q = br b p q := by with_unfolding_all exact Pv0.br_id
theorem br_dec {c : Prop} [Decidable c] {p q : Prop} : br (decide c) p q = if c then p else q := by with_unfolding_all exact Pv0.br_dec
theorem br_i {b : Bool} {p q : Prop} (h1 : b = true → p) (h2 : b = false → q) : br b p q := by with_unfolding_all exact Pv0.br_i h1 h2
theorem nxt_n {p q : Prop} : nxt .nx p q = p := by with_unfolding_all exact Pv0.nxt_n
theorem nxt_r {p q : Prop} : nxt (.rt a) p q = q := by with_unfolding_all exact Pv0.nxt_r
theorem nxt_b {p q : Prop} : nxt .bk p q = q := by with_unfolding_all exact Pv0.nxt_b
theorem nxt_c {p q : Prop} : nxt .ct p q = q := by with_unfolding_all exact Pv0.nxt_c
theorem lp_n {p q z : Prop} : lp .nx p q z = p := by with_unfolding_all exact Pv0.lp_n
theorem lp_c {p q z : Prop} : lp .ct p q z = p := by with_unfolding_all exact Pv0.lp_c
theorem lp_b {p q z : Prop} : lp .bk p q z = q := by with_unfolding_all exact Pv0.lp_b
theorem lp_r {p q z : Prop} : lp (.rt a) p q z = z := by with_unfolding_all exact Pv0.lp_r
theorem exF_r {Q : A → Prop} : exF (.rt a) Q = Q a := by with_unfolding_all exact Pv0.exF_r
theorem exF_n {Q : A → Prop} : exF .nx Q = Q (.d .non) := by with_unfolding_all exact Pv0.exF_n
end

/-! ### the words -/
section
variable {V : Gv} {J : List Nat} {ρ : Ev} {a b c as : T} {i j l : Nat}
section
variable {Q : Fw → Ev → Prop} {E : X1 → Ev → Prop}
theorem wS_nil : Wp ((ev V J .nil).s ρ) Q E = Q .nx ρ := by with_unfolding_all exact Pv0.wS_nil
theorem wS_cons : Wp ((ev V J (.cons a as)).s ρ) Q E = Wp ((ev V J a).s ρ) (fun r ρ1 => nxt r (Wp ((ev V J as).s ρ1) Q E) (Q r ρ1)) E := by with_unfolding_all exact Pv0.wS_cons
theorem wS_pass : Wp ((ev V J .pass).s ρ) Q E = Q .nx ρ := by with_unfolding_all exact Pv0.wS_pass
theorem wS_brk : Wp ((ev V J .brk).s ρ) Q E = Q .bk ρ := by with_unfolding_all exact Pv0.wS_brk
theorem wS_cont : Wp ((ev V J .cont).s ρ) Q E = Q .ct ρ := by with_unfolding_all exact Pv0.wS_cont
theorem wS_ret : Wp ((ev V J (.ret a)).s ρ) Q E = Wp ((ev V J a).e ρ) (fun u ρ1 => Wp (giveU J u ρ1) Q E) E := by with_unfolding_all exact Pv0.wS_ret
theorem wGive_v {a : A} : Wp (giveU J (.v a) ρ) Q E = Q (.rt a) ρ := by with_unfolding_all exact Pv0.wGive_v
theorem wGive_s : Wp (giveU J (.s i) ρ) Q E = (J.contains i = false ∧ sl (get ρ i) fun a => Q (.rt a) (ρ.set i none)) := by with_unfolding_all exact Pv0.wGive_s
theorem wS_set : Wp ((ev V J (.set i a)).s ρ) Q E = Wp ((ev V J a).e ρ) (fun u ρ1 => Wp (toA u ρ1) (fun a ρ2 => Q .nx (ρ2.set i (some a))) E) E := by with_unfolding_all exact Pv0.wS_set
theorem wS_setc : Wp ((ev V J (.setc i a)).s ρ) Q E = Wp ((ev V J a).e ρ) (fun u ρ1 => Wp (toA u ρ1) (fun a ρ2 => Q .nx (ρ2.set i (some a))) E) E := by with_unfolding_all exact Pv0.wS_setc
theorem wS_drop : Wp ((ev V J (.drop a)).s ρ) Q E = Wp ((ev V J a).e ρ) (fun _ ρ1 => Q .nx ρ1) E := by with_unfolding_all exact Pv0.wS_drop
theorem Wp_ite {α : Type} {k : Bool} {x y : Out α} {Q : α → Ev → Prop} : Wp (if k = true then x else y) Q E = br k (Wp x Q E) (Wp y Q E) := by with_unfolding_all exact Pv0.Wp_ite
theorem wS_ite : Wp ((ev V J (.ite c a b)).s ρ) Q E = Wp ((ev V J c).t ρ) (fun k ρ1 => br k (Wp ((ev V J a).s ρ1) Q E) (Wp ((ev V J b).s ρ1) Q E)) E := by with_unfolding_all exact Pv0.wS_ite
theorem wS_for : Wp ((ev V J (.for_ a b c)).s ρ) Q E = Wp ((ev V J a).i ρ) (fun ds ρ1 => Wp (forL (ev V J b).g (ev V J c).s ds ρ1) Q E) E := by with_unfolding_all exact Pv0.wS_for
theorem wS_while : Wp ((ev V J (.while_ c b)).s ρ) Q E = Wp (whileL (ev V J c).t (ev V J b).s FUEL ρ) Q E := by with_unfolding_all exact Pv0.wS_while
theorem wS_raise {c : Nat} : Wp ((ev V J (.raise c)).s ρ) Q E = E ⟨c, []⟩ ρ := by with_unfolding_all exact Pv0.wS_raise
theorem wS_asg : Wp ((ev V J (.asg b a)).s ρ) Q E = Wp ((ev V J a).e ρ) (fun u ρ1 => Wp (frz u ρ1) (fun x ρ2 => gW (ev V J b).g x ρ2 fun ρ3 => Q .nx ρ3) E) E := by with_unfolding_all exact Pv0.wS_asg
theorem wS_par2 : Wp ((ev V J (.par2 i j a b)).s ρ) Q E = Wp ((ev V J a).e ρ) (fun u ρ1 => Wp ((ev V J b).e ρ1) (fun w ρ2 => Wp (toA u ρ2) (fun x ρ3 => Wp (toA w ρ3) (fun y ρ4 => Q .nx ((ρ4.set i (some x)).set j (some y))) E) E) E) E := by with_unfolding_all exact Pv0.wS_par2
theorem wS_par3 : Wp ((ev V J (.par3 i j l a b c)).s ρ) Q E = Wp ((ev V J a).e ρ) (fun u ρ1 => Wp ((ev V J b).e ρ1) (fun w ρ2 => Wp ((ev V J c).e ρ2) (fun v ρ3 => Wp (toA u ρ3) (fun x ρ4 => Wp (toA w ρ4) (fun y ρ5 => Wp (toA v ρ5) (fun z ρ6 => Q .nx (((ρ6.set i (some x)).set j (some y)).set l (some z))) E) E) E) E) E) E := by with_unfolding_all exact Pv0.wS_par3
theorem wS_setit : Wp ((ev V J (.setit i a b)).s ρ) Q E = Wp ((ev V J b).e ρ) (fun u ρ1 => Wp (frz u ρ1) (fun x ρ2 => sl (get ρ2 i) fun _ => Wp ((ev V J a).e ρ2) (fun w ρ3 => Wp (frz w ρ3) (fun y ρ4 => sl (get ρ4 i) fun z => wo (putQ z y x) fun z' => Q .nx (ρ4.set i (some z'))) E) E) E) E := by with_unfolding_all exact Pv0.wS_setit
theorem wS_try : Wp ((ev V J (.tryk i a)).s ρ) Q E = Wp ((ev V J a).e ρ) (fun u ρ1 => Wp (giveU J u ρ1) Q E) (fun x ρ1 => (x.fs.isEmpty = true ∧ i < ρ1.length) ∧ wo (V.res x.c) fun r => Q (.rt (.d (.str r))) ρ1) := by with_unfolding_all exact Pv0.wS_try
end
section
variable {Q : A → Ev → Prop} {E : X1 → Ev → Prop}
theorem wTo_v {a : A} : Wp (toA (.v a) ρ) Q E = Q a ρ := by with_unfolding_all exact Pv0.wTo_v
theorem wFrz_s' {Q : D → Ev → Prop} : Wp (frz (.s i) ρ) Q E = sl (get ρ i) fun a => fl a fun x => Q x (ρ.set i (some (.d x))) := by with_unfolding_all exact Pv0.wFrz_s'
theorem wTo_s : Wp (toA (.s i) ρ) Q E = sl (get ρ i) fun a => fl a fun x => Q (.d x) (ρ.set i (some (.d x))) := by with_unfolding_all exact Pv0.wTo_s
theorem wFrz_v {a : A} {Q : D → Ev → Prop} : Wp (frz (.v a) ρ) Q E = fl a fun x => Q x ρ := by with_unfolding_all exact Pv0.wFrz_v
theorem wFrzs_n {Q : List D → Ev → Prop} : Wp (frzs [] ρ) Q E = Q [] ρ := by with_unfolding_all exact Pv0.wFrzs_n
theorem wFrzs_c {u : U} {us : List U} {Q : List D → Ev → Prop} : Wp (frzs (u :: us) ρ) Q E = Wp (frz u ρ) (fun x ρ1 => Wp (frzs us ρ1) (fun xs ρ2 => Q (x :: xs) ρ2) E) E := by with_unfolding_all exact Pv0.wFrzs_c
end
section
variable {Q : U → Ev → Prop} {E : X1 → Ev → Prop}
theorem wOutA {o : Option A} : Wp (outA o ρ) Q E = wo o fun a => Q (.v a) ρ := by with_unfolding_all exact Pv0.wOutA
theorem wOutB {o : Option Bool} {Q : Bool → Ev → Prop} : Wp (outB o ρ) Q E = wo o fun a => Q a ρ := by with_unfolding_all exact Pv0.wOutB
theorem wE_nm : Wp ((ev V J (.nm i)).e ρ) Q E = nmU (get ρ i) i fun u => Q u ρ := by with_unfolding_all exact Pv0.wE_nm
theorem wE_int {i : Int} : Wp ((ev V J (.int i)).e ρ) Q E = Q (.v (.d (.int i))) ρ := by with_unfolding_all exact Pv0.wE_int
theorem wE_bl {i : Bool} : Wp ((ev V J (.bl i)).e ρ) Q E = Q (.v (.d (.bl i))) ρ := by with_unfolding_all exact Pv0.wE_bl
theorem wE_non : Wp ((ev V J .non).e ρ) Q E = Q (.v (.d .non)) ρ := by with_unfolding_all exact Pv0.wE_non
theorem wE_str {x : Str} : Wp ((ev V J (.str x)).e ρ) Q E = Q (.v (.d (.str x))) ρ := by with_unfolding_all exact Pv0.wE_str
theorem wE_gint {x : Str} {i : Int} : Wp ((ev V J (.gint x i)).e ρ) Q E = Q (.v (.d (.int i))) ρ := by with_unfolding_all exact Pv0.wE_gint
theorem wE_tyN {x : String} : Wp ((ev V J (.tyN x)).e ρ) Q E = Q (.v (.d (.ty x))) ρ := by with_unfolding_all exact Pv0.wE_tyN
theorem wE_gcls {c : Nat} : Wp ((ev V J (.gcls c)).e ρ) Q E = Q (.v (.d (.cls c))) ρ := by with_unfolding_all exact Pv0.wE_gcls
theorem wE_gfn {c : Nat} : Wp ((ev V J (.gfn c)).e ρ) Q E = Q (.v (.d (.fn c))) ρ := by with_unfolding_all exact Pv0.wE_gfn
theorem wApp2 {g : D → D → Option A} {u w : U} : Wp (app2 g u w ρ) Q E = vw ρ u fun x => vw ρ w fun y => wo (g x y) fun z => Q (.v z) ρ := by with_unfolding_all exact Pv0.wApp2
theorem wApp2B {g : D → D → Option Bool} {u w : U} {Q : Bool → Ev → Prop} : Wp (app2B g u w ρ) Q E = vw ρ u fun x => vw ρ w fun y => wo (g x y) fun z => Q z ρ := by with_unfolding_all exact Pv0.wApp2B
theorem wTru {u : U} {Q : Bool → Ev → Prop} : Wp (truS u ρ) Q E = vw ρ u fun x => wo (boolD x) fun k => Q k ρ := by with_unfolding_all exact Pv0.wTru
theorem wE_bin {op : Operator} : Wp ((ev V J (.bin op a b)).e ρ) Q E = Wp ((ev V J a).e ρ) (fun u ρ1 => Wp ((ev V J b).e ρ1) (fun w ρ2 => vw ρ2 u fun x => vw ρ2 w fun y => wo (binQ op x y) fun z => Q (.v z) ρ2) E) E := by with_unfolding_all exact Pv0.wE_bin
theorem wE_neg : Wp ((ev V J (.neg a)).e ρ) Q E = Wp ((ev V J a).e ρ) (fun u ρ1 => Wp (negU u ρ1) Q E) E := by with_unfolding_all exact Pv0.wE_neg
theorem wNeg {i : Int} : Wp (negU (.v (.d (.int i))) ρ) Q E = Q (.v (.d (.int (-i)))) ρ := by with_unfolding_all exact Pv0.wNeg
theorem wE_cmp {op : CmpOp} : Wp ((ev V J (.cmp op a b)).e ρ) Q E = Wp ((ev V J a).e ρ) (fun u ρ1 => Wp ((ev V J b).e ρ1) (fun w ρ2 => vw ρ2 u fun x => vw ρ2 w fun y => wo (cmpQ op x y) fun z => Q (.v (.d (.bl z))) ρ2) E) E := by with_unfolding_all exact Pv0.wE_cmp
theorem wT_cmp {op : CmpOp} {Q : Bool → Ev → Prop} : Wp ((ev V J (.cmp op a b)).t ρ) Q E = Wp ((ev V J a).e ρ) (fun u ρ1 => Wp ((ev V J b).e ρ1) (fun w ρ2 => vw ρ2 u fun x => vw ρ2 w fun y => wo (cmpQ op x y) fun z => Q z ρ2) E) E := by with_unfolding_all exact Pv0.wT_cmp
theorem wT_cmp3 {op op' : CmpOp} {Q : Bool → Ev → Prop} : Wp ((ev V J (.cmp3 op op' a b c)).t ρ) Q E = Wp ((ev V J a).e ρ) (fun u ρ1 => Wp (frz u ρ1) (fun x ρ2 => Wp ((ev V J b).e ρ2) (fun w ρ3 => Wp (frz w ρ3) (fun y ρ4 => wo (cmpQ op x y) fun k => br k (Wp ((ev V J c).e ρ4) (fun v ρ5 => Wp (frz v ρ5) (fun z ρ6 => wo (cmpQ op' y z) fun k => Q k ρ6) E) E) (Q false ρ4)) E) E) E) E := by with_unfolding_all exact Pv0.wT_cmp3
theorem wE_cmp3 {op op' : CmpOp} : Wp ((ev V J (.cmp3 op op' a b c)).e ρ) Q E = Wp ((ev V J (.cmp3 op op' a b c)).t ρ) (fun k ρ1 => Q (.v (.d (.bl k))) ρ1) E := by with_unfolding_all exact Pv0.wE_cmp3
theorem wT_and1 {Q : Bool → Ev → Prop} : Wp ((ev V J (.and1 a)).t ρ) Q E = Wp ((ev V J a).t ρ) Q E := by with_unfolding_all exact Pv0.wT_and1
theorem wE_and1 : Wp ((ev V J (.and1 a)).e ρ) Q E = Wp ((ev V J a).e ρ) Q E := by with_unfolding_all exact Pv0.wE_and1
theorem wT_or1 {Q : Bool → Ev → Prop} : Wp ((ev V J (.or1 a)).t ρ) Q E = Wp ((ev V J a).t ρ) Q E := by with_unfolding_all exact Pv0.wT_or1
theorem wE_or1 : Wp ((ev V J (.or1 a)).e ρ) Q E = Wp ((ev V J a).e ρ) Q E := by with_unfolding_all exact Pv0.wE_or1
theorem wT_and2 {Q : Bool → Ev → Prop} : Wp ((ev V J (.and2 a b)).t ρ) Q E = Wp ((ev V J a).t ρ) (fun k ρ1 => br k (Wp ((ev V J b).t ρ1) Q E) (Q false ρ1)) E := by with_unfolding_all exact Pv0.wT_and2
theorem wT_or2 {Q : Bool → Ev → Prop} : Wp ((ev V J (.or2 a b)).t ρ) Q E = Wp ((ev V J a).t ρ) (fun k ρ1 => br k (Q true ρ1) (Wp ((ev V J b).t ρ1) Q E)) E := by with_unfolding_all exact Pv0.wT_or2
theorem wT_not {Q : Bool → Ev → Prop} : Wp ((ev V J (.not a)).t ρ) Q E = Wp ((ev V J a).t ρ) (fun k ρ1 => Q (!k) ρ1) E := by with_unfolding_all exact Pv0.wT_not
@[irreducible] def isTr (u : U) (k : Bool → Prop) (_ku : Dm k := .mk) : Prop := Pv0.isTr u k
theorem isTr_b {b : Bool} {k : Bool → Prop} : isTr (.v (.d (.bl b))) k = k b := by with_unfolding_all exact Pv0.isTr_b
theorem wIsBl {u : U} {Q : Bool → Ev → Prop} : Wp (isBl u ρ) Q E = isTr u fun b => Q b ρ := by with_unfolding_all exact Pv0.wIsBl
theorem wE_and2 : Wp ((ev V J (.and2 a b)).e ρ) Q E = Wp ((ev V J a).e ρ) (fun u ρ1 => isTr u fun k => br k (Wp ((ev V J b).e ρ1) Q E) (Q (.v (.d (.bl false))) ρ1)) E := by with_unfolding_all exact Pv0.wE_and2
theorem wE_or2 : Wp ((ev V J (.or2 a b)).e ρ) Q E = Wp ((ev V J a).e ρ) (fun u ρ1 => isTr u fun k => br k (Q (.v (.d (.bl true))) ρ1) (Wp ((ev V J b).e ρ1) Q E)) E := by with_unfolding_all exact Pv0.wE_or2
theorem wE_not : Wp ((ev V J (.not a)).e ρ) Q E = Wp ((ev V J a).e ρ) (fun u ρ1 => isTr u fun k => Q (.v (.d (.bl (!k)))) ρ1) E := by with_unfolding_all exact Pv0.wE_not
theorem wE_ifx : Wp ((ev V J (.ifx c a b)).e ρ) Q E = Wp ((ev V J c).t ρ) (fun k ρ1 => br k (Wp ((ev V J a).e ρ1) Q E) (Wp ((ev V J b).e ρ1) Q E)) E := by with_unfolding_all exact Pv0.wE_ifx
theorem wE_tup : Wp ((ev V J (.tup as)).e ρ) Q E = Wp ((ev V J as).a ρ) (fun us ρ1 => Wp (frzs us ρ1) (fun xs ρ2 => wo (tupV xs) fun z => Q (.v z) ρ2) E) E := by with_unfolding_all exact Pv0.wE_tup
theorem wE_lst : Wp ((ev V J (.lst as)).e ρ) Q E = Wp ((ev V J as).a ρ) (fun us ρ1 => Wp (frzs us ρ1) (fun xs ρ2 => wo (lstV xs) fun z => Q (.v z) ρ2) E) E := by with_unfolding_all exact Pv0.wE_lst
theorem wE_dnew : Wp ((ev V J .dnew).e ρ) Q E = Q (.v (.m [])) ρ := by with_unfolding_all exact Pv0.wE_dnew
theorem wE_ix : Wp ((ev V J (.ix a b)).e ρ) Q E = Wp ((ev V J a).e ρ) (fun u ρ1 => Wp ((ev V J b).e ρ1) (fun w ρ2 => vw ρ2 u fun x => vw ρ2 w fun y => wo (ixQ x y) fun z => Q (.v z) ρ2) E) E := by with_unfolding_all exact Pv0.wE_ix
theorem wE_dget : Wp ((ev V J (.dget a b)).e ρ) Q E = Wp ((ev V J a).e ρ) (fun u ρ1 => Wp ((ev V J b).e ρ1) (fun w ρ2 => vw ρ2 u fun x => vw ρ2 w fun y => wo (dgetQ x y) fun z => Q (.v z) ρ2) E) E := by with_unfolding_all exact Pv0.wE_dget
theorem wT_din {n : Bool} {Q : Bool → Ev → Prop} : Wp ((ev V J (.din n a b)).t ρ) Q E = Wp ((ev V J a).e ρ) (fun u ρ1 => Wp ((ev V J b).e ρ1) (fun w ρ2 => vw ρ2 u fun x => vw ρ2 w fun y => wo (dinQ (if n then (!·) else id) x y) fun z => Q z ρ2) E) E := by with_unfolding_all exact Pv0.wT_din
theorem wE_din {n : Bool} : Wp ((ev V J (.din n a b)).e ρ) Q E = Wp ((ev V J (.din n a b)).t ρ) (fun k ρ1 => Q (.v (.d (.bl k))) ρ1) E := by with_unfolding_all exact Pv0.wE_din
@[irreducible] def pW (f : Option SemE) (ρ : Ev) (Q : Option Int → Ev → Prop) (E : X1 → Ev → Prop) (_Qu : Dm Q := .mk) (_Eu : Dm E := .mk) : Prop := Pv0.pW f ρ Q E
theorem wE_sl : Wp ((ev V J (.sl a b c)).e ρ) Q E = Wp ((ev V J a).e ρ) (fun u ρ1 => pW (ev V J b).o ρ1 (fun l ρ2 => pW (ev V J c).o ρ2 (fun h ρ3 => vw ρ3 u fun x => wo (sliceQ x l h) fun z => Q (.v z) ρ3) E) E) E := by with_unfolding_all exact Pv0.wE_sl
@[irreducible] def ioW (u : U) (k : Option Int → Prop) (_ku : Dm k := .mk) : Prop := Pv0.ioW u k
theorem ioW_i {i : Int} {k : Option Int → Prop} : ioW (.v (.d (.int i))) k = k (some i) := by with_unfolding_all exact Pv0.ioW_i
theorem pW_n {Q : Option Int → Ev → Prop} : pW (ev V J .nil).o ρ Q E = Q none ρ := by with_unfolding_all exact Pv0.pW_n
theorem pW_c {Q : Option Int → Ev → Prop} : pW (ev V J (.cons a as)).o ρ Q E = Wp ((ev V J a).e ρ) (fun u ρ1 => ioW u fun i => Q i ρ1) E := by with_unfolding_all exact Pv0.pW_c
theorem wE_slp {d : T} : Wp ((ev V J (.slp a b c d)).e ρ) Q E = Wp ((ev V J a).e ρ) (fun u ρ1 => pW (ev V J b).o ρ1 (fun l ρ2 => pW (ev V J c).o ρ2 (fun h ρ3 => pW (some (ev V J d).e) ρ3 (fun st ρ4 => Wp (stepU u l h st ρ4) Q E) E) E) E) E := by with_unfolding_all exact Pv0.wE_slp
theorem wE_prim {f : Pr} : Wp ((ev V J (.prim f as)).e ρ) Q E = Wp ((ev V J as).a ρ) (fun us ρ1 => vws ρ1 us fun xs => wo (f.sem V.sub xs) fun z => Q (.v z) ρ1) E := by with_unfolding_all exact Pv0.wE_prim
theorem wE_sortSet : Wp ((ev V J (.sortSet a)).e ρ) Q E = Wp ((ev V J a).e ρ) (fun u ρ1 => vw ρ1 u fun x => wo ((seqOf x).bind setL) fun out => Q (.v (.l out)) ρ1) E := by with_unfolding_all exact Pv0.wE_sortSet
theorem wE_lenSet : Wp ((ev V J (.lenSet a)).e ρ) Q E = Wp ((ev V J a).e ρ) (fun u ρ1 => vw ρ1 u fun x => wo ((seqOf x).bind toIs) fun ns => ns.length ≤ 4000 ∧ Q (.v (.d (.int (usort ltI ns).length))) ρ1) E := by with_unfolding_all exact Pv0.wE_lenSet
theorem wE_mmd {mx : Bool} {k : Option Int} : Wp ((ev V J (.mmd mx k a)).e ρ) Q E = Wp ((ev V J a).e ρ) (fun u ρ1 => vw ρ1 u fun x => wo (mmdD mx (kOpt k) x) fun z => Q (.v z) ρ1) E := by with_unfolding_all exact Pv0.wE_mmd
/-! conditions that are no comparison -/
theorem wT_nm {Q : Bool → Ev → Prop} : Wp ((ev V J (.nm i)).t ρ) Q E = Wp ((ev V J (.nm i)).e ρ) (fun u ρ1 => vw ρ1 u fun x => wo (boolD x) fun k => Q k ρ1) E := by with_unfolding_all exact Pv0.wT_nm
theorem wT_bl {i : Bool} {Q : Bool → Ev → Prop} : Wp ((ev V J (.bl i)).t ρ) Q E = Wp ((ev V J (.bl i)).e ρ) (fun u ρ1 => vw ρ1 u fun x => wo (boolD x) fun k => Q k ρ1) E := by with_unfolding_all exact Pv0.wT_bl
theorem wT_call {f : Nat} {Q : Bool → Ev → Prop} : Wp ((ev V J (.call f as)).t ρ) Q E = Wp ((ev V J (.call f as)).e ρ) (fun u ρ1 => vw ρ1 u fun x => wo (boolD x) fun k => Q k ρ1) E := by with_unfolding_all exact Pv0.wT_call
theorem wT_callX {ns : List Nat} {Q : Bool → Ev → Prop} : Wp ((ev V J (.callX ns a as)).t ρ) Q E = Wp ((ev V J (.callX ns a as)).e ρ) (fun u ρ1 => vw ρ1 u fun x => wo (boolD x) fun k => Q k ρ1) E := by with_unfolding_all exact Pv0.wT_callX
theorem wT_prim {f : Pr} {Q : Bool → Ev → Prop} : Wp ((ev V J (.prim f as)).t ρ) Q E = Wp ((ev V J (.prim f as)).e ρ) (fun u ρ1 => vw ρ1 u fun x => wo (boolD x) fun k => Q k ρ1) E := by with_unfolding_all exact Pv0.wT_prim
theorem wT_bin {op : Operator} {Q : Bool → Ev → Prop} : Wp ((ev V J (.bin op a b)).t ρ) Q E = Wp ((ev V J (.bin op a b)).e ρ) (fun u ρ1 => vw ρ1 u fun x => wo (boolD x) fun k => Q k ρ1) E := by with_unfolding_all exact Pv0.wT_bin
theorem wT_ix {Q : Bool → Ev → Prop} : Wp ((ev V J (.ix a b)).t ρ) Q E = Wp ((ev V J (.ix a b)).e ρ) (fun u ρ1 => vw ρ1 u fun x => wo (boolD x) fun k => Q k ρ1) E := by with_unfolding_all exact Pv0.wT_ix
/-! arguments -/
theorem wA_n {Q : List U → Ev → Prop} : Wp ((ev V J .nil).a ρ) Q E = Q [] ρ := by with_unfolding_all exact Pv0.wA_n
theorem wA_c {Q : List U → Ev → Prop} : Wp ((ev V J (.cons a as)).a ρ) Q E = Wp ((ev V J a).e ρ) (fun u ρ1 => Wp ((ev V J as).a ρ1) (fun us ρ2 => Q (u :: us) ρ2) E) E := by with_unfolding_all exact Pv0.wA_c
/-! calls -/
theorem wE_call {f : Nat} : Wp ((ev V J (.call f as)).e ρ) Q E = Wp ((ev V J as).a ρ) (fun us ρ1 => Wp (callU (V.J f) (V.call f) us ρ1) Q E) E := by with_unfolding_all exact Pv0.wE_call
theorem wCall_n {sem : SemF} {us : List U} : Wp (callU [] sem us ρ) Q E = Wp (frzs us ρ) (fun xs ρ1 => WF (sem (xs.map .d)) (fun z _ => Q (.v z) ρ1) (fun x _ => E x ρ1)) E := by with_unfolding_all exact Pv0.wCall_n
theorem hd_c {w : Option A} {ws : List (Option A)} : hd (w :: ws) ρ i = ρ.set i w := by with_unfolding_all exact Pv0.hd_c
theorem wCall_0 {sem : SemF} {us : List U} : Wp (callU [0] sem (.s i :: us) ρ) Q E = Wp (frzs us ρ) (fun xs ρ1 => sl (get ρ1 i) fun p => WF (sem (p :: xs.map .d)) (fun z ws => Q (.v z) (hd ws ρ1 i)) (fun x ws => E x (hd ws ρ1 i))) E := by with_unfolding_all exact Pv0.wCall_0
@[irreducible] def fnW (u : U) (k : Nat → Prop) (_ku : Dm k := .mk) : Prop := Pv0.fnW u k
theorem fnW_f {k : Nat → Prop} : fnW (.v (.d (.fn i))) k = k i := by with_unfolding_all exact Pv0.fnW_f
theorem wE_callX {ns : List Nat} : Wp ((ev V J (.callX ns a as)).e ρ) Q E = Wp ((ev V J a).e ρ) (fun u ρ1 => fnW u fun f => ns.contains f = true ∧ Wp ((ev V J as).a ρ1) (fun us ρ2 => Wp (callU (V.J f) (V.call f) us ρ2) Q E) E) E := by with_unfolding_all exact Pv0.wE_callX
@[irreducible] def mmW (a : Option A) (k : List (D × D) → Prop) (_ku : Dm k := .mk) : Prop := Pv0.mmW a k
theorem mmW_m {kvs : List (D × D)} {k : List (D × D) → Prop} : mmW (some (.m kvs)) k = k kvs := by with_unfolding_all exact Pv0.mmW_m
@[irreducible] def mW (u : U) (ρ : Ev) (k : List (D × D) → Prop) (_ku : Dm k := .mk) : Prop := Pv0.mW u ρ k
theorem mW_v {a : A} {k : List (D × D) → Prop} : mW (.v a) ρ k = mmW (some a) k := by with_unfolding_all exact Pv0.mW_v
theorem mW_s {k : List (D × D) → Prop} : mW (.s i) ρ k = mmW (get ρ i) k := by with_unfolding_all exact Pv0.mW_s
theorem wE_sitems : Wp ((ev V J (.sitems a)).e ρ) Q E = Wp ((ev V J a).e ρ) (fun u ρ1 => mW u ρ1 fun kvs => okSort (itemsD kvs) = true ∧ Q (.v (.l (sortD (itemsD kvs)))) ρ1) E := by with_unfolding_all exact Pv0.wE_sitems
@[irreducible] def atW (a : A) (k : D → Prop) (_ku : Dm k := .mk) : Prop := Pv0.atW a k
theorem atW_d {x : D} {k : D → Prop} : atW (.d x) k = (atomD x = true ∧ k x) := by with_unfolding_all exact Pv0.atW_d
theorem wE_callB {f : Nat} : Wp ((ev V J (.callB f as)).e ρ) Q E = Wp ((ev V J as).a ρ) (fun us ρ1 => vws ρ1 us fun xs => WF (V.call f (xs.map .d)) (fun z _ => atW z fun x => Q (.v (.d x)) ρ1) no) E := by with_unfolding_all exact Pv0.wE_callB
/-! methods -/
theorem wE_meth {m : Mt} : Wp ((ev V J (.meth m a as)).e ρ) Q E = Wp ((ev V J a).e ρ) (fun u ρ1 => vw ρ1 u fun x => tyOk m.T x = true ∧ Wp ((ev V J as).a ρ1) (fun us ρ2 => vw ρ2 u fun x => vws ρ2 us fun xs => tyOk m.T x = true ∧ wo (m.sem x xs) fun z => Q (.v z) ρ2) E) E := by with_unfolding_all exact Pv0.wE_meth
@[irreducible] def oT (T : String) (u : U) (ρ : Ev) (k : Nat → A → Prop) (_ku : Dm k := .mk) : Prop := Pv0.oT T u ρ k
theorem oT_s {T : String} {k : Nat → A → Prop} : oT T (.s i) ρ k = sl (get ρ i) fun a => (match a with | .l _ => T == "list" | .m _ => T == "dict" | _ => false) = true ∧ k i a := by with_unfolding_all exact Pv0.oT_s
theorem wE_mut {m : Mu} : Wp ((ev V J (.mut m a as)).e ρ) Q E = Wp ((ev V J a).e ρ) (fun u ρ1 => oT m.T u ρ1 fun i _ => Wp ((if m.bare then nilA else (ev V J as).a) ρ1) (fun us ρ2 => Wp (frzs us ρ2) (fun xs ρ3 => sl (get ρ3 i) fun z => wo (m.sem z xs) fun r => Q (.v (.d r.1)) (ρ3.set i (some r.2))) E) E) E := by with_unfolding_all exact Pv0.wE_mut
@[irreducible] def dctW (x : D) (k : List D → List D → Prop) (_ku : Dm k := .mk) : Prop := Pv0.dctW x k
theorem dctW_d {ks ds : List D} {k : List D → List D → Prop} : dctW (.dct ks ds) k = (ks.length = ds.length ∧ k ks ds) := by with_unfolding_all exact Pv0.dctW_d
theorem wE_dget2 {d : T} : Wp ((ev V J (.dget2 d a b)).e ρ) Q E = Wp ((ev V J d).e ρ) (fun u ρ1 => vw ρ1 u fun x => dctW x fun _ _ => Wp ((ev V J a).e ρ1) (fun u2 ρ2 => Wp (frz u2 ρ2) (fun y ρ3 => Wp ((ev V J b).e ρ3) (fun u3 ρ4 => Wp (frz u3 ρ4) (fun z ρ5 => vw ρ5 u fun x => dctW x fun ks ds => wo (keyOf y) fun k => Q (.v (.d ((lookD (ks.zip ds) k).getD z))) ρ5) E) E) E) E) E := by with_unfolding_all exact Pv0.wE_dget2
/-! what is gone through -/
theorem wE_comp {own : List (Str × Nat)} : Wp ((ev V J (.comp own a b c as)).e ρ) Q E = Wp ((ev V J a).i ρ) (fun ds ρ1 => ds.length ≤ 16777216 ∧ Wp (compL (ev V J b).g (ev V J c).f (ev V J as).e (own.map (·.2)) ds (wipeE ρ1 (own.map (·.2)))) (fun ys ρ2 => Q (.v (.l ys)) ρ2) E) E := by with_unfolding_all exact Pv0.wE_comp
end
section
variable {Q : List D → Ev → Prop} {E : X1 → Ev → Prop}
@[irreducible] def sqW (x : D) (k : List D → Prop) (_ku : Dm k := .mk) : Prop := Pv0.sqW x k
theorem sqW_l {ds : List D} {k : List D → Prop} : sqW (.lst ds) k = k ds := by with_unfolding_all exact Pv0.sqW_l
theorem sqW_t {ds : List D} {k : List D → Prop} : sqW (.tup ds) k = k ds := by with_unfolding_all exact Pv0.sqW_t
theorem sqW_s {ds : List Int} {k : List D → Prop} : sqW (.scr ds) k = k (ds.map .int) := by with_unfolding_all exact Pv0.sqW_s
theorem wI_seq : Wp ((ev V J (.iseq a)).i ρ) Q E = Wp ((ev V J a).e ρ) (fun u ρ1 => Wp (frz u ρ1) (fun x ρ2 => sqW x fun ds => Q ds ρ2) E) E := by with_unfolding_all exact Pv0.wI_seq
@[irreducible] def inW (u : U) (k : Int → Prop) (_ku : Dm k := .mk) : Prop := Pv0.inW u k
theorem inW_i {i : Int} {k : Int → Prop} : inW (.v (.d (.int i))) k = k i := by with_unfolding_all exact Pv0.inW_i
theorem rangeIf {α : Type} {c : Prop} [Decidable c] {x : α} {Q : α → Ev → Prop} : Wp (if c then .ok x ρ else .bad) Q E = (c ∧ Q x ρ) := by with_unfolding_all exact Pv0.rangeIf
theorem wI_range1 : Wp ((ev V J (.irange1 a)).i ρ) Q E = Wp ((ev V J a).e ρ) (fun u ρ1 => inW u fun j => okR j = true ∧ Q ((List.range j.toNat).map fun i : Nat => D.int (0 + (i : Int))) ρ1) E := by with_unfolding_all exact Pv0.wI_range1
theorem wI_range2 : Wp ((ev V J (.irange2 a b)).i ρ) Q E = Wp ((ev V J a).e ρ) (fun u ρ1 => Wp ((ev V J b).e ρ1) (fun w ρ2 => inW u fun i => inW w fun j => (okR i = true ∧ okR j = true) ∧ Q ((List.range (j - i).toNat).map fun n : Nat => D.int (i + (n : Int))) ρ2) E) E := by with_unfolding_all exact Pv0.wI_range2
@[irreducible] def zpW (x y : D) (k : List D → Prop) (_ku : Dm k := .mk) : Prop := Pv0.zpW x y k
theorem zpW_l {xs ys : List D} {k : List D → Prop} : zpW (.lst xs) (.lst ys) k = k (zipD xs ys) := by with_unfolding_all exact Pv0.zpW_l
theorem zpW_t {xs ys : List D} {k : List D → Prop} : zpW (.tup xs) (.tup ys) k = k (zipD xs ys) := by with_unfolding_all exact Pv0.zpW_t
theorem wI_zip : Wp ((ev V J (.izip a b)).i ρ) Q E = Wp ((ev V J a).e ρ) (fun u ρ1 => Wp ((ev V J b).e ρ1) (fun w ρ2 => Wp (frz u ρ2) (fun x ρ3 => Wp (frz w ρ3) (fun y ρ4 => zpW x y fun ds => Q ds ρ4) E) E) E) E := by with_unfolding_all exact Pv0.wI_zip
@[irreducible] def enW (x : D) (k : List D → Prop) (_ku : Dm k := .mk) : Prop := Pv0.enW x k
theorem enW_l {ds : List D} {k : List D → Prop} : enW (.lst ds) k = k (enumD ds) := by with_unfolding_all exact Pv0.enW_l
theorem enW_t {ds : List D} {k : List D → Prop} : enW (.tup ds) k = k (enumD ds) := by with_unfolding_all exact Pv0.enW_t
theorem wI_enum : Wp ((ev V J (.ienum a)).i ρ) Q E = Wp ((ev V J a).e ρ) (fun u ρ1 => Wp (frz u ρ1) (fun x ρ2 => enW x fun ds => Q ds ρ2) E) E := by with_unfolding_all exact Pv0.wI_enum
/-! targets -/
theorem gW_nm {d : D} {k : Ev → Prop} : gW (ev V J (.gnm i)).g d ρ k = k (ρ.set i (some (.d d))) := by with_unfolding_all exact Pv0.gW_nm
theorem gW_tup {ds : List D} {k : Ev → Prop} : gW (ev V J (.gtup as)).g (.tup ds) ρ k = (ds.length = lenT as ∧ gsW (ev V J as).gs ds ρ k) := by with_unfolding_all exact Pv0.gW_tup
theorem gW_lst {ds : List D} {k : Ev → Prop} : gW (ev V J (.gtup as)).g (.lst ds) ρ k = (ds.length = lenT as ∧ gsW (ev V J as).gs ds ρ k) := by with_unfolding_all exact Pv0.gW_lst
theorem gsW_n {k : Ev → Prop} : gsW (ev V J .nil).gs [] ρ k = k ρ := by with_unfolding_all exact Pv0.gsW_n
theorem gsW_c {d : D} {ds : List D} {k : Ev → Prop} : gsW (ev V J (.cons a as)).gs (d :: ds) ρ k = gW (ev V J a).g d ρ fun ρ1 => gsW (ev V J as).gs ds ρ1 k := by with_unfolding_all exact Pv0.gsW_c
end
end
/-! ### a def's end -/
theorem WF_fn {ar n : Nat} {J : List Nat} {body : SemS} {as : List A} {Q : A → List (Option A) → Prop} {E : X1 → List (Option A) → Prop} (hl : as.length = ar) (h : Wp (body (as.map some ++ List.replicate (n - ar) none)) (fun r ρ => exF r fun a => Q a (keepJ J 0 ar ρ)) (fun x ρ => E x (keepJ J 0 ar ρ))) : WF (fnV ar n J body as) Q E := by with_unfolding_all exact Pv0.WF_fn hl h
theorem WF_call {D : Nat → Option Df} {sub : Nat → Nat → Bool} {res : Nat → Option Str} {k f : Nat} {d : Df} (e : D f = some d) {as : List A} {Q : A → List (Option A) → Prop} {E : X1 → List (Option A) → Prop} (hl : as.length = d.ar)
    (h : Wp ((ev ⟨evCall D sub res k, jOf D, sub, res, evL D sub res k⟩ d.J d.body).s (as.map some ++ List.replicate (d.N.length - d.ar) none)) (fun r ρ => exF r fun a => Q a (keepJ d.J 0 d.ar ρ)) (fun x ρ => E x (keepJ d.J 0 d.ar ρ))) : WF (evCall D sub res (k + 1) f as) Q E := by with_unfolding_all exact Pv0.WF_call e hl h
/-! only what is first is looked into -/
/-! ### some slots put otherwise -/
theorem setM_n {ρ : Ev} {xs : List (Option A)} : setM ρ [] xs = ρ := by with_unfolding_all exact Pv0.setM_n
theorem setM_c {ρ : Ev} {i : Nat} {M : List Nat} {x : Option A} {xs : List (Option A)} : setM ρ (i :: M) (x :: xs) = setM (ρ.set i x) M xs := by with_unfolding_all exact Pv0.setM_c
theorem set_get : ∀ (ρ : Ev) (i : Nat), ρ.set i (get ρ i) = ρ := by with_unfolding_all exact Pv0.set_get
theorem setM_get (ρ : Ev) : ∀ M : List Nat, setM ρ M (M.map (get ρ)) = ρ := by with_unfolding_all exact Pv0.setM_get ρ
section
variable {α : Type} {tg : SemG} {body : SemS} {E : X1 → Ev → Prop}
theorem wp_forL {Q : Fw → Ev → Prop} (I : List D → Ev → Prop) (hs : ∀ d ds ρ, I (d :: ds) ρ → gW tg d ρ fun ρ1 => Wp (body ρ1) (fun r ρ2 => lp r (I ds ρ2) (Q .nx ρ2) (Q r ρ2)) E) (hq : ∀ ρ, I [] ρ → Q .nx ρ) :
    ∀ (ds : List D) (ρ : Ev), I ds ρ → Wp (forL tg body ds ρ) Q E := by with_unfolding_all exact Pv0.wp_forL I hs hq
theorem wp_for (enc : α → D) (M : List Nat) (I : List α → List (Option A) → Prop) {Q : Fw → Ev → Prop} (L : List α) (ρ : Ev) (h0 : I L (M.map (get ρ)))
    (hs : ∀ a L' vs, I (a :: L') vs → gW tg (enc a) (setM ρ M vs) fun ρ1 => Wp (body ρ1) (fun r ρ2 => lp r (∃ vs', ρ2 = setM ρ M vs' ∧ I L' vs') (Q .nx ρ2) (Q r ρ2)) E)
    (hq : ∀ vs, I [] vs → Q .nx (setM ρ M vs)) : Wp (forL tg body (L.map enc) ρ) Q E := by with_unfolding_all exact Pv0.wp_for enc M I L ρ h0 hs hq
end
section
variable {α : Type} {tg : SemG} {t : SemT} {f : SemE} {own : List Nat} {E : X1 → Ev → Prop} {Q : List D → Ev → Prop} {ρ : Ev}
theorem compL_out {c : Option SemT} {d : D} {ds : List D} : Wp (compL tg c f own (d :: ds) ρ) Q E = gW tg d ρ fun ρ1 => Wp ((ifsS c ρ1).nox) (fun k ρ2 => br k (Wp ((dE f ρ2).nox) (fun y ρ3 => Wp (compL tg c f own ds (wipeE ρ3 own)) (fun ys ρ4 => Q (y :: ys) ρ4) E) E) (Wp (compL tg c f own ds (wipeE ρ2 own)) Q E)) E := by with_unfolding_all exact Pv0.compL_out
theorem wp_comp (enc : α → D) (g : α → D) (L : List α) (hs : ∀ a ∈ L, gW tg (enc a) ρ fun ρ1 => Wp (f ρ1) (fun u ρ2 => Wp (frz u ρ2) (fun y ρ3 => wipeE ρ3 own = ρ ∧ y = g a) no) no) (hq : Q (L.map g) ρ) : Wp (compL tg none f own (L.map enc) ρ) Q E := by with_unfolding_all exact Pv0.wp_comp enc g L hs hq
theorem wp_compF (enc : α → D) (c : α → Bool) (g : α → D) (L : List α) (hs : ∀ a ∈ L, gW tg (enc a) ρ fun ρ1 => Wp (t ρ1) (fun k ρ2 => k = c a ∧ br k (Wp (f ρ2) (fun u ρ2 => Wp (frz u ρ2) (fun y ρ3 => wipeE ρ3 own = ρ ∧ y = g a) no) no) (wipeE ρ2 own = ρ)) no)
    (hq : Q ((L.filter c).map g) ρ) : Wp (compL tg (some t) f own (L.map enc) ρ) Q E := by with_unfolding_all exact Pv0.wp_compF enc c g L hs hq
theorem wp_compM (enc : α → D) (M : List Nat) (I : List α → List D → List (Option A) → Prop) (L : List α) (h0 : I L [] (M.map (get ρ)))
    (hs : ∀ a L' ys vs, I (a :: L') ys vs → gW tg (enc a) (setM ρ M vs) fun ρ1 => Wp (f ρ1) (fun u ρ2 => Wp (frz u ρ2) (fun y ρ3 => ∃ vs', wipeE ρ3 own = setM ρ M vs' ∧ I L' (ys ++ [y]) vs') no) no)
    (hq : ∀ ys vs, I [] ys vs → Q ys (setM ρ M vs)) : Wp (compL tg none f own (L.map enc) ρ) Q E := by with_unfolding_all exact Pv0.wp_compM enc M I L h0 hs hq
end
theorem wp_whileN {t : SemT} {body : SemS} {Q : Fw → Ev → Prop} {E : X1 → Ev → Prop} (I : Nat → Ev → Prop) (hs : ∀ n ρ, I n ρ → Wp (t ρ) (fun k ρ1 => br k (Wp (body ρ1) (fun r ρ2 => lp r (∃ m, m < n ∧ I m ρ2) (Q .nx ρ2) (Q r ρ2)) E) (Q .nx ρ1)) E) :
    ∀ (F n : Nat) (ρ : Ev), n < F → I n ρ → Wp (whileL t body F ρ) Q E := by with_unfolding_all exact Pv0.wp_whileN I hs
theorem wp_while {t : SemT} {body : SemS} {Q : Fw → Ev → Prop} {E : X1 → Ev → Prop} (M : List Nat) (I : Nat → List (Option A) → Prop) (n : Nat) (ρ : Ev) (hn : n < 1099511627776) (h0 : I n (M.map (get ρ)))
    (hs : ∀ n vs, I n vs → Wp (t (setM ρ M vs)) (fun k ρ1 => br k (Wp (body ρ1) (fun r ρ2 => lp r (∃ m vs', m < n ∧ ρ2 = setM ρ M vs' ∧ I m vs') (Q .nx ρ2) (Q r ρ2)) E) (Q .nx ρ1)) E) : Wp (whileL t body FUEL ρ) Q E := by with_unfolding_all exact Pv0.wp_while M I n ρ hn h0 hs
/-! the same over data as they are -/
section
variable {tg : SemG} {t : SemT} {f : SemE} {body : SemS} {own : List Nat} {E : X1 → Ev → Prop} {Q : List D → Ev → Prop} {ρ : Ev}
theorem wp_compD (g : D → D) (ds : List D) (hs : ∀ a ∈ ds, gW tg a ρ fun ρ1 => Wp (f ρ1) (fun u ρ2 => Wp (frz u ρ2) (fun y ρ3 => wipeE ρ3 own = ρ ∧ y = g a) no) no) (hq : Q (ds.map g) ρ) : Wp (compL tg none f own ds ρ) Q E := by with_unfolding_all exact Pv0.wp_compD g ds hs hq
theorem wp_compFD (c : D → Bool) (g : D → D) (ds : List D) (hs : ∀ a ∈ ds, gW tg a ρ fun ρ1 => Wp (t ρ1) (fun k ρ2 => k = c a ∧ br k (Wp (f ρ2) (fun u ρ2 => Wp (frz u ρ2) (fun y ρ3 => wipeE ρ3 own = ρ ∧ y = g a) no) no) (wipeE ρ2 own = ρ)) no)
    (hq : Q ((ds.filter c).map g) ρ) : Wp (compL tg (some t) f own ds ρ) Q E := by with_unfolding_all exact Pv0.wp_compFD c g ds hs hq
theorem wp_compMD (M : List Nat) (I : List D → List D → List (Option A) → Prop) (L : List D) (h0 : I L [] (M.map (get ρ)))
    (hs : ∀ a L' ys vs, I (a :: L') ys vs → gW tg a (setM ρ M vs) fun ρ1 => Wp (f ρ1) (fun u ρ2 => Wp (frz u ρ2) (fun y ρ3 => ∃ vs', wipeE ρ3 own = setM ρ M vs' ∧ I L' (ys ++ [y]) vs') no) no)
    (hq : ∀ ys vs, I [] ys vs → Q ys (setM ρ M vs)) : Wp (compL tg none f own L ρ) Q E := by with_unfolding_all exact Pv0.wp_compMD M I L h0 hs hq
theorem wp_forD (M : List Nat) (I : List D → List (Option A) → Prop) {Q : Fw → Ev → Prop} (L : List D) (ρ : Ev) (h0 : I L (M.map (get ρ)))
    (hs : ∀ a L' vs, I (a :: L') vs → gW tg a (setM ρ M vs) fun ρ1 => Wp (body ρ1) (fun r ρ2 => lp r (∃ vs', ρ2 = setM ρ M vs' ∧ I L' vs') (Q .nx ρ2) (Q r ρ2)) E)
    (hq : ∀ vs, I [] vs → Q .nx (setM ρ M vs)) : Wp (forL tg body L ρ) Q E := by with_unfolding_all exact Pv0.wp_forD M I L ρ h0 hs hq
end
section
variable {V : Gv} {J : List Nat} {a b as : T} {ρ : Ev} {E : X1 → Ev → Prop} {Q : U → Ev → Prop}
@[irreducible] def oE (us : List U) (k : List Bool → List D → Prop) (_ku : Dm k := .mk) : Prop := Pv0.oE us k
theorem wE_lstN : Wp ((ev V J (.lstN as)).e ρ) Q E = Wp ((ev V J as).a ρ) (fun us ρ1 => oE us fun os ds => ds.length ≤ 16777216 ∧ Q (.v (.n os ds)) ρ1) E := by with_unfolding_all exact Pv0.wE_lstN
theorem wT_lend {Q : Bool → Ev → Prop} : Wp ((ev V J (.lend a)).t ρ) Q E = Wp ((ev V J a).t (lent ρ)) (fun k _ => Q k ρ) (fun _ _ => False) := by with_unfolding_all exact Pv0.wT_lend
theorem wE_appN {c : T} : Wp ((ev V J (.appN a b c)).e ρ) Q E = Wp ((ev V J a).e ρ) (fun u ρ1 => Wp ((ev V J b).e ρ1) (fun w ρ2 => Wp (appNU (ev V J c).a u w ρ2) Q E) E) E := by with_unfolding_all exact Pv0.wE_appN
theorem lent_nil : lent [] = [] := by with_unfolding_all exact Pv0.lent_nil
theorem lent_some {x : A} : lent (some x :: ρ) = some (.d (dataA x)) :: lent ρ := by with_unfolding_all exact Pv0.lent_some
theorem lent_none : lent (none :: ρ) = none :: lent ρ := by with_unfolding_all exact Pv0.lent_none
end
section
variable {V : Gv} {J : List Nat} {a b as : T} {ρ : Ev} {E : X1 → Ev → Prop} {Q : U → Ev → Prop}
theorem wNox {α : Type} {o : Out α} {Q : α → Ev → Prop} : Wp o.nox Q E = Wp o Q no := by with_unfolding_all exact Pv0.wNox
@[irreducible] def oE1 (u : U) (k : Bool → D → Prop) (_ku : Dm k := .mk) : Prop := Pv0.oE1 u k
theorem wCompN_nil {tg : SemG} {f : SemE} {vs : List Nat} {Q : List Bool × List D → Ev → Prop} : Wp (compNL tg f vs [] ρ) Q E = Q ([], []) ρ := by with_unfolding_all exact Pv0.wCompN_nil
theorem wCompN_cons {tg : SemG} {f : SemE} {vs : List Nat} {d : D} {ds : List D} {Q : List Bool × List D → Ev → Prop} :
    Wp (compNL tg f vs (d :: ds) ρ) Q E = gW tg d ρ fun ρ1 => Wp (f ρ1) (fun u ρ3 => oE1 u fun o y => Wp (compNL tg f vs ds (wipeE ρ3 vs)) (fun ys ρ4 => Q (o :: ys.1, y :: ys.2) ρ4) E) no := by with_unfolding_all exact Pv0.wCompN_cons
theorem wE_compN {own : List (Str × Nat)} : Wp ((ev V J (.compN own a b as)).e ρ) Q E = Wp ((ev V J a).i ρ) (fun ds ρ1 => ds.length ≤ 16777216 ∧ Wp (compNL (ev V J b).g (ev V J as).e (own.map (·.2)) ds (wipeE ρ1 (own.map (·.2)))) (fun ys ρ2 => Q (.v (.n ys.1 ys.2)) ρ2) E) E := by with_unfolding_all exact Pv0.wE_compN
@[irreducible] def apW (u w : U) (ρ : Ev) (k : Nat → List Bool → List D → Nat → List D → Prop) (_ku : Dm k := .mk) : Prop := Pv0.apW u w ρ k
theorem wAppNU {ga : SemA} {u w : U} : Wp (appNU ga u w ρ) Q E = apW u w ρ fun i os ds j xs => Wp (ga (ρ.set i none)) (fun us ρ1 => Wp (frzs us ρ1) (fun ys ρ2 => match ys with
    | [y] => xs.length < 16777216 ∧ Q (.v (.d .non)) (ρ2.set i (some (.n os (ds.set j (.lst (xs ++ [y]))))))
    | _ => False) E) E := by with_unfolding_all exact Pv0.wAppNU
@[irreducible] def loW (c : Option (Nat → SemF)) (k : (Nat → SemF) → Prop) (_ku : Dm k := .mk) : Prop := Pv0.loW c k
theorem loW_s {c : Nat → SemF} {k : (Nat → SemF) → Prop} : loW (some c) k = k c := by with_unfolding_all exact Pv0.loW_s
theorem evL_s {D : Nat → Option Df} {sub : Nat → Nat → Bool} {res : Nat → Option Str} {k : Nat} : evL D sub res (k + 2) = some (evCall D sub res k) := by with_unfolding_all exact Pv0.evL_s
theorem wE_refl {told : Str} : Wp ((ev V J (.refl told a)).e ρ) Q E = loW V.callL fun cl => Wp ((ev ⟨cl, V.J, V.sub, V.res, none⟩ J a).e (lent ρ)) (fun _ _ => Q (.v (.d (.str told))) ρ) (fun x _ => x.fs = [] ∧ wo (V.res x.c) fun r => Q (.v (.d (.str r))) ρ) := by with_unfolding_all exact Pv0.wE_refl
/-! the first rules -/
theorem oE_n {k : List Bool → List D → Prop} : oE [] k = k [] [] := by with_unfolding_all exact Pv0.oE_n
theorem oE_c {u : U} {us : List U} {k : List Bool → List D → Prop} : oE (u :: us) k = oE1 u fun o d => oE us fun os ds => k (o :: os) (d :: ds) := by with_unfolding_all exact Pv0.oE_c
theorem oE1_d {x : D} {k : Bool → D → Prop} : oE1 (.v (.d x)) k = k false x := by with_unfolding_all exact Pv0.oE1_d
theorem oE1_l {xs : List D} {k : Bool → D → Prop} : oE1 (.v (.l xs)) k = k true (.lst xs) := by with_unfolding_all exact Pv0.oE1_l
@[irreducible] def nW (x : Option A) (k : List Bool → List D → Prop) (_ku : Dm k := .mk) : Prop := Pv0.nW x k
theorem nW_n {os : List Bool} {ds : List D} {k : List Bool → List D → Prop} : nW (some (.n os ds)) k = k os ds := by with_unfolding_all exact Pv0.nW_n
@[irreducible] def lW (x : Option D) (k : List D → Prop) (_ku : Dm k := .mk) : Prop := Pv0.lW x k
theorem lW_l {xs : List D} {k : List D → Prop} : lW (some (.lst xs)) k = k xs := by with_unfolding_all exact Pv0.lW_l
theorem apW_s {i : Nat} {z : Int} {k : Nat → List Bool → List D → Nat → List D → Prop} : apW (.s i) (.v (.d (.int z))) ρ k = nW (get ρ i) fun os ds => wo (ixN ds.length z) fun j => os[j]? = some true ∧ lW ds[j]? fun xs => k i os ds j xs := by with_unfolding_all exact Pv0.apW_s
end
end Pv

namespace Lk
open PySem Pv
def d0 : Df := ⟨"is_whole", 1, [], ["thing"], (.cons (.ret (.and2 (.prim .isi (.cons (.nm 0) (.cons (.tyN "int") .nil))) (.and1 (.not (.prim .isi (.cons (.nm 0) (.cons (.tyN "bool") .nil))))))) .nil), false⟩
def d1 : Df := ⟨"is_from", 3, [], ["thing", "low", "high"], (.cons (.ret (.and2 (.call 0 (.cons (.nm 0) .nil)) (.and1 (.cmp3 .LtE .LtE (.nm 1) (.nm 0) (.nm 2))))) .nil), false⟩
def d2_e0 : T := (.call 1 (.cons (.nm 1) (.cons (.bin .Sub (.int 0) (.gint "MOST_PART" 1000)) (.cons (.gint "MOST_PART" 1000) .nil))))
def d2 : Df := ⟨"point_good", 1, [], ["thing", "part"], (.cons (.ite (.or2 (.not (.prim .isi (.cons (.nm 0) (.cons (.tyN "tuple") .nil)))) (.or1 (.cmp .NotEq (.prim .len (.cons (.nm 0) .nil)) (.int 2)))) (.cons (.ret (.bl false)) .nil) .nil) (.cons (.ret (.prim .all (.cons (.comp [("part", 1)] (.iseq (.nm 0)) (.gnm 1) .nil d2_e0) .nil))) .nil)), false⟩
def d3_e0 : T := (.call 2 (.cons (.nm 1) .nil))
def d3_e1 : T := (.cmp .Lt (.nm 2) (.nm 3))
def d3 : Df := ⟨"lot_good", 1, [], ["thing", "point", "one", "other"], (.cons (.ite (.or2 (.not (.prim .isi (.cons (.nm 0) (.cons (.tyN "tuple") .nil)))) (.or1 (.not (.cmp3 .LtE .LtE (.int 1) (.prim .len (.cons (.nm 0) .nil)) (.gint "MOST_POINTS" 40))))) (.cons (.ret (.bl false)) .nil) .nil) (.cons (.ite (.not (.prim .all (.cons (.comp [("point", 1)] (.iseq (.nm 0)) (.gnm 1) .nil d3_e0) .nil))) (.cons (.ret (.bl false)) .nil) .nil) (.cons (.ret (.prim .all (.cons (.comp [("one", 2), ("other", 3)] (.izip (.nm 0) (.sl (.nm 0) (.cons (.int 1) .nil) .nil)) (.gtup (.cons (.gnm 2) (.cons (.gnm 3) .nil))) .nil d3_e1) .nil))) .nil))), false⟩
def d6 : Df := ⟨"_law_cell", 2, [], ["_law_script", "_law_k"], (.cons (.ite (.cmp .Lt (.nm 1) (.prim .len (.cons (.nm 0) .nil))) (.cons (.ret (.ix (.nm 0) (.nm 1))) .nil) .nil) (.cons (.ret (.int 0)) .nil)), false⟩
def d7 : Df := ⟨"_law_pen", 1, [], ["_law_cell_here"], (.cons (.ret (.lst (.cons (.nm 0) (.cons (.prim .int (.cons (.cmp .GtE (.nm 0) (.bin .Pow (.int 10) (.int 18))) .nil)) .nil)))) .nil), false⟩
def d8 : Df := ⟨"_law_draw", 2, [0], ["_law_pen_here", "_law_many", "_law_found"], (.cons (.ite (.cmp .Eq (.ix (.nm 0) (.int 1)) (.int 1)) (.cons (.set 2 (.bin .Mod (.ix (.nm 0) (.int 0)) (.nm 1))) (.cons (.setit 0 (.int 0) (.bin .FloorDiv (.ix (.nm 0) (.int 0)) (.nm 1))) (.cons (.ret (.nm 2)) .nil))) .nil) (.cons (.setit 0 (.int 0) (.bin .Mod (.bin .Add (.bin .Mult (.bin .Mod (.ix (.nm 0) (.int 0)) (.int 2147483629)) (.int 48271)) (.int 11)) (.int 2147483629))) (.cons (.ret (.bin .Mod (.bin .FloorDiv (.bin .Mod (.bin .Add (.bin .Mult (.ix (.nm 0) (.int 0)) (.ix (.nm 0) (.int 0))) (.bin .Mult (.int 40692) (.ix (.nm 0) (.int 0)))) (.int 2147483647)) (.int 8)) (.nm 1))) .nil))), false⟩
def d9 : Df := ⟨"_law_whole", 1, [], ["_law_thing"], (.cons (.ret (.and2 (.prim .isi (.cons (.nm 0) (.cons (.tyN "int") .nil))) (.and1 (.not (.prim .isi (.cons (.nm 0) (.cons (.tyN "bool") .nil))))))) .nil), false⟩
def d10_b0 : T := (.cons (.ite (.not (.call 10 (.cons (.nm 2) (.cons (.nm 3) .nil)))) (.cons (.ret (.bl false)) .nil) .nil) .nil)
def d10_l0 : T := .for_ (.izip (.nm 0) (.nm 1)) (.gtup (.cons (.gnm 2) (.cons (.gnm 3) .nil))) d10_b0
def d10 : Df := ⟨"_law_same", 2, [], ["_law_found", "_law_due", "_law_one", "_law_other"], (.cons (.ite (.cmp .Is (.nm 1) .non) (.cons (.ret (.cmp .Is (.nm 0) .non)) .nil) .nil) (.cons (.ite (.or2 (.prim .isi (.cons (.nm 1) (.cons (.tyN "tuple") .nil))) (.or1 (.prim .isi (.cons (.nm 1) (.cons (.tyN "list") .nil))))) (.cons (.ite (.or2 (.cmp .NotEq (.prim .isi (.cons (.nm 0) (.cons (.tyN "tuple") .nil))) (.prim .isi (.cons (.nm 1) (.cons (.tyN "tuple") .nil)))) (.or1 (.cmp .NotEq (.prim .isi (.cons (.nm 0) (.cons (.tyN "list") .nil))) (.prim .isi (.cons (.nm 1) (.cons (.tyN "list") .nil)))))) (.cons (.ret (.bl false)) .nil) .nil) (.cons (.ite (.cmp .NotEq (.prim .len (.cons (.nm 0) .nil)) (.prim .len (.cons (.nm 1) .nil))) (.cons (.ret (.bl false)) .nil) .nil) (.cons d10_l0 (.cons (.ret (.bl true)) .nil)))) .nil) (.cons (.ite (.prim .isi (.cons (.nm 1) (.cons (.tyN "str") .nil))) (.cons (.ret (.and2 (.prim .isi (.cons (.nm 0) (.cons (.tyN "str") .nil))) (.and1 (.cmp .Eq (.nm 0) (.nm 1))))) .nil) .nil) (.cons (.ret (.and2 (.cmp .Eq (.prim .isi (.cons (.nm 0) (.cons (.tyN "bool") .nil))) (.prim .isi (.cons (.nm 1) (.cons (.tyN "bool") .nil)))) (.and2 (.prim .isi (.cons (.nm 0) (.cons (.tyN "int") .nil))) (.and1 (.cmp .Eq (.nm 0) (.nm 1)))))) .nil)))), false⟩
def d11 : Df := ⟨"_law_point", 2, [0], ["_law_pen_here", "_law_wide"], (.cons (.ret (.tup (.cons (.bin .Sub (.call 8 (.cons (.nm 0) (.cons (.bin .Add (.bin .Mult (.int 2) (.nm 1)) (.int 1)) .nil))) (.nm 1)) (.cons (.bin .Sub (.call 8 (.cons (.nm 0) (.cons (.bin .Add (.bin .Mult (.int 2) (.nm 1)) (.int 1)) .nil))) (.nm 1)) .nil)))) .nil), false⟩
def d12_e0 : T := (.call 11 (.cons (.nm 0) (.cons (.nm 6) .nil)))
def d12_e1 : T := (.tup (.cons (.bin .Add (.ix (.nm 7) (.int 0)) (.bin .Mod (.nm 10) (.int 4))) (.cons (.bin .Add (.ix (.nm 7) (.int 1)) (.bin .FloorDiv (.nm 10) (.int 4))) .nil)))
def d12_e2 : T := (.tup (.cons (.bin .Add (.ix (.nm 7) (.int 0)) (.bin .Mult (.nm 2) (.nm 10))) (.cons (.bin .Sub (.ix (.nm 7) (.int 1)) (.nm 10)) .nil)))
def d12_e3 : T := (.tup (.cons (.bin .Sub (.int 0) (.nm 12)) (.cons (.nm 11) .nil)))
def d12_e4 : T := (.tup (.cons (.bin .Sub (.int 0) (.nm 11)) (.cons (.bin .Sub (.int 0) (.nm 12)) .nil)))
def d12_e5 : T := (.tup (.cons (.nm 12) (.cons (.bin .Sub (.int 0) (.nm 11)) .nil)))
def d12 : Df := ⟨"_law_lot", 2, [0], ["_law_pen_here", "_law_most", "_law_step", "_law_found", "_law_way", "_law_many", "_law_wide", "_law_at", "_law_some", "_law_turn", "_law_place", "_law_x", "_law_y"], (.cons (.par2 4 5 (.call 8 (.cons (.nm 0) (.cons (.int 7) .nil))) (.bin .Add (.int 1) (.call 8 (.cons (.nm 0) (.cons (.nm 1) .nil))))) (.cons (.par2 6 7 (.ix (.lst (.cons (.int 1) (.cons (.int 2) (.cons (.int 4) (.cons (.int 12) (.cons (.int 1000) .nil)))))) (.call 8 (.cons (.nm 0) (.cons (.int 5) .nil)))) (.call 11 (.cons (.nm 0) (.cons (.int 400) .nil)))) (.cons (.set 2 (.bin .Add (.int 1) (.call 8 (.cons (.nm 0) (.cons (.int 9) .nil))))) (.cons (.setc 3 (.comp [("_law_turn", 9)] (.irange1 (.nm 5)) (.gnm 9) .nil d12_e0)) (.cons (.ite (.cmp .Eq (.nm 4) (.int 0)) (.cons (.setc 3 (.comp [("_law_place", 10)] (.irange1 (.nm 5)) (.gnm 10) .nil d12_e1)) .nil) .nil) (.cons (.ite (.cmp .Eq (.nm 4) (.int 1)) (.cons (.setc 3 (.comp [("_law_place", 10)] (.irange1 (.nm 5)) (.gnm 10) .nil d12_e2)) .nil) .nil) (.cons (.ite (.cmp .Eq (.nm 4) (.int 2)) (.cons (.set 8 (.sl (.nm 3) .nil (.cons (.bin .Add (.int 1) (.bin .FloorDiv (.nm 5) (.int 4))) .nil))) (.cons (.set 3 (.bin .Add (.bin .Add (.nm 8) (.comp [("_law_x", 11), ("_law_y", 12)] (.iseq (.nm 8)) (.gtup (.cons (.gnm 11) (.cons (.gnm 12) .nil))) .nil d12_e3)) (.comp [("_law_x", 11), ("_law_y", 12)] (.iseq (.nm 8)) (.gtup (.cons (.gnm 11) (.cons (.gnm 12) .nil))) .nil d12_e4))) (.cons (.set 3 (.bin .Add (.nm 3) (.comp [("_law_x", 11), ("_law_y", 12)] (.iseq (.nm 8)) (.gtup (.cons (.gnm 11) (.cons (.gnm 12) .nil))) .nil d12_e5))) .nil))) .nil) (.cons (.ret (.prim .tuple (.cons (.sortSet (.sl (.nm 3) .nil (.cons (.nm 5) .nil))) .nil))) .nil)))))))), false⟩
def d13_e0 : T := (.and2 (.call 9 (.cons (.nm 1) .nil)) (.and1 (.cmp3 .LtE .LtE (.neg (.int 1000)) (.nm 1) (.int 1000))))
def d13 : Df := ⟨"_law_is_point", 1, [], ["_law_thing", "_law_part"], (.cons (.ite (.or2 (.not (.prim .isi (.cons (.nm 0) (.cons (.tyN "tuple") .nil)))) (.or1 (.cmp .NotEq (.prim .len (.cons (.nm 0) .nil)) (.int 2)))) (.cons (.ret (.bl false)) .nil) .nil) (.cons (.ret (.prim .all (.cons (.comp [("_law_part", 1)] (.iseq (.nm 0)) (.gnm 1) .nil d13_e0) .nil))) .nil)), false⟩
def d14_e0 : T := (.call 13 (.cons (.nm 1) .nil))
def d14 : Df := ⟨"_law_is_lot", 1, [], ["_law_thing", "_law_one"], (.cons (.ite (.or2 (.not (.prim .isi (.cons (.nm 0) (.cons (.tyN "tuple") .nil)))) (.or2 (.not (.cmp3 .LtE .LtE (.int 1) (.prim .len (.cons (.nm 0) .nil)) (.int 40))) (.or1 (.not (.prim .all (.cons (.comp [("_law_one", 1)] (.iseq (.nm 0)) (.gnm 1) .nil d14_e0) .nil)))))) (.cons (.ret (.bl false)) .nil) .nil) (.cons (.ret (.cmp .Eq (.prim .list (.cons (.nm 0) .nil)) (.sortSet (.nm 0)))) .nil)), false⟩
def d15 : Df := ⟨"_law_no_point", 2, [0], ["_law_pen_here", "_law_point_here", "_law_odd", "_law_bent", "_law_some", "_law_way", "_law_at"], (.cons (.par2 5 6 (.call 8 (.cons (.nm 0) (.cons (.int 12) .nil))) (.call 8 (.cons (.nm 0) (.cons (.int 2) .nil)))) (.cons (.set 2 (.ix (.lst (.cons (.int 1001) (.cons (.neg (.int 1001)) (.cons (.bl true) (.cons (.bl false) (.cons .non (.cons (.str "0") (.cons (.tup (.cons (.int 0) .nil)) (.cons (.bin .Pow (.int 10) (.int 29)) (.cons (.lst (.cons (.int 0) .nil)) (.cons .dnew .nil))))))))))) (.call 8 (.cons (.nm 0) (.cons (.int 10) .nil))))) (.cons (.set 3 (.bin .Add (.bin .Add (.sl (.nm 1) .nil (.cons (.nm 6) .nil)) (.tup (.cons (.nm 2) .nil))) (.sl (.nm 1) (.cons (.bin .Add (.nm 6) (.int 1)) .nil) .nil))) (.cons (.set 4 (.lst (.cons (.nm 3) (.cons (.nm 3) (.cons (.nm 3) (.cons (.nm 3) (.cons (.sl (.nm 1) .nil (.cons (.int 1) .nil)) (.cons (.bin .Add (.nm 1) (.tup (.cons (.int 0) .nil))) (.cons (.prim .list (.cons (.nm 1) .nil)) (.cons .non (.cons (.int 7) (.cons (.str "0,0") .nil)))))))))))) (.cons (.ret (.ix (.bin .Add (.nm 4) (.lst (.cons .dnew (.cons (.tup (.cons (.nm 1) .nil)) .nil)))) (.nm 5))) .nil))))), false⟩
def d16_e0 : T := (.tup (.cons (.bin .FloorDiv (.nm 8) (.int 8)) (.cons (.bin .Mod (.nm 8) (.int 8)) .nil)))
def d16 : Df := ⟨"_law_no_lot", 2, [0], ["_law_pen_here", "_law_lot_here", "_law_bent", "_law_some", "_law_wide", "_law_thing", "_law_way", "_law_at", "_law_place"], (.cons (.par2 6 7 (.call 8 (.cons (.nm 0) (.cons (.int 14) .nil))) (.call 8 (.cons (.nm 0) (.cons (.prim .len (.cons (.nm 1) .nil)) .nil)))) (.cons (.set 2 (.bin .Add (.bin .Add (.sl (.nm 1) .nil (.cons (.nm 7) .nil)) (.tup (.cons (.call 15 (.cons (.nm 0) (.cons (.ix (.nm 1) (.nm 7)) .nil))) .nil))) (.sl (.nm 1) (.cons (.bin .Add (.nm 7) (.int 1)) .nil) .nil))) (.cons (.set 3 (.lst (.cons (.nm 2) (.cons (.nm 2) (.cons (.prim .list (.cons (.nm 1) .nil)) (.cons (.slp (.nm 1) .nil .nil (.neg (.int 1))) (.cons (.bin .Add (.nm 1) (.sl (.nm 1) (.cons (.neg (.int 1)) .nil) .nil)) (.cons (.bin .Add (.sl (.nm 1) .nil (.cons (.bin .Add (.nm 7) (.int 1)) .nil)) (.sl (.nm 1) (.cons (.nm 7) .nil) .nil)) (.cons (.tup .nil) (.cons .non (.cons (.int 7) (.cons (.str "0,0") (.cons .dnew .nil))))))))))))) (.cons (.set 4 (.prim .tuple (.cons (.comp [("_law_place", 8)] (.irange1 (.int 41)) (.gnm 8) .nil d16_e0) .nil))) (.cons (.set 5 (.ix (.bin .Add (.nm 3) (.lst (.cons (.tup (.cons (.nm 1) .nil)) (.cons (.nm 4) (.cons (.ix (.nm 1) (.int 0)) .nil))))) (.nm 6))) (.cons (.ret (.ifx (.call 14 (.cons (.nm 5) .nil)) (.tup .nil) (.nm 5))) .nil)))))), false⟩
def d19 : Df := ⟨"must_point", 1, [], ["point"], (.cons (.ite (.not (.call 2 (.cons (.nm 0) .nil))) (.cons (.raise 1) .nil) .nil) .nil), false⟩
def d20 : Df := ⟨"must_lot", 1, [], ["lot"], (.cons (.ite (.not (.call 3 (.cons (.nm 0) .nil))) (.cons (.raise 2) .nil) .nil) .nil), false⟩
def d21 : Df := ⟨"far_by", 2, [], ["one", "other", "across", "up"], (.cons (.par2 2 3 (.bin .Sub (.ix (.nm 0) (.int 0)) (.ix (.nm 1) (.int 0))) (.bin .Sub (.ix (.nm 0) (.int 1)) (.ix (.nm 1) (.int 1)))) (.cons (.ret (.bin .Add (.bin .Mult (.nm 2) (.nm 2)) (.bin .Mult (.nm 3) (.nm 3)))) .nil)), false⟩
def d22 : Df := ⟨"far_of", 2, [], ["one", "other"], (.cons (.drop (.call 19 (.cons (.nm 0) .nil))) (.cons (.drop (.call 19 (.cons (.nm 1) .nil))) (.cons (.ret (.call 21 (.cons (.nm 0) (.cons (.nm 1) .nil)))) .nil))), false⟩
def d23_b1 : T := (.cons (.set 5 (.call 21 (.cons (.nm 3) (.cons (.nm 4) .nil)))) (.cons (.setit 1 (.nm 5) (.bin .Add (.dget2 (.nm 1) (.nm 5) (.int 0)) (.int 1))) .nil))
def d23_l1 : T := .for_ (.iseq (.sl (.nm 0) .nil (.cons (.nm 2) .nil))) (.gnm 4) d23_b1
def d23_b0 : T := (.cons d23_l1 .nil)
def d23_l0 : T := .for_ (.ienum (.nm 0)) (.gtup (.cons (.gnm 2) (.cons (.gnm 3) .nil))) d23_b0
def d23 : Df := ⟨"counts_in", 1, [], ["lot", "found", "at", "one", "other", "far"], (.cons (.set 1 .dnew) (.cons d23_l0 (.cons (.ret (.nm 1)) .nil))), false⟩
def d24 : Df := ⟨"fars_in", 1, [], ["lot"], (.cons (.ret (.prim .sorted (.cons (.call 23 (.cons (.nm 0) .nil)) .nil))) .nil), false⟩
def d25 : Df := ⟨"fars", 1, [], ["lot"], (.cons (.drop (.call 20 (.cons (.nm 0) .nil))) (.cons (.ret (.call 24 (.cons (.nm 0) .nil))) .nil)), false⟩
def d26 : Df := ⟨"table_in", 1, [], ["lot"], (.cons (.ret (.sitems (.call 23 (.cons (.nm 0) .nil)))) .nil), false⟩
def d27 : Df := ⟨"far_table", 1, [], ["lot"], (.cons (.drop (.call 20 (.cons (.nm 0) .nil))) (.cons (.ret (.call 26 (.cons (.nm 0) .nil))) .nil)), false⟩
def d28 : Df := ⟨"_law_kind_of", 1, [], ["_law_e", "_law_marks", "_law_words"], (.cons (.set 1 (.lst (.cons (.prim .isi (.cons (.nm 0) (.cons (.gcls 1) .nil))) (.cons (.prim .isi (.cons (.nm 0) (.cons (.gcls 2) .nil))) (.cons (.prim .isi (.cons (.nm 0) (.cons (.gcls 3) .nil))) (.cons (.prim .isi (.cons (.nm 0) (.cons (.gcls 4) .nil))) .nil)))))) (.cons (.set 1 (.bin .Add (.nm 1) (.lst (.cons (.prim .isi (.cons (.nm 0) (.cons (.gcls 5) .nil))) (.cons (.prim .isi (.cons (.nm 0) (.cons (.gcls 6) .nil))) (.cons (.prim .isi (.cons (.nm 0) (.cons (.gcls 7) .nil))) (.cons (.prim .isi (.cons (.nm 0) (.cons (.gcls 8) .nil))) .nil))))))) (.cons (.set 1 (.bin .Add (.nm 1) (.lst (.cons (.prim .isi (.cons (.nm 0) (.cons (.gcls 9) .nil))) (.cons (.prim .isi (.cons (.nm 0) (.cons (.gcls 10) .nil))) (.cons (.prim .isi (.cons (.nm 0) (.cons (.gcls 11) .nil))) .nil)))))) (.cons (.ite (.or2 (.not (.prim .isi (.cons (.nm 0) (.cons (.tyN "ValueError") .nil)))) (.or1 (.cmp .NotEq (.meth .count (.nm 1) (.cons (.bl true) .nil)) (.int 1)))) (.cons (.ret (.str "other")) .nil) .nil) (.cons (.ite (.prim .isi (.cons (.nm 0) (.cons (.gcls 10) .nil))) (.cons (.ret (.lst (.cons (.str "alike") (.cons .bad (.cons .bad (.cons .bad (.cons .bad .nil))))))) .nil) .nil) (.cons (.ite (.prim .isi (.cons (.nm 0) (.cons (.gcls 11) .nil))) (.cons (.ret (.lst (.cons (.str "many") (.cons .bad (.cons .bad .nil))))) .nil) .nil) (.cons (.set 2 (.lst (.cons (.str "point") (.cons (.str "lot") (.cons (.str "number") (.cons (.str "circle") (.cons (.str "marks") (.cons (.str "fars") (.cons (.str "text") (.cons (.str "line") (.cons (.str "deed") .nil))))))))))) (.cons (.ret (.ix (.nm 2) (.meth .index (.nm 1) (.cons (.bl true) .nil)))) .nil)))))))), false⟩
def d29 : Df := ⟨"_law_far", 2, [], ["_law_one", "_law_other"], (.cons (.ret (.bin .Add (.bin .Pow (.bin .Sub (.ix (.nm 0) (.int 0)) (.ix (.nm 1) (.int 0))) (.int 2)) (.bin .Pow (.bin .Sub (.ix (.nm 0) (.int 1)) (.ix (.nm 1) (.int 1))) (.int 2)))) .nil), false⟩
def d30_e0 : T := (.tup (.cons (.ix (.nm 0) (.nm 2)) (.cons (.nm 3) .nil)))
def d30_b0 : T := (.cons (.set 1 (.bin .Add (.nm 1) (.comp [("_law_other", 3)] (.iseq (.sl (.nm 0) (.cons (.bin .Add (.nm 2) (.int 1)) .nil) .nil)) (.gnm 3) .nil d30_e0))) .nil)
def d30_l0 : T := .for_ (.irange1 (.prim .len (.cons (.nm 0) .nil))) (.gnm 2) d30_b0
def d30 : Df := ⟨"_law_pairs", 1, [], ["_law_lot_here", "_law_found", "_law_at", "_law_other"], (.cons (.set 1 (.lst .nil)) (.cons d30_l0 (.cons (.ret (.nm 1)) .nil))), false⟩
def d31_e0 : T := (.call 29 (.cons (.nm 1) (.cons (.nm 2) .nil)))
def d31 : Df := ⟨"_law_fars", 1, [], ["_law_lot_here", "_law_one", "_law_other"], (.cons (.ret (.comp [("_law_one", 1), ("_law_other", 2)] (.iseq (.call 30 (.cons (.nm 0) .nil))) (.gtup (.cons (.gnm 1) (.cons (.gnm 2) .nil))) .nil d31_e0)) .nil), false⟩
def d32_e0 : T := (.tup (.cons (.nm 2) (.cons (.meth .count (.nm 1) (.cons (.nm 2) .nil)) .nil)))
def d32 : Df := ⟨"_law_table", 1, [], ["_law_lot_here", "_law_some", "_law_number"], (.cons (.set 1 (.call 31 (.cons (.nm 0) .nil))) (.cons (.ret (.comp [("_law_number", 2)] (.iseq (.sortSet (.nm 1))) (.gnm 2) .nil d32_e0)) .nil)), false⟩
def d33 : Df := ⟨"_law_came", 3, [], ["_law_way", "_law_one", "_law_other", "_law_e"], (.cons (.tryk 3 (.ifx (.cmp .Eq (.nm 0) (.int 0)) (.call 22 (.cons (.nm 1) (.cons (.nm 2) .nil))) (.callX [25, 27] (.ix (.lst (.cons (.gfn 25) (.cons (.gfn 27) .nil))) (.bin .Sub (.nm 0) (.int 1))) (.cons (.nm 1) .nil)))) .nil), false⟩
def d34_e0 : T := (.nm 16)
def d34_b1 : T := (.cons (.set 11 (.lstN (.cons (.call 33 (.cons (.int 1) (.cons (.nm 3) (.cons .non .nil)))) (.cons (.call 33 (.cons (.int 2) (.cons (.nm 3) (.cons .non .nil)))) .nil)))) (.cons (.ite (.lend (.or2 (.not (.call 10 (.cons (.ix (.nm 11) (.int 1)) (.cons (.nm 10) .nil)))) (.or1 (.not (.call 10 (.cons (.ix (.nm 11) (.int 0)) (.cons (.comp [("_law_number", 16), ("_law_many", 17)] (.iseq (.nm 10)) (.gtup (.cons (.gnm 16) (.cons (.gnm 17) .nil))) .nil d34_e0) .nil))))))) (.cons (.ret (.bl false)) .nil) .nil) (.cons (.ite (.cmp .NotEq (.prim .repr (.cons (.nm 3) .nil)) (.nm 9)) (.cons (.ret (.bl false)) .nil) .nil) (.cons (.drop (.appN (.nm 11) (.int 0) (.cons (.int 0) .nil))) (.cons (.drop (.appN (.nm 11) (.int 1) (.cons (.int 0) .nil))) .nil)))))
def d34_l1 : T := .for_ (.irange1 (.int 2)) (.gnm 4) d34_b1
def d34_e1 : T := (.nm 16)
def d34_b2 : T := (.cons (.ite (.not (.call 10 (.cons (.call 33 (.cons (.int 0) (.cons (.nm 12) (.cons (.nm 13) .nil)))) (.cons (.call 29 (.cons (.nm 12) (.cons (.nm 13) .nil))) .nil)))) (.cons (.ret (.bl false)) .nil) .nil) .nil)
def d34_l2 : T := .for_ (.iseq (.lst (.cons (.tup (.cons (.nm 7) (.cons (.nm 8) .nil))) (.cons (.tup (.cons (.nm 8) (.cons (.nm 7) .nil))) (.cons (.tup (.cons (.nm 7) (.cons (.nm 7) .nil))) (.cons (.tup (.cons (.ix (.nm 3) (.int 0)) (.cons (.ix (.nm 3) (.neg (.int 1))) .nil))) .nil)))))) (.gtup (.cons (.gnm 12) (.cons (.gnm 13) .nil))) d34_b2
def d34_e2 : T := (.call 33 (.cons (.int 0) (.cons (.nm 12) (.cons (.nm 13) .nil))))
def d34_b0 : T := (.cons (.set 2 (.call 7 (.cons (.nm 1) .nil))) (.cons (.set 3 (.call 12 (.cons (.nm 2) (.cons (.int 40) .nil)))) (.cons (.par2 7 8 (.ix (.nm 3) (.call 8 (.cons (.nm 2) (.cons (.prim .len (.cons (.nm 3) .nil)) .nil)))) (.call 11 (.cons (.nm 2) (.cons (.int 1000) .nil)))) (.cons (.par2 9 10 (.prim .repr (.cons (.nm 3) .nil)) (.call 32 (.cons (.nm 3) .nil))) (.cons d34_l1 (.cons (.set 5 (.lst (.cons (.call 33 (.cons (.int 1) (.cons (.nm 3) (.cons (.int 0) .nil)))) (.cons (.call 33 (.cons (.int 2) (.cons (.nm 3) (.cons (.int 0) .nil)))) .nil)))) (.cons (.ite (.cmp .NotEq (.lst (.cons (.call 33 (.cons (.int 1) (.cons (.sl (.nm 3) .nil (.cons (.int 1) .nil)) (.cons (.int 0) .nil)))) (.cons (.call 33 (.cons (.int 2) (.cons (.sl (.nm 3) (.cons (.neg (.int 1)) .nil) .nil) (.cons (.int 0) .nil)))) .nil))) (.lst (.cons (.lst .nil) (.cons (.lst .nil) .nil)))) (.cons (.ret (.bl false)) .nil) .nil) (.cons (.ite (.not (.call 10 (.cons (.nm 5) (.cons (.lst (.cons (.comp [("_law_number", 16), ("_law_many", 17)] (.iseq (.nm 10)) (.gtup (.cons (.gnm 16) (.cons (.gnm 17) .nil))) .nil d34_e1) (.cons (.nm 10) .nil))) .nil)))) (.cons (.ret (.bl false)) .nil) .nil) (.cons d34_l2 (.cons (.par2 14 15 (.call 16 (.cons (.nm 2) (.cons (.nm 3) .nil))) (.call 15 (.cons (.nm 2) (.cons (.nm 7) .nil)))) (.cons (.ite (.cmp .NotEq (.lst (.cons (.call 33 (.cons (.int 1) (.cons (.nm 14) (.cons (.int 0) .nil)))) (.cons (.call 33 (.cons (.int 2) (.cons (.nm 14) (.cons (.int 0) .nil)))) .nil))) (.bin .Mult (.lst (.cons (.str "lot") .nil)) (.int 2))) (.cons (.ret (.bl false)) .nil) .nil) (.cons (.set 6 (.lst (.cons (.tup (.cons (.nm 15) (.cons (.nm 7) .nil))) (.cons (.tup (.cons (.nm 7) (.cons (.nm 15) .nil))) (.cons (.tup (.cons (.nm 15) (.cons (.nm 15) .nil))) .nil))))) (.cons (.ite (.cmp .NotEq (.comp [("_law_first", 12), ("_law_second", 13)] (.iseq (.nm 6)) (.gtup (.cons (.gnm 12) (.cons (.gnm 13) .nil))) .nil d34_e2) (.bin .Mult (.lst (.cons (.str "point") .nil)) (.int 3))) (.cons (.ret (.bl false)) .nil) .nil) .nil)))))))))))))
def d34_l0 : T := .for_ (.iseq (.bin .Add (.lst (.cons (.call 6 (.cons (.nm 0) (.cons (.int 0) .nil))) .nil)) (.sl (.nm 0) (.cons (.int 1) .nil) (.cons (.int 6) .nil)))) (.gnm 1) d34_b0
def d34 : Df := ⟨"law", 1, [], ["_law_script", "_law_cell_here", "_law_pen_here", "_law_lot_here", "_law_turn", "_law_held", "_law_some", "_law_one", "_law_other", "_law_kept", "_law_table_here", "_law_found", "_law_first", "_law_second", "_law_bad", "_law_none", "_law_number", "_law_many"], (.cons d34_l0 (.cons (.ret (.bl true)) .nil)), false⟩
def defs : Nat → Option Df
  | 0 => some d0
  | 1 => some d1
  | 2 => some d2
  | 3 => some d3
  | 6 => some d6
  | 7 => some d7
  | 8 => some d8
  | 9 => some d9
  | 10 => some d10
  | 11 => some d11
  | 12 => some d12
  | 13 => some d13
  | 14 => some d14
  | 15 => some d15
  | 16 => some d16
  | 19 => some d19
  | 20 => some d20
  | 21 => some d21
  | 22 => some d22
  | 23 => some d23
  | 24 => some d24
  | 25 => some d25
  | 26 => some d26
  | 27 => some d27
  | 28 => some d28
  | 29 => some d29
  | 30 => some d30
  | 31 => some d31
  | 32 => some d32
  | 33 => some d33
  | 34 => some d34
  | _ => none
theorem D0 : defs 0 = some d0 := rfl
@[simp] theorem J0 : jOf defs 0 = [] := rfl
theorem D1 : defs 1 = some d1 := rfl
@[simp] theorem J1 : jOf defs 1 = [] := rfl
theorem D2 : defs 2 = some d2 := rfl
@[simp] theorem J2 : jOf defs 2 = [] := rfl
theorem D3 : defs 3 = some d3 := rfl
@[simp] theorem J3 : jOf defs 3 = [] := rfl
theorem D6 : defs 6 = some d6 := rfl
@[simp] theorem J6 : jOf defs 6 = [] := rfl
theorem D7 : defs 7 = some d7 := rfl
@[simp] theorem J7 : jOf defs 7 = [] := rfl
theorem D8 : defs 8 = some d8 := rfl
@[simp] theorem J8 : jOf defs 8 = [0] := rfl
theorem D9 : defs 9 = some d9 := rfl
@[simp] theorem J9 : jOf defs 9 = [] := rfl
theorem D10 : defs 10 = some d10 := rfl
@[simp] theorem J10 : jOf defs 10 = [] := rfl
theorem D11 : defs 11 = some d11 := rfl
@[simp] theorem J11 : jOf defs 11 = [0] := rfl
theorem D12 : defs 12 = some d12 := rfl
@[simp] theorem J12 : jOf defs 12 = [0] := rfl
theorem D13 : defs 13 = some d13 := rfl
@[simp] theorem J13 : jOf defs 13 = [] := rfl
theorem D14 : defs 14 = some d14 := rfl
@[simp] theorem J14 : jOf defs 14 = [] := rfl
theorem D15 : defs 15 = some d15 := rfl
@[simp] theorem J15 : jOf defs 15 = [0] := rfl
theorem D16 : defs 16 = some d16 := rfl
@[simp] theorem J16 : jOf defs 16 = [0] := rfl
theorem D19 : defs 19 = some d19 := rfl
@[simp] theorem J19 : jOf defs 19 = [] := rfl
theorem D20 : defs 20 = some d20 := rfl
@[simp] theorem J20 : jOf defs 20 = [] := rfl
theorem D21 : defs 21 = some d21 := rfl
@[simp] theorem J21 : jOf defs 21 = [] := rfl
theorem D22 : defs 22 = some d22 := rfl
@[simp] theorem J22 : jOf defs 22 = [] := rfl
theorem D23 : defs 23 = some d23 := rfl
@[simp] theorem J23 : jOf defs 23 = [] := rfl
theorem D24 : defs 24 = some d24 := rfl
@[simp] theorem J24 : jOf defs 24 = [] := rfl
theorem D25 : defs 25 = some d25 := rfl
@[simp] theorem J25 : jOf defs 25 = [] := rfl
theorem D26 : defs 26 = some d26 := rfl
@[simp] theorem J26 : jOf defs 26 = [] := rfl
theorem D27 : defs 27 = some d27 := rfl
@[simp] theorem J27 : jOf defs 27 = [] := rfl
theorem D28 : defs 28 = some d28 := rfl
@[simp] theorem J28 : jOf defs 28 = [] := rfl
theorem D29 : defs 29 = some d29 := rfl
@[simp] theorem J29 : jOf defs 29 = [] := rfl
theorem D30 : defs 30 = some d30 := rfl
@[simp] theorem J30 : jOf defs 30 = [] := rfl
theorem D31 : defs 31 = some d31 := rfl
@[simp] theorem J31 : jOf defs 31 = [] := rfl
theorem D32 : defs 32 = some d32 := rfl
@[simp] theorem J32 : jOf defs 32 = [] := rfl
theorem D33 : defs 33 = some d33 := rfl
@[simp] theorem J33 : jOf defs 33 = [] := rfl
theorem D34 : defs 34 = some d34 := rfl
@[simp] theorem J34 : jOf defs 34 = [] := rfl
end Lk

namespace Lk
open PySem PySem.Spec PyProof.Rows L2 Pv
open Pv0 (no get setM)
variable {sub : Nat → Nat → Bool} {res : Nat → Option Str}
abbrev cl (sub : Nat → Nat → Bool) (res : Nat → Option Str) (k f : Nat) : SemF := evCall defs sub res k f
@[simp] theorem at0 {α : Type} (x : α) (l : List α) : atI (x :: l) 0 = some x := atI_nat (j := 0) rfl
@[simp] theorem at1 {α : Type} (x y : α) (l : List α) : atI (x :: y :: l) 1 = some y := atI_nat (j := 1) rfl
@[simp] theorem cmpQ_eq (x y : D) : cmpQ .Eq x y = (eqQ id) x y := rfl
@[simp] theorem cmpQ_ne (x y : D) : cmpQ .NotEq x y = (eqQ (!·)) x y := rfl
@[simp] theorem cmpQ_lt (x y : D) : cmpQ .Lt x y = (ltQ (fun i j => decide (i < j)) ltd) x y := rfl
@[simp] theorem cmpQ_le (x y : D) : cmpQ .LtE x y = (ltQ (fun i j => decide (i ≤ j)) fun x y => !ltd y x) x y := rfl
@[simp] theorem cmpQ_gt (x y : D) : cmpQ .Gt x y = (ltQ (fun i j => decide (j < i)) fun x y => ltd y x) x y := rfl
@[simp] theorem cmpQ_ge (x y : D) : cmpQ .GtE x y = (ltQ (fun i j => decide (j ≤ i)) fun x y => !ltd x y) x y := rfl
@[simp] theorem cmpQ_is (x y : D) : cmpQ .Is x y = (isQ id) x y := rfl
@[simp] theorem cmpQ_isn (x y : D) : cmpQ .IsNot x y = (isQ (!·)) x y := rfl
@[simp] theorem ltQ_int (f : Int → Int → Bool) (g : D → D → Bool) (i j : Int) : ltQ f g (.int i) (.int j) = some (f i j) := rfl
@[simp] theorem eqQ_int (f : Bool → Bool) (i j : Int) : eqQ f (.int i) (.int j) = some (f (decide (i = j))) := by
  simp [fnV, kS, lenT, compS, isiB, okTy, blsD, Pv.isNon, -ltQ, eqQ, okEq, can, dep, eqd, py, PyData.eqv]
  rfl
/-- a pen -/
abbrev penA (p f : Int) : A := .l [.int p, .int f]
@[simp] theorem thenS_nx (ρ : Ev) (g : SemS) : thenS (.ok .nx ρ) g = g ρ := rfl
@[simp] theorem thenS_rt (a : A) (ρ : Ev) (g : SemS) : thenS (.ok (.rt a) ρ) g = .ok (.rt a) ρ := rfl
@[simp] theorem thenS_exc (x : X1) (ρ : Ev) (g : SemS) : thenS (.exc x ρ) g = .exc x ρ := rfl
@[simp] theorem ixN20 : ixN 2 0 = some 0 := rfl
@[simp] theorem ixN21 : ixN 2 1 = some 1 := rfl
theorem okM_of {m : Int} (h1 : -18446744073709551616 < m) (h2 : m < 18446744073709551616) : okM m = true := by
  unfold okM
  have : m.natAbs < 2 ^ 4096 := Nat.lt_of_lt_of_le (show m.natAbs < 2 ^ 64 by omega) (Nat.pow_le_pow_right (by decide) (by decide))
  exact decide_eq_true this
theorem draw_ok (k : Nat) (p f m : Int) (hm : 0 < m) (hm2 : m < 1000000) : ∃ r p', 0 ≤ r ∧ r < m ∧ cl sub res (k+1) 8 [penA p f, .d (.int m)] = .ok (.d (.int r)) [some (penA p' f), none] := by
  have o1 : okM m = true := okM_of (by omega) (by omega)
  have o2 : ∀ i : Int, okM ((p % 2147483629 * 48271 + 11) % 2147483629) = true := fun i => okM_of (by omega) (by omega)
  by_cases hf : f = 1
  · refine ⟨p % m, p / m, Int.emod_nonneg _ (by omega), Int.emod_lt_of_pos _ hm, ?_⟩
    rw [cl, evCall_succ _ _ D8]
    simp [fnV, kS, lenT, compS, isiB, okTy, blsD, Pv.isNon, -ltQ, d8, hf, hm, o1]
  · have q0 : okM (p % 2147483629) = true := okM_of (by omega) (by omega)
    have q1 : okM ((p % 2147483629 * 48271 + 11) % 2147483629) = true := okM_of (by omega) (by omega)
    have c1 : okM 48271 = true := okM_of (by omega) (by omega)
    have c2 : okM 40692 = true := okM_of (by omega) (by omega)
    have c3 : okM 2147483629 = true := okM_of (by omega) (by omega)
    have c4 : okM 8 = true := okM_of (by omega) (by omega)
    have c5 : okM 2147483647 = true := okM_of (by omega) (by omega)
    refine ⟨((p % 2147483629 * 48271 + 11) % 2147483629 * ((p % 2147483629 * 48271 + 11) % 2147483629) + 40692 * ((p % 2147483629 * 48271 + 11) % 2147483629)) % 2147483647 / 8 % m, (p % 2147483629 * 48271 + 11) % 2147483629, Int.emod_nonneg _ (by omega), Int.emod_lt_of_pos _ hm, ?_⟩
    rw [cl, evCall_succ _ _ D8]
    simp [fnV, kS, lenT, compS, isiB, okTy, blsD, Pv.isNon, -ltQ, d8, hf, hm, o1, q0, q1, c1, c2, c3, c4, c5]
/-! ### comprehensions, by what each item gives -/
@[simp] def stepC (tg : SemG) (f : SemE) (vs : List Nat) (d : D) (ρ : Ev) : Out D := match tg d ρ with
  | none => .bad
  | some ρ1 => (dE f ρ1).bind fun y ρ3 => .ok y (wipeE ρ3 vs)
@[simp] def stepF (tg : SemG) (t : SemT) (f : SemE) (vs : List Nat) (d : D) (ρ : Ev) : Out (Option D) := match tg d ρ with
  | none => .bad
  | some ρ1 => (t ρ1).bind fun k ρ2 => if k = true then (dE f ρ2).bind fun y ρ3 => .ok (some y) (wipeE ρ3 vs) else .ok none (wipeE ρ2 vs)
theorem compL_cons {tg : SemG} {f : SemE} {vs : List Nat} {ρ ρ' : Ev} {d y : D} {ds : List D} (h : stepC tg f vs d ρ = .ok y ρ') : compL tg none f vs (d :: ds) ρ = (compL tg none f vs ds ρ').bind fun ys ρ4 => .ok (y :: ys) ρ4 := by
  simp only [stepC] at h
  cases e1 : tg d ρ with
  | none => rw [e1] at h; cases h
  | some ρ1 =>
    rw [e1] at h
    simp only at h
    cases e2 : dE f ρ1 with
    | bad => rw [e2] at h; cases h
    | exc _ _ => rw [e2] at h; cases h
    | ok z ρ3 =>
      rw [e2] at h
      cases h
      simp only [compL, e1, ifsS, Out.nox, Out.bind_ok, if_true, e2]
theorem compL_map {tg : SemG} {f : SemE} {vs : List Nat} {ρ : Ev} (g : D → D) : ∀ ds : List D, (∀ d ∈ ds, stepC tg f vs d ρ = .ok (g d) ρ) → compL tg none f vs ds ρ = .ok (ds.map g) ρ
  | [], _ => rfl
  | d :: ds, h => by
    rw [compL_cons (h d (List.mem_cons_self ..)), compL_map g ds fun x hx => h x (List.mem_cons_of_mem _ hx)]
    rfl
theorem compL_filter {tg : SemG} {t : SemT} {f : SemE} {vs : List Nat} {ρ : Ev} (g : D → Option D) : ∀ ds : List D, (∀ d ∈ ds, stepF tg t f vs d ρ = .ok (g d) ρ) → compL tg (some t) f vs ds ρ = .ok (ds.filterMap g) ρ
  | [], _ => rfl
  | d :: ds, h => by
    have ih := compL_filter g ds fun x hx => h x (List.mem_cons_of_mem _ hx)
    have hd := h d (List.mem_cons_self ..)
    simp only [stepF] at hd
    cases e1 : tg d ρ with
    | none => rw [e1] at hd; cases hd
    | some ρ1 =>
      rw [e1] at hd
      simp only at hd
      cases e2 : t ρ1 with
      | bad => rw [e2] at hd; cases hd
      | exc _ _ => rw [e2] at hd; cases hd
      | ok k ρ2 =>
        rw [e2] at hd
        simp only [Out.bind_ok] at hd
        cases k with
        | false =>
          simp only [Bool.false_eq_true, if_false] at hd
          injection hd with hd1 hd2
          simp only [compL, e1, ifsS, e2, Out.nox, Out.bind_ok, Bool.false_eq_true, if_false, hd2, ih]
          rw [List.filterMap_cons, ← hd1]
        | true =>
          simp only [if_true] at hd
          cases e3 : dE f ρ2 with
          | bad => rw [e3] at hd; cases hd
          | exc _ _ => rw [e3] at hd; cases hd
          | ok z ρ3 =>
            rw [e3] at hd
            injection hd with hd1 hd2
            simp only [compL, e1, ifsS, e2, Out.nox, Out.bind_ok, if_true, e3, hd2, ih]
            rw [List.filterMap_cons, ← hd1]
/-- where the state goes on from item to item -/
theorem compL_ex {tg : SemG} {f : SemE} {vs : List Nat} (P : Ev → Prop) (R : D → Prop) : ∀ (ds : List D) (ρ : Ev), (∀ d ∈ ds, ∀ ρ, P ρ → ∃ y ρ', stepC tg f vs d ρ = .ok y ρ' ∧ R y ∧ P ρ') → P ρ →
    ∃ ys ρ', compL tg none f vs ds ρ = .ok ys ρ' ∧ ys.length = ds.length ∧ (∀ y ∈ ys, R y) ∧ P ρ'
  | [], ρ, _, p => ⟨[], ρ, rfl, rfl, (by intro y h; cases h), p⟩
  | d :: ds, ρ, h, p => by
    obtain ⟨y, ρ1, e, r, p3⟩ := h d (List.mem_cons_self ..) ρ p
    obtain ⟨ys, ρ', e', hl, hr, p'⟩ := compL_ex P R ds _ (fun x hx => h x (List.mem_cons_of_mem _ hx)) p3
    refine ⟨y :: ys, ρ', ?_, by simp [fnV, kS, lenT, compS, isiB, okTy, blsD, Pv.isNon, -ltQ, hl], fun z hz => ?_, p'⟩
    · rw [compL_cons e, e']; rfl
    · rcases List.mem_cons.mp hz with rfl | hz
      · exact r
      · exact hr z hz
/-! ### loops -/
theorem forL_inv {tg : SemG} {body : SemS} (P : Ev → Prop) : ∀ (ds : List D) (ρ : Ev), (∀ d ∈ ds, ∀ ρ, P ρ → ∃ ρ1 ρ2, tg d ρ = some ρ1 ∧ body ρ1 = .ok .nx ρ2 ∧ P ρ2) → P ρ → ∃ ρ', forL tg body ds ρ = .ok .nx ρ' ∧ P ρ'
  | [], ρ, _, p => ⟨ρ, rfl, p⟩
  | d :: ds, ρ, h, p => by
    obtain ⟨ρ1, ρ2, e1, e2, p2⟩ := h d (List.mem_cons_self ..) ρ p
    obtain ⟨ρ', e, p'⟩ := forL_inv P ds ρ2 (fun x hx => h x (List.mem_cons_of_mem _ hx)) p2
    exact ⟨ρ', by simp only [forL, e1, e2, e], p'⟩
/-! ### things -/
mutual
def okTh : D → Bool
  | .non => true | .bl _ => true | .int _ => true | .str _ => true | .dct _ _ => true
  | .tup xs => okThs xs
  | .lst xs => okThs xs
  | .fn _ => false | .cls _ => false | .ty _ => false | .exn _ => false | .scr _ => false
def okThs : List D → Bool
  | [] => true
  | d :: ds => okTh d && okThs ds
end
theorem okThs_mem : ∀ {ds : List D}, okThs ds = true → ∀ d ∈ ds, okTh d = true
  | [], _, d, h => by cases h
  | e :: ds, c, d, h => by
    simp only [okThs, Bool.and_eq_true] at c
    rcases List.mem_cons.mp h with rfl | h
    · exact c.1
    · exact okThs_mem c.2 d h
def wholeB : D → Bool
  | .int _ => true
  | _ => false
def fromB (l h : Int) : D → Bool
  | .int i => decide (l ≤ i) && decide (i ≤ h)
  | _ => false
def ptB : D → Bool
  | .tup [a, b] => fromB (-1000) 1000 a && fromB (-1000) 1000 b
  | _ => false
theorem is_whole_ok (k : Nat) (d : D) (h : okTh d = true) : cl sub res (k+1) 0 [.d d] = .ok (.d (.bl (wholeB d))) [none] := by
  rw [cl, evCall_succ _ _ D0]
  cases d <;> first | (simp [fnV, kS, lenT, compS, isiB, okTy, blsD, Pv.isNon, -ltQ, okTh] at h; done) | simp [fnV, kS, lenT, compS, isiB, okTy, blsD, Pv.isNon, -ltQ, d0, wholeB]
theorem is_from_ok (k : Nat) (d : D) (l u : Int) (h : okTh d = true) : cl sub res (k+2) 1 [.d d, .d (.int l), .d (.int u)] = .ok (.d (.bl (fromB l u d))) [none, none, none] := by
  have e := is_whole_ok (sub := sub) (res := res) k d h
  rw [cl, evCall_succ _ _ D1]
  cases d <;> first | (simp [fnV, kS, lenT, compS, isiB, okTy, blsD, Pv.isNon, -ltQ, okTh] at h; done) | (simp [fnV, kS, lenT, compS, isiB, okTy, blsD, Pv.isNon, -ltQ, cl, wholeB] at e; simp [fnV, kS, lenT, compS, isiB, okTy, blsD, Pv.isNon, -ltQ, d1, e, fromB]; try (split <;> (simp; try omega)))
theorem whole_ok (k : Nat) (d : D) (h : okTh d = true) : cl sub res (k+1) 9 [.d d] = .ok (.d (.bl (wholeB d))) [none] := by
  rw [cl, evCall_succ _ _ D9]
  cases d <;> first | (simp [fnV, kS, lenT, compS, isiB, okTy, blsD, Pv.isNon, -ltQ, okTh] at h; done) | simp [fnV, kS, lenT, compS, isiB, okTy, blsD, Pv.isNon, -ltQ, d9, wholeB]
@[simp] theorem okR_lit1 : okR 1000 = true := by decide
theorem point_good_ok (k : Nat) (d : D) (h : okTh d = true) : cl sub res (k+3) 2 [.d d] = .ok (.d (.bl (ptB d))) [none] := by
  rw [cl, evCall_succ _ _ D2]
  cases d with
  | tup xs =>
    match xs, h with
    | [], _ => simp [fnV, kS, lenT, compS, isiB, okTy, blsD, Pv.isNon, -ltQ, d2, ptB]
    | [a], _ => simp [fnV, kS, lenT, compS, isiB, okTy, blsD, Pv.isNon, -ltQ, d2, ptB]
    | [a, b], h =>
      simp only [okTh, okThs, Bool.and_eq_true, and_true] at h
      have e1 := is_from_ok (sub := sub) (res := res) k a (-1000) 1000 h.1
      have e2 := is_from_ok (sub := sub) (res := res) k b (-1000) 1000 h.2
      simp [fnV, kS, lenT, compS, isiB, okTy, blsD, Pv.isNon, -ltQ, cl] at e1 e2
      simp [fnV, kS, lenT, compS, isiB, okTy, blsD, Pv.isNon, -ltQ, d2, d2_e0, ptB, compL, e1, e2]
    | a :: b :: c :: r, _ =>
      have : ¬ ((r.length : Int) + 1 + 1 + 1 = 2) := by omega
      simp [fnV, kS, lenT, compS, isiB, okTy, blsD, Pv.isNon, -ltQ, d2, ptB, this]
  | _ => first | (simp [fnV, kS, lenT, compS, isiB, okTy, blsD, Pv.isNon, -ltQ, okTh] at h; done) | simp [fnV, kS, lenT, compS, isiB, okTy, blsD, Pv.isNon, -ltQ, d2, ptB]
theorem sIx_nat (n dflt i : Nat) : HT.sIx n dflt (some (i : Int)) = min i n := by
  simp [fnV, kS, lenT, compS, isiB, okTy, blsD, Pv.isNon, -ltQ, HT.sIx]
  omega
theorem cut_drop {α : Type} (xs : List α) (i : Nat) : cut xs (some (i : Int)) none = xs.drop i := by
  unfold cut
  rw [sIx_nat]
  simp only [HT.sIx]
  rcases Nat.lt_or_ge i xs.length with h | h
  · rw [Nat.min_eq_left (by omega), List.take_of_length_le (by simp)]
  · rw [Nat.min_eq_right h]
    simp [fnV, kS, lenT, compS, isiB, okTy, blsD, Pv.isNon, -ltQ, List.drop_of_length_le h]
theorem cut_take {α : Type} (xs : List α) (i : Nat) : cut xs none (some (i : Int)) = xs.take i := by
  unfold cut
  rw [sIx_nat]
  simp only [HT.sIx, List.drop_zero, Nat.sub_zero]
  rcases Nat.lt_or_ge i xs.length with h | h
  · rw [Nat.min_eq_left (by omega)]
  · rw [Nat.min_eq_right h, List.take_of_length_le (Nat.le_refl _), List.take_of_length_le h]
theorem cut_mid {α : Type} (xs : List α) (i j : Nat) : cut xs (some (i : Int)) (some (j : Int)) = (xs.drop i).take (j - i) := by
  unfold cut
  rw [sIx_nat, sIx_nat]
  rcases Nat.lt_or_ge i xs.length with h | h
  · rw [Nat.min_eq_left (Nat.le_of_lt h)]
    rcases Nat.lt_or_ge j xs.length with h2 | h2
    · rw [Nat.min_eq_left (Nat.le_of_lt h2)]
    · rw [Nat.min_eq_right h2, List.take_of_length_le (by simp), List.take_of_length_le (by simp; omega)]
  · rw [Nat.min_eq_right h, List.drop_of_length_le (Nat.le_refl _), List.drop_of_length_le h]
    simp
theorem cut1 {α : Type} (xs : List α) : cut xs (some 1) none = xs.tail := by rw [show (1 : Int) = ((1 : Nat) : Int) from rfl, cut_drop, List.drop_one]
@[simp] theorem blsD_map {α : Type} (p : α → Bool) : ∀ xs : List α, blsD (xs.map fun x => D.bl (p x)) = some (xs.map p)
  | [] => rfl
  | x :: xs => by simp [fnV, kS, lenT, compS, isiB, okTy, blsD, Pv.isNon, -ltQ, blsD, blsD_map p xs]
/-- rising -/
def risB : List D → Bool
  | x :: y :: r => ltd x y && risB (y :: r)
  | _ => true
def ltP (z : D) : Bool := match z with
  | .tup [x, y] => ltd x y
  | _ => false
theorem ris_zip : ∀ xs : List D, ((zipD xs xs.tail).map ltP).all id = risB xs
  | [] => rfl
  | [x] => rfl
  | x :: y :: r => by
    have := ris_zip (y :: r)
    simp only [List.tail_cons, zipD, List.zipWith_cons_cons, List.map_cons, List.all_cons, id, risB] at this ⊢
    simp only [ltP]
    rw [← this]
theorem ris_zip' (xs : List D) : (zipD xs xs.tail).all ltP = risB xs := by rw [← ris_zip xs]; simp
/-- a point, a lot of points, as data -/
def ptD (p : Int × Int) : D := .tup [.int p.1, .int p.2]
theorem ptB_eq {d : D} (h : ptB d = true) : ∃ p : Int × Int, d = ptD p ∧ -1000 ≤ p.1 ∧ p.1 ≤ 1000 ∧ -1000 ≤ p.2 ∧ p.2 ≤ 1000 := by
  unfold ptB at h
  split at h
  · rename_i a b
    simp only [Bool.and_eq_true] at h
    cases a <;> cases b <;> simp [fnV, kS, lenT, compS, isiB, okTy, blsD, Pv.isNon, -ltQ, fromB] at h
    rename_i i j
    exact ⟨(i, j), rfl, h.1.1, h.1.2, h.2.1, h.2.2⟩
  · cases h
theorem okLt_pt (p q : Int × Int) : okLt (ptD p) (ptD q) = true := by
  simp [fnV, kS, lenT, compS, isiB, okTy, blsD, Pv.isNon, -ltQ, okLt, okEq, ptD, can, cans, dep, deps, Pv.isNon, py, pys, PySem.W.alike, PySem.W.alikeAll]
theorem ltQ_pt (f : Int → Int → Bool) (g : D → D → Bool) (p q : Int × Int) : ltQ f g (ptD p) (ptD q) = some (g (ptD p) (ptD q)) := by
  have := okLt_pt p q
  unfold ltQ
  simp only [ptD] at this ⊢
  rw [if_pos this]
def lotB : D → Bool
  | .tup xs => decide (1 ≤ xs.length ∧ xs.length ≤ 40) && (xs.all ptB && risB xs)
  | _ => false
theorem zipD_mem {xs ys : List D} {z : D} (h : z ∈ zipD xs ys) : ∃ x ∈ xs, ∃ y ∈ ys, z = .tup [x, y] := by
  obtain ⟨i, hi⟩ := List.mem_iff_getElem?.mp h
  obtain ⟨x, y, e1, e2, rfl⟩ := zipD_get hi
  exact ⟨x, List.mem_of_getElem? e1, y, List.mem_of_getElem? e2, rfl⟩
theorem all_map_id {α : Type} (p : α → Bool) (xs : List α) : (xs.map p).all id = xs.all p := by simp
theorem lot_good_ok (k : Nat) (d : D) (h : okTh d = true) : cl sub res (k+4) 3 [.d d] = .ok (.d (.bl (lotB d))) [none] := by
  rw [cl, evCall_succ _ _ D3]
  cases d with
  | tup xs =>
    have hx : ∀ x ∈ xs, okTh x = true := okThs_mem (by simpa [okTh] using h)
    by_cases hl : 1 ≤ xs.length ∧ xs.length ≤ 40
    · have l1 : (1 : Int) ≤ xs.length := by omega
      have l2 : (xs.length : Int) ≤ 40 := by omega
      have c1 := compL_map (tg := nmG 1) (f := (ev ⟨evCall defs sub res (k+3), jOf defs, sub, res, evL defs sub res (k+3)⟩ [] d3_e0).e) (vs := [1]) (ρ := [some (.d (.tup xs)), none, none, none]) (fun x => .bl (ptB x)) xs fun x hm => by
        have e := point_good_ok (sub := sub) (res := res) k x (hx x hm)
        simp only [cl] at e
        simp [fnV, kS, lenT, compS, isiB, okTy, blsD, Pv.isNon, -ltQ, d3_e0, e]
      by_cases hp : xs.all ptB = true
      · have c2 := compL_map (tg := tupG 2 (consG (nmG 2) (consG (nmG 3) nilG))) (f := (ev ⟨evCall defs sub res (k+3), jOf defs, sub, res, evL defs sub res (k+3)⟩ [] d3_e1).e) (vs := [2, 3]) (ρ := [some (.d (.tup xs)), none, none, none]) (fun z => .bl (ltP z)) (zipD xs xs.tail) fun z hz => by
          obtain ⟨x, hx1, y, hy1, rfl⟩ := zipD_mem hz
          obtain ⟨p, rfl, _⟩ := ptB_eq (List.all_eq_true.mp hp x hx1)
          obtain ⟨q, rfl, _⟩ := ptB_eq (List.all_eq_true.mp hp y (List.mem_of_mem_tail hy1))
          simp [fnV, kS, lenT, compS, isiB, okTy, blsD, Pv.isNon, -ltQ, d3_e1, ltQ_pt, ltP]
        have hz : (zipD xs xs.tail).length ≤ 16777216 := by simp [fnV, kS, lenT, compS, isiB, okTy, blsD, Pv.isNon, -ltQ, zipD]; omega
        have hz2 : xs.length ≤ 16777216 := by omega
        simp [fnV, kS, lenT, compS, isiB, okTy, blsD, Pv.isNon, -ltQ, d3, lotB, hl, l1, l2, hz2, c1, hp, cut1, hz, c2, ris_zip']
      · have hz2 : xs.length ≤ 16777216 := by omega
        have hp' : xs.all ptB = false := by simpa using hp
        simp [fnV, kS, lenT, compS, isiB, okTy, blsD, Pv.isNon, -ltQ, d3, lotB, hl, l1, l2, hz2, c1, hp']
    · have l1 : ¬ ((1 : Int) ≤ xs.length ∧ (xs.length : Int) ≤ 40) := by omega
      by_cases l2 : (1 : Int) ≤ xs.length
      · have l3 : ¬ (xs.length : Int) ≤ 40 := by omega
        simp [fnV, kS, lenT, compS, isiB, okTy, blsD, Pv.isNon, -ltQ, d3, lotB, hl, l2, l3]
      · simp [fnV, kS, lenT, compS, isiB, okTy, blsD, Pv.isNon, -ltQ, d3, lotB, hl, l2]
  | _ => first | (simp [fnV, kS, lenT, compS, isiB, okTy, blsD, Pv.isNon, -ltQ, okTh] at h; done) | simp [fnV, kS, lenT, compS, isiB, okTy, blsD, Pv.isNon, -ltQ, d3, lotB]
theorem must_lot_ok (k : Nat) (d : D) (h : okTh d = true) : cl sub res (k+5) 20 [.d d] = if lotB d = true then .ok (.d .non) [none] else .exc ⟨2, []⟩ [none] := by
  have e := lot_good_ok (sub := sub) (res := res) k d h
  rw [cl] at e
  rw [cl, evCall_succ _ _ D20]
  cases hb : lotB d <;> simp [fnV, kS, lenT, compS, isiB, okTy, blsD, Pv.isNon, -ltQ, d20, e, hb]
@[simp] theorem eqQ_bl (f : Bool → Bool) (i j : Bool) : eqQ f (.bl i) (.bl j) = some (f (i == j)) := by
  simp [fnV, kS, lenT, compS, isiB, okTy, blsD, Pv.isNon, -ltQ, eqQ, okEq, can, dep, eqd, py, PyData.eqv]
theorem eqQ_str (f : Bool → Bool) (x y : Str) (hx : PyData.strOk x = true) (hy : PyData.strOk y = true) : eqQ f (.str x) (.str y) = some (f (x == y)) := by
  simp [fnV, kS, lenT, compS, isiB, okTy, blsD, Pv.isNon, -ltQ, eqQ, okEq, can, dep, eqd, py, PyData.eqv, hx, hy]
mutual
/-- what is told: None, truths, numbers, texts, tuples and lists of these -/
def pln : D → Bool
  | .non => true | .bl _ => true | .int _ => true
  | .str x => PyData.strOk x
  | .tup xs => plns xs && decide (xs.length ≤ 16777216)
  | .lst xs => plns xs && decide (xs.length ≤ 16777216)
  | _ => false
def plns : List D → Bool
  | [] => true
  | d :: ds => pln d && plns ds
end
theorem plns_mem : ∀ {ds : List D}, plns ds = true → ∀ d ∈ ds, pln d = true
  | [], _, d, h => by cases h
  | e :: ds, c, d, h => by
    simp only [plns, Bool.and_eq_true] at c
    rcases List.mem_cons.mp h with rfl | h
    · exact c.1
    · exact plns_mem c.2 d h
theorem zip_self (xs : List D) : zipD xs xs = xs.map fun x => .tup [x, x] := by
  induction xs with
  | nil => rfl
  | cons x xs ih => simp only [zipD, List.zipWith_cons_cons, List.map_cons] at ih ⊢; rw [ih]
theorem same_refl : ∀ (n k : Nat) (d : D), dep d ≤ n → pln d = true → cl sub res (k+n+1) 10 [.d d, .d d] = .ok (.d (.bl true)) [none, none] := by
  intro n
  induction n with
  | zero =>
    intro k d hd hp
    rw [cl, evCall_succ _ _ D10]
    cases d <;> first | (simp [fnV, kS, lenT, compS, isiB, okTy, blsD, Pv.isNon, -ltQ, pln] at hp; done) | (simp [fnV, kS, lenT, compS, isiB, okTy, blsD, Pv.isNon, -ltQ, dep] at hd; done) | (simp only [pln] at hp; simp [fnV, kS, lenT, compS, isiB, okTy, blsD, Pv.isNon, -ltQ, d10, eqQ_str, hp])
  | succ n ih =>
    intro k d hd hp
    rw [cl, show k + (n + 1) + 1 = (k + n + 1) + 1 by omega, evCall_succ _ _ D10]
    have lp : ∀ xs : List D, plns xs = true → deps xs ≤ n → ∀ a b : Option A, ∃ a' b', forL (tupG 2 (consG (nmG 2) (consG (nmG 3) nilG))) (ev ⟨evCall defs sub res (k + n + 1), jOf defs, sub, res, evL defs sub res (k + n + 1)⟩ [] d10_b0).s (xs.map fun x => .tup [x, x]) [some (.d d), some (.d d), a, b] = .ok .nx [some (.d d), some (.d d), a', b'] := by
      intro xs
      induction xs with
      | nil => intro _ _ a b; exact ⟨a, b, rfl⟩
      | cons x xs ihx =>
        intro h1 h2 a b
        simp only [plns, Bool.and_eq_true] at h1
        simp only [deps] at h2
        have e := ih k x (by omega) h1.1
        rw [cl] at e
        obtain ⟨a', b', e'⟩ := ihx h1.2 (by omega) (some (.d x)) (some (.d x))
        refine ⟨a', b', ?_⟩
        rw [List.map_cons, ← e']
        simp [fnV, kS, lenT, compS, isiB, okTy, blsD, Pv.isNon, -ltQ, forL, d10_b0, e]
    cases d with
    | tup xs =>
      simp only [pln, Bool.and_eq_true] at hp
      obtain ⟨a', b', e⟩ := lp xs hp.1 (by simp only [dep] at hd; omega) none none
      simp [fnV, kS, lenT, compS, isiB, okTy, blsD, Pv.isNon, -ltQ, d10, d10_l0, forS, zip_self, e]
    | lst xs =>
      simp only [pln, Bool.and_eq_true] at hp
      obtain ⟨a', b', e⟩ := lp xs hp.1 (by simp only [dep] at hd; omega) none none
      simp [fnV, kS, lenT, compS, isiB, okTy, blsD, Pv.isNon, -ltQ, d10, d10_l0, forS, zip_self, e]
    | _ => first | (simp [fnV, kS, lenT, compS, isiB, okTy, blsD, Pv.isNon, -ltQ, pln] at hp; done) | (simp only [pln] at hp; simp [fnV, kS, lenT, compS, isiB, okTy, blsD, Pv.isNon, -ltQ, d10, eqQ_str, hp])
end Lk

namespace Lk
open PySem PySem.Spec PyProof.Rows L2 Pv
open Pv0 (no get setM)
variable {sub : Nat → Nat → Bool} {res : Nat → Option Str}
theorem pen_ok (k : Nat) (c : Int) : ∃ f, cl sub res (k+1) 7 [.d (.int c)] = .ok (penA c f) [none] := by
  refine ⟨if 1000000000000000000 ≤ c then 1 else 0, ?_⟩
  rw [cl, evCall_succ _ _ D7]
  simp [fnV, kS, lenT, compS, isiB, okTy, blsD, Pv.isNon, -ltQ, d7]
theorem cell_ok (k : Nat) (ns : List Int) : ∃ c, cl sub res (k+1) 6 [.d (.scr ns), .d (.int 0)] = .ok (.d (.int c)) [none, none] := by
  rw [cl, evCall_succ _ _ D6]
  cases ns with
  | nil => exact ⟨0, by simp [fnV, kS, lenT, compS, isiB, okTy, blsD, Pv.isNon, -ltQ, d6]⟩
  | cons n ns => exact ⟨n, by have : (0 : Int) < ns.length + 1 := by omega
                              simp [fnV, kS, lenT, compS, isiB, okTy, blsD, Pv.isNon, -ltQ, d6, this]⟩
theorem point_ok (k : Nat) (p f w : Int) (h0 : 0 ≤ w) (h1 : w ≤ 10000) : ∃ x y p', -w ≤ x ∧ x ≤ w ∧ -w ≤ y ∧ y ≤ w ∧ cl sub res (k+2) 11 [penA p f, .d (.int w)] = .ok (.d (ptD (x, y))) [some (penA p' f), none] := by
  obtain ⟨r1, p1, a1, b1, e1⟩ := draw_ok (sub := sub) (res := res) k p f (2 * w + 1) (by omega) (by omega)
  obtain ⟨r2, p2, a2, b2, e2⟩ := draw_ok (sub := sub) (res := res) k p1 f (2 * w + 1) (by omega) (by omega)
  refine ⟨r1 - w, r2 - w, p2, by omega, by omega, by omega, by omega, ?_⟩
  rw [cl] at e1 e2
  rw [cl, evCall_succ _ _ D11]
  have o1 : okM w = true := okM_of (by omega) (by omega)
  have o2 : okM 2 = true := okM_of (by omega) (by omega)
  simp [fnV, kS, lenT, compS, isiB, okTy, blsD, Pv.isNon, -ltQ, d11, o1, o2, e1, e2, ptD]
/-! ### lots -/
def ltPt (p q : Int × Int) : Bool := decide (p.1 < q.1 ∨ (p.1 = q.1 ∧ p.2 < q.2))
def ptK (p : Int × Int) : List Int := [p.1, p.2]
def lotD (L : List (Int × Int)) : D := .tup (L.map ptD)
theorem ptD_K (p : Int × Int) : ptD p = tupI (ptK p) := rfl
theorem linP : Lin ltPt := ⟨fun a => by simp [fnV, kS, lenT, compS, isiB, okTy, blsD, Pv.isNon, -ltQ, ltPt], fun a b c h1 h2 => by simp [fnV, kS, lenT, compS, isiB, okTy, blsD, Pv.isNon, -ltQ, ltPt] at *; omega, fun a b h1 h2 => by
  simp [fnV, kS, lenT, compS, isiB, okTy, blsD, Pv.isNon, -ltQ, ltPt] at *
  exact Prod.ext (by omega) (by omega)⟩
theorem ltT_pt (p q : Int × Int) : ltT (ptK p) (ptK q) = ltPt p q := by
  simp [fnV, kS, lenT, compS, isiB, okTy, blsD, Pv.isNon, -ltQ, ltT, ptK, ltPt, List.cons_lt_cons_iff]
theorem ltd_pt (p q : Int × Int) : ltd (ptD p) (ptD q) = ltPt p q := by rw [ptD_K, ptD_K, ltd_tup, ltT_pt]
theorem insU_map {α β : Type} {lt : α → α → Bool} {lt' : β → β → Bool} (f : β → α) (h : ∀ a b, lt (f a) (f b) = lt' a b) (k : β) : ∀ xs, insU lt (f k) (xs.map f) = (insU lt' k xs).map f
  | [] => rfl
  | x :: xs => by
    simp only [List.map_cons, insU, h]
    split
    · rfl
    · split
      · rw [List.map_cons, insU_map f h k xs]
      · rfl
theorem usort_map {α β : Type} {lt : α → α → Bool} {lt' : β → β → Bool} (f : β → α) (h : ∀ a b, lt (f a) (f b) = lt' a b) : ∀ xs, usort lt (xs.map f) = (usort lt' xs).map f
  | [] => rfl
  | x :: xs => by rw [List.map_cons, usort, usort_map f h xs, insU_map f h, usort]
/-- the lot of points -/
def lotOf (ps : List (Int × Int)) : List (Int × Int) := usort ltPt ps
theorem setL_pts {ps : List (Int × Int)} (hn : ps ≠ []) (h : ps.length < 64) : setL (ps.map ptD) = some ((lotOf ps).map ptD) := by
  have e1 : toIs (ps.map ptD) = none := by
    cases ps with
    | nil => exact absurd rfl hn
    | cons p ps => rfl
  have e2 : toTs (ps.map ptD) = some (ps.map ptK) := by
    have := toTs_map (ps.map ptK)
    rw [List.map_map] at this
    exact this
  unfold setL
  rw [e1, e2]
  simp only [List.length_map]
  rw [if_pos ⟨h, by simp [fnV, kS, lenT, compS, isiB, okTy, blsD, Pv.isNon, -ltQ, ptK]⟩, usort_map ptK ltT_pt, List.map_map]
  rfl
structure LotOk (L : List (Int × Int)) : Prop where
  ne : L ≠ []
  len : L.length ≤ 40
  bd : ∀ p ∈ L, -1000 ≤ p.1 ∧ p.1 ≤ 1000 ∧ -1000 ≤ p.2 ∧ p.2 ≤ 1000
  ris : L.Pairwise fun p q => ltPt p q = true
theorem lotOf_ok {ps : List (Int × Int)} (hn : ps ≠ []) (h : ps.length ≤ 40) (hb : ∀ p ∈ ps, -1000 ≤ p.1 ∧ p.1 ≤ 1000 ∧ -1000 ≤ p.2 ∧ p.2 ≤ 1000) : LotOk (lotOf ps) where
  ne := fun e => by
    cases ps with
    | nil => exact hn rfl
    | cons p ps =>
      have := (mem_usort linP p (p :: ps)).mpr (List.mem_cons_self ..)
      unfold lotOf at e
      rw [e] at this
      cases this
  len := Nat.le_trans (usort_len linP ps) h
  bd := fun p hp => hb p ((mem_usort linP p ps).mp hp)
  ris := usort_pw linP ps
theorem ris_pw : ∀ {L : List (Int × Int)}, L.Pairwise (fun p q => ltPt p q = true) → risB (L.map ptD) = true
  | [], _ => rfl
  | [p], _ => rfl
  | p :: q :: r, h => by
    obtain ⟨h1, h2⟩ := List.pairwise_cons.mp h
    simp only [List.map_cons, risB, ltd_pt, h1 q (List.mem_cons_self ..), Bool.true_and]
    exact ris_pw h2
theorem ptB_pt {p : Int × Int} (h : -1000 ≤ p.1 ∧ p.1 ≤ 1000 ∧ -1000 ≤ p.2 ∧ p.2 ≤ 1000) : ptB (ptD p) = true := by
  simp [fnV, kS, lenT, compS, isiB, okTy, blsD, Pv.isNon, -ltQ, ptB, ptD, fromB, h]
theorem lotB_ok {L : List (Int × Int)} (h : LotOk L) : lotB (lotD L) = true := by
  have l0 : 0 < L.length := List.length_pos_iff.mpr h.ne
  have := h.len
  simp only [lotB, lotD, List.length_map, Bool.and_eq_true, decide_eq_true_eq, List.all_map, List.all_eq_true]
  exact ⟨⟨by omega, this⟩, fun p hp => ptB_pt (h.bd p hp), ris_pw h.ris⟩
theorem upD_mem {lo : Int} {n : Nat} {d : D} (h : d ∈ upD lo n) : ∃ i : Nat, i < n ∧ d = .int (lo + i) := by
  unfold upD at h
  obtain ⟨i, hi, rfl⟩ := List.mem_map.mp h
  exact ⟨i, List.mem_range.mp hi, rfl⟩
/-- data that are points -/
theorem pts_of {ys : List D} {Q : Int × Int → Prop} (h : ∀ y ∈ ys, ∃ p, y = ptD p ∧ Q p) : ∃ ps : List (Int × Int), ys = ps.map ptD ∧ ∀ p ∈ ps, Q p := by
  induction ys with
  | nil => exact ⟨[], rfl, fun p h => by cases h⟩
  | cons y ys ih =>
    obtain ⟨p, e, q⟩ := h y (List.mem_cons_self ..)
    obtain ⟨ps, e2, q2⟩ := ih fun z hz => h z (List.mem_cons_of_mem _ hz)
    exact ⟨p :: ps, by rw [e, e2]; rfl, fun r hr => by
      rcases List.mem_cons.mp hr with rfl | hr
      · exact q
      · exact q2 r hr⟩
end Lk

namespace Lk
open PySem PySem.Spec PyProof.Rows L2 Pv
open Pv0 (no get setM)
variable {sub : Nat → Nat → Bool} {res : Nat → Option Str}
abbrev Vk (sub : Nat → Nat → Bool) (res : Nat → Option Str) (k : Nat) : Gv := ⟨evCall defs sub res k, jOf defs, sub, res, evL defs sub res k⟩
abbrev iA (i : Int) : Option A := some (.d (.int i))
theorem wide_pick {r : Int} (h0 : 0 ≤ r) (h1 : r < 5) : ∃ w, 1 ≤ w ∧ w ≤ 1000 ∧ atI [D.int 1, .int 2, .int 4, .int 12, .int 1000] r = some (.int w) := by
  have : r = 0 ∨ r = 1 ∨ r = 2 ∨ r = 3 ∨ r = 4 := by omega
  rcases this with rfl | rfl | rfl | rfl | rfl
  · exact ⟨1, by omega, by omega, rfl⟩
  · exact ⟨2, by omega, by omega, rfl⟩
  · exact ⟨4, by omega, by omega, rfl⟩
  · exact ⟨12, by omega, by omega, rfl⟩
  · exact ⟨1000, by omega, by omega, rfl⟩
/-- the end of a lot: what is drawn, at most so many of them -/
theorem lot_end {ps : List (Int × Int)} {m : Int} (hn : ps ≠ []) (h0 : 1 ≤ m) (h1 : m ≤ 40) : setL (cut (ps.map ptD) none (some m)) = some ((lotOf (ps.take m.toNat)).map ptD) := by
  have e : m = ((m.toNat : Nat) : Int) := by omega
  rw [e, cut_take, ← List.map_take]
  have : ps.take m.toNat ≠ [] := by
    cases ps with
    | nil => exact absurd rfl hn
    | cons p ps =>
      have : m.toNat = (m.toNat - 1) + 1 := by omega
      rw [this]
      simp
  rw [setL_pts this (by rw [List.length_take]; omega)]
  rfl
theorem atP0 (x y : Int) : ixQ (ptD (x, y)) (.int 0) = some (.d (.int x)) := rfl
theorem atP1 (x y : Int) : ixQ (ptD (x, y)) (.int 1) = some (.d (.int y)) := rfl
theorem lot_ok (k : Nat) (p f most : Int) (h0 : 1 ≤ most) (h1 : most ≤ 40) : ∃ L p', LotOk L ∧ (L.length : Int) ≤ most ∧ cl sub res (k+3) 12 [penA p f, .d (.int most)] = .ok (.d (lotD L)) [some (penA p' f), none] := by
  obtain ⟨r1, p1, a1, b1, e1⟩ := draw_ok (sub := sub) (res := res) (k+1) p f 7 (by omega) (by omega)
  obtain ⟨r2, p2, a2, b2, e2⟩ := draw_ok (sub := sub) (res := res) (k+1) p1 f most (by omega) (by omega)
  obtain ⟨r3, p3, a3, b3, e3⟩ := draw_ok (sub := sub) (res := res) (k+1) p2 f 5 (by omega) (by omega)
  obtain ⟨w, w0, w1, ew⟩ := wide_pick a3 b3
  obtain ⟨ax, ay, p4, x0, x1, y0, y1, e4⟩ := point_ok (sub := sub) (res := res) k p3 f 400 (by omega) (by omega)
  obtain ⟨r5, p5, a5, b5, e5⟩ := draw_ok (sub := sub) (res := res) (k+1) p4 f 9 (by omega) (by omega)
  have hR : okR (1 + r2) = true := by unfold okR; exact decide_eq_true ⟨by omega, by omega⟩
  have hU : (upD 0 (1 + r2).toNat).length ≤ 16777216 := by simp [fnV, kS, lenT, compS, isiB, okTy, blsD, Pv.isNon, -ltQ, -setL, upD]; omega
  obtain ⟨ys, ρ', e6, hlen, hys, p6, rfl⟩ := compL_ex (tg := nmG 9) (f := (ev (Vk sub res (k+2)) [0] d12_e0).e) (vs := [9])
    (fun ρ => ∃ q, ρ = [some (penA q f), iA most, iA (1 + r5), none, iA r1, iA (1 + r2), iA w, some (.d (ptD (ax, ay))), none, none, none, none, none]) (fun y => ∃ q, y = ptD q ∧ -w ≤ q.1 ∧ q.1 ≤ w ∧ -w ≤ q.2 ∧ q.2 ≤ w)
    (upD 0 (1 + r2).toNat) _ (fun d hd ρ hρ => by
      obtain ⟨q, rfl⟩ := hρ
      obtain ⟨i, hi, rfl⟩ := upD_mem hd
      obtain ⟨x, y, q', z0, z1, z2, z3, e⟩ := point_ok (sub := sub) (res := res) k q f w (by omega) (by omega)
      rw [cl] at e
      exact ⟨ptD (x, y), _, by simp [fnV, kS, lenT, compS, isiB, okTy, blsD, Pv.isNon, -ltQ, -setL, d12_e0, e], ⟨(x, y), rfl, z0, z1, z2, z3⟩, q', rfl⟩) ⟨p5, rfl⟩
  obtain ⟨ps, rfl, hps⟩ := pts_of hys
  have hl : ps.length = (1 + r2).toNat := by
    have := hlen
    simp [fnV, kS, lenT, compS, isiB, okTy, blsD, Pv.isNon, -ltQ, -setL, upD] at this
    omega
  have hne : ps ≠ [] := fun e => by rw [e] at hl; simp at hl; omega
  rw [cl] at e1 e2 e3 e4 e5
  have fin : ∀ qs : List (Int × Int), qs ≠ [] → (∀ p ∈ qs, -1000 ≤ p.1 ∧ p.1 ≤ 1000 ∧ -1000 ≤ p.2 ∧ p.2 ≤ 1000) → LotOk (lotOf (qs.take (1 + r2).toNat)) ∧ ((lotOf (qs.take (1 + r2).toNat)).length : Int) ≤ most ∧ setL (cut (qs.map ptD) none (some (1 + r2))) = some ((lotOf (qs.take (1 + r2).toNat)).map ptD) := by
    intro qs hq hb
    have hq' : qs.take (1 + r2).toNat ≠ [] := by
      cases qs with
      | nil => exact absurd rfl hq
      | cons q qs =>
        have : (1 + r2).toNat = ((1 + r2).toNat - 1) + 1 := by omega
        rw [this]
        simp
    have hle := usort_len linP (qs.take (1 + r2).toNat)
    rw [List.length_take] at hle
    refine ⟨lotOf_ok hq' (by rw [List.length_take]; omega) fun p hp => hb p (List.mem_of_mem_take hp), ?_, lot_end hq (by omega) (by omega)⟩
    show ((usort ltPt (qs.take (1 + r2).toNat)).length : Int) ≤ most
    omega
  have w400 : ∀ p ∈ ps, -1000 ≤ p.1 ∧ p.1 ≤ 1000 ∧ -1000 ≤ p.2 ∧ p.2 ≤ 1000 := fun p hp => by have := hps p hp; omega
  have o4 : okM 4 = true := okM_of (by omega) (by omega)
  have o5 : okM (1 + r5) = true := okM_of (by omega) (by omega)
  have mem : ∀ {ρ : Ev} {f : SemE} {vs : List Nat} (g : Nat → Int × Int), (∀ i : Nat, (i : Int) < 1 + r2 → stepC (nmG 10) f vs (.int (i : Int)) ρ = .ok (ptD (g i)) ρ) → ∃ qs : List (Int × Int), qs ≠ [] ∧ (∀ q ∈ qs, ∃ i : Nat, (i : Int) < 1 + r2 ∧ q = g i) ∧ compL (nmG 10) none f vs (upD 0 (1 + r2).toNat) ρ = .ok (qs.map ptD) ρ := by
    intro ρ f vs g h
    refine ⟨(List.range (1 + r2).toNat).map g, fun e => ?_, fun q hq => ?_, ?_⟩
    · have := congrArg List.length e
      simp at this
      omega
    · obtain ⟨i, hi, rfl⟩ := List.mem_map.mp hq
      have := List.mem_range.mp hi
      exact ⟨i, by omega, rfl⟩
    have := compL_map (tg := nmG 10) (f := f) (vs := vs) (ρ := ρ) (fun d => match d with | .int i => ptD (g i.toNat) | d => d) (upD 0 (1 + r2).toNat) fun d hd => by
      obtain ⟨i, hi, rfl⟩ := upD_mem hd
      have := h i (by omega)
      simpa using this
    rw [this]
    congr 1
    simp [fnV, kS, lenT, compS, isiB, okTy, blsD, Pv.isNon, -ltQ, -setL, upD]
  by_cases c0 : r1 = 0
  · subst c0
    obtain ⟨qs, q1, q2, g⟩ := mem (ρ := [some (penA p6 f), iA most, iA (1 + r5), some (.l (ps.map ptD)), iA 0, iA (1 + r2), iA w, some (.d (ptD (ax, ay))), none, none, none, none, none]) (f := (ev (Vk sub res (k+2)) [0] d12_e1).e) (vs := [10])
      (fun i => (ax + (i : Int) % 4, ay + (i : Int) / 4)) fun i hi => by simp [fnV, kS, lenT, compS, isiB, okTy, blsD, Pv.isNon, -ltQ, -setL, d12_e1, ptD, o4, o5]
    obtain ⟨g1, g2, g3⟩ := fin qs q1 fun p hp => by
      obtain ⟨i, hi, rfl⟩ := q2 p hp
      simp only
      omega
    refine ⟨_, p6, g1, g2, ?_⟩
    have hz : ((lotOf (qs.take (1 + r2).toNat)).map ptD).length ≤ 16777216 := by have := g1.len; rw [List.length_map]; omega
    rw [cl, evCall_succ _ _ D12]
    simp only [Vk] at g e6
    simp [fnV, kS, lenT, compS, isiB, okTy, blsD, Pv.isNon, -ltQ, -setL, d12, e1, e2, e3, ew, e4, e5, hR, hU, e6, g, g3, hz, lotD]
  by_cases c1 : r1 = 1
  · subst c1
    obtain ⟨qs, q1, q2, g⟩ := mem (ρ := [some (penA p6 f), iA most, iA (1 + r5), some (.l (ps.map ptD)), iA 1, iA (1 + r2), iA w, some (.d (ptD (ax, ay))), none, none, none, none, none]) (f := (ev (Vk sub res (k+2)) [0] d12_e2).e) (vs := [10])
      (fun i => (ax + (1 + r5) * (i : Int), ay - (i : Int))) fun i hi => by
        have oi : okM (i : Int) = true := okM_of (by omega) (by omega)
        simp [fnV, kS, lenT, compS, isiB, okTy, blsD, Pv.isNon, -ltQ, -setL, d12_e2, ptD, o5, oi]
    obtain ⟨g1, g2, g3⟩ := fin qs q1 fun p hp => by
      obtain ⟨i, hi, rfl⟩ := q2 p hp
      simp only
      have m0 : 0 ≤ (1 + r5) * (i : Int) := Int.mul_nonneg (by omega) (by omega)
      have m1 : (1 + r5) * (i : Int) ≤ 9 * 39 := Int.mul_le_mul (by omega) (by omega) (by omega) (by omega)
      omega
    refine ⟨_, p6, g1, g2, ?_⟩
    have hz : ((lotOf (qs.take (1 + r2).toNat)).map ptD).length ≤ 16777216 := by have := g1.len; rw [List.length_map]; omega
    rw [cl, evCall_succ _ _ D12]
    simp only [Vk] at g e6
    simp [fnV, kS, lenT, compS, isiB, okTy, blsD, Pv.isNon, -ltQ, -setL, d12, e1, e2, e3, ew, e4, e5, hR, hU, e6, g, g3, hz, lotD]
  by_cases c2 : r1 = 2
  · subst c2
    have tz : cut (ps.map ptD) none (some (1 + (1 + r2) / 4)) = (ps.take (1 + (1 + r2) / 4).toNat).map ptD := by
      have e : 1 + (1 + r2) / 4 = (((1 + (1 + r2) / 4).toNat : Nat) : Int) := by omega
      rw [e, cut_take, ← List.map_take]
      rfl
    obtain ⟨ss, hss⟩ : ∃ ss, ss = ps.take (1 + (1 + r2) / 4).toNat := ⟨_, rfl⟩
    rw [← hss] at tz
    have ssb : ∀ p ∈ ss, -1000 ≤ p.1 ∧ p.1 ≤ 1000 ∧ -1000 ≤ p.2 ∧ p.2 ≤ 1000 := fun p hp => w400 p (List.mem_of_mem_take (by rw [← hss]; exact hp))
    have ssl : ss.length ≤ 40 := by rw [hss, List.length_take]; omega
    have ssn : ss ≠ [] := fun e => by
      rw [hss] at e
      have := congrArg List.length e
      rw [List.length_take, List.length_nil] at this
      omega
    have rot : ∀ {ρ : Ev} {f : SemE} (g : Int × Int → Int × Int), (∀ q : Int × Int, stepC (tupG 2 (consG (nmG 11) (consG (nmG 12) nilG))) f [11, 12] (ptD q) ρ = .ok (ptD (g q)) ρ) → compL (tupG 2 (consG (nmG 11) (consG (nmG 12) nilG))) none f [11, 12] (ss.map ptD) ρ = .ok ((ss.map g).map ptD) ρ := by
      intro ρ f g h
      have := compL_map (tg := tupG 2 (consG (nmG 11) (consG (nmG 12) nilG))) (f := f) (vs := [11, 12]) (ρ := ρ) (fun d => match d with | .tup [.int x, .int y] => ptD (g (x, y)) | d => d) (ss.map ptD) fun d hd => by
        obtain ⟨q, hq, rfl⟩ := List.mem_map.mp hd
        exact h q
      rw [this]
      congr 1
      simp [fnV, kS, lenT, compS, isiB, okTy, blsD, Pv.isNon, -ltQ, -setL, ptD]
    have E (x : A) : Ev := [some (penA p6 f), iA most, iA (1 + r5), some x, iA 2, iA (1 + r2), iA w, some (.d (ptD (ax, ay))), some (.d (.lst (ss.map ptD))), none, none, none, none]
    have t1 := rot (ρ := [some (penA p6 f), iA most, iA (1 + r5), some (.l (ps.map ptD)), iA 2, iA (1 + r2), iA w, some (.d (ptD (ax, ay))), some (.d (.lst (ss.map ptD))), none, none, none, none]) (f := (ev (Vk sub res (k+2)) [0] d12_e3).e) (fun q => (0 - q.2, q.1)) fun q => by simp [fnV, kS, lenT, compS, isiB, okTy, blsD, Pv.isNon, -ltQ, -setL, d12_e3, ptD]
    have t2 := rot (ρ := [some (penA p6 f), iA most, iA (1 + r5), some (.l (ps.map ptD)), iA 2, iA (1 + r2), iA w, some (.d (ptD (ax, ay))), some (.d (.lst (ss.map ptD))), none, none, none, none]) (f := (ev (Vk sub res (k+2)) [0] d12_e4).e) (fun q => (0 - q.1, 0 - q.2)) fun q => by simp [fnV, kS, lenT, compS, isiB, okTy, blsD, Pv.isNon, -ltQ, -setL, d12_e4, ptD]
    have t3 := rot (ρ := [some (penA p6 f), iA most, iA (1 + r5), some (.l (ss.map ptD ++ ((ss.map fun q => (0 - q.2, q.1)).map ptD ++ (ss.map fun q => (0 - q.1, 0 - q.2)).map ptD))), iA 2, iA (1 + r2), iA w, some (.d (ptD (ax, ay))), some (.d (.lst (ss.map ptD))), none, none, none, none]) (f := (ev (Vk sub res (k+2)) [0] d12_e5).e) (fun q => (q.2, 0 - q.1)) fun q => by simp [fnV, kS, lenT, compS, isiB, okTy, blsD, Pv.isNon, -ltQ, -setL, d12_e5, ptD]
    obtain ⟨a, ha⟩ : ∃ a, a = ss.map fun q : Int × Int => (0 - q.2, q.1) := ⟨_, rfl⟩
    obtain ⟨b, hb⟩ : ∃ b, b = ss.map fun q : Int × Int => (0 - q.1, 0 - q.2) := ⟨_, rfl⟩
    obtain ⟨c, hc⟩ : ∃ c, c = ss.map fun q : Int × Int => (q.2, 0 - q.1) := ⟨_, rfl⟩
    have la : a.length = ss.length := by rw [ha, List.length_map]
    have lb : b.length = ss.length := by rw [hb, List.length_map]
    have lc : c.length = ss.length := by rw [hc, List.length_map]
    obtain ⟨g1, g2, g3⟩ := fin (ss ++ (a ++ (b ++ c))) (by simp [fnV, kS, lenT, compS, isiB, okTy, blsD, Pv.isNon, -ltQ, -setL, ssn]) fun p hp => by
      simp only [List.mem_append] at hp
      rcases hp with hp | hp | hp | hp
      · exact ssb p hp
      · rw [ha] at hp; obtain ⟨q, hq, rfl⟩ := List.mem_map.mp hp; have := ssb q hq; simp only; omega
      · rw [hb] at hp; obtain ⟨q, hq, rfl⟩ := List.mem_map.mp hp; have := ssb q hq; simp only; omega
      · rw [hc] at hp; obtain ⟨q, hq, rfl⟩ := List.mem_map.mp hp; have := ssb q hq; simp only; omega
    refine ⟨_, p6, g1, g2, ?_⟩
    rw [← ha] at t1 t3
    rw [← hb] at t2 t3
    rw [← hc] at t3
    have hz : ((lotOf ((ss ++ (a ++ (b ++ c))).take (1 + r2).toNat)).map ptD).length ≤ 16777216 := by have := g1.len; rw [List.length_map]; omega
    rw [cl, evCall_succ _ _ D12]
    simp only [Vk] at t1 t2 t3 e6
    simp only [List.map_append] at g3
    have z0 : ss.length ≤ 16777216 := by omega
    have z1 : ss.length + a.length ≤ 16777216 := by omega
    have z2 : ss.length + (a.length + b.length) ≤ 16777216 := by omega
    have z3 : ss.length + (a.length + (b.length + c.length)) ≤ 16777216 := by omega
    have z4 : ss.length + a.length + b.length ≤ 16777216 := by omega
    have z5 : ss.length + (a.length + b.length) + c.length ≤ 16777216 := by omega
    simp [fnV, kS, lenT, compS, isiB, okTy, blsD, Pv.isNon, -ltQ, -setL, d12, e1, e2, e3, ew, e4, e5, hR, hU, e6, tz, t1, t2, t3, z0, z1, z2, z3, z4, z5, o4, g3, hz, lotD]
  obtain ⟨g1, g2, g3⟩ := fin ps hne w400
  refine ⟨_, p6, g1, g2, ?_⟩
  have hz : ((lotOf (ps.take (1 + r2).toNat)).map ptD).length ≤ 16777216 := by have := g1.len; rw [List.length_map]; omega
  rw [cl, evCall_succ _ _ D12]
  simp [fnV, kS, lenT, compS, isiB, okTy, blsD, Pv.isNon, -ltQ, -setL, d12, e1, e2, e3, ew, e4, e5, hR, hU, e6, c0, c1, c2, g3, hz, lotD]
end Lk

namespace Lk
open PySem PySem.Spec PyProof.Rows L2 Pv
open Pv0 (no get setM)
variable {sub : Nat → Nat → Bool} {res : Nat → Option Str}
/-! ### for the walk -/
theorem lent_cons {x : Option A} {ρ : Ev} : lent (x :: ρ) = x.map (fun a => .d (dataA a)) :: lent ρ := rfl
theorem cmpQ_in (x y : D) : cmpQ .In x y = inQ id x y := rfl
theorem cmpQ_notin (x y : D) : cmpQ .NotIn x y = inQ (!·) x y := rfl
theorem okTy_int : okTy "int" = true := by decide
theorem okTy_bool : okTy "bool" = true := by decide
theorem okTy_tuple : okTy "tuple" = true := by decide
theorem okTy_list : okTy "list" = true := by decide
theorem okTy_str : okTy "str" = true := by decide
theorem okTy_dict : okTy "dict" = true := by decide
theorem isiB_lit (t n : String) : isiB t n = (decide (t = n) || (decide (t = "bool") && decide (n = "int"))) := by
  unfold isiB; rfl
theorem okM_lit (n : Nat) (h : decide (n < 18446744073709551616) = true) : okM (no_index (OfNat.ofNat n : Int)) = true := by
  have := of_decide_eq_true h
  exact okM_of (by show (-18446744073709551616 : Int) < (n : Int); omega) (by show (n : Int) < 18446744073709551616; omega)
theorem okR_lit (n : Nat) (h : decide (n < 1000000000000) = true) : okR (no_index (OfNat.ofNat n : Int)) = true := by
  have := of_decide_eq_true h
  unfold okR
  exact decide_eq_true ⟨by show (-1000000000000 : Int) < (n : Int); omega, by show (n : Int) < 1000000000000; omega⟩
theorem pW_s {V : Gv} {J : List Nat} {a : T} {ρ : Ev} {Q : Option Int → Ev → Prop} {E : X1 → Ev → Prop} : pW (some (ev V J a).e) ρ Q E = Wp ((ev V J a).e ρ) (fun u ρ1 => ioW u fun i => Q i ρ1) E := pW_c (as := .nil)
theorem wStep {a : A} {l h : Option Int} {st : Int} {ρ : Ev} {Q : U → Ev → Prop} {E : X1 → Ev → Prop} : Wp (stepU (.v a) l h (some st) ρ) Q E = fl a fun x => wo (stepQ x l h st) fun z => Q (.v z) ρ := by
  cases a with
  | d x => rw [fl_d]; exact wOutA
  | l xs => rw [fl_l]; show Wp (outA (stepQ (.lst xs) l h st) ρ) Q E = _; exact wOutA
  | m xs => rw [fl_m]; show Wp (outA (stepQ (.dct (xs.map (·.1)) (xs.map (·.2))) l h st) ρ) Q E = _; exact wOutA
  | n _ _ => with_unfolding_all rfl
theorem all_tt {α : Type} (ds : List α) : (ds.map fun _ => true).all id = true := by
  rw [List.all_eq_true]
  intro b h
  obtain ⟨_, _, rfl⟩ := List.mem_map.mp h
  rfl
theorem wo_at {α : Type} (enc : α → D) {L : List α} {r : Int} {k : D → Prop} (h0 : 0 ≤ r) (h1 : r < L.length) (h : ∀ a ∈ L, k (enc a)) : wo (atI (L.map enc) r) k := by
  have hj : r.toNat < L.length := by omega
  have e : (r.toNat : Int) = r := by omega
  rw [← e, atI_nat (j := r.toNat) (by rw [List.getElem?_map, List.getElem?_eq_getElem hj]; rfl), wo_s]
  exact h _ (List.getElem_mem hj)
section
variable {Q : A → List (Option A) → Prop} {E : X1 → List (Option A) → Prop}
theorem draw_wf (k : Nat) (p f m : Int) (hm : 0 < m) (hm2 : m < 1000000) (h : ∀ r p', 0 ≤ r → r < m → Q (.d (.int r)) [some (penA p' f), none]) : WF (evCall defs sub res (k+1) 8 [penA p f, .d (.int m)]) Q E := by
  obtain ⟨r, p', h1, h2, e⟩ := draw_ok (sub := sub) (res := res) k p f m hm hm2
  rw [cl] at e
  rw [e, WF_ok]
  exact h r p' h1 h2
theorem pen_wf (k : Nat) (c : Int) (h : ∀ f, Q (penA c f) [none]) : WF (evCall defs sub res (k+1) 7 [.d (.int c)]) Q E := by
  obtain ⟨f, e⟩ := pen_ok (sub := sub) (res := res) k c
  rw [cl] at e
  rw [e, WF_ok]
  exact h f
theorem cell_wf (k : Nat) (ns : List Int) (h : ∀ c, Q (.d (.int c)) [none, none]) : WF (evCall defs sub res (k+1) 6 [.d (.scr ns), .d (.int 0)]) Q E := by
  obtain ⟨c, e⟩ := cell_ok (sub := sub) (res := res) k ns
  rw [cl] at e
  rw [e, WF_ok]
  exact h c
theorem point_wf (k : Nat) (p f w : Int) (h0 : 0 ≤ w) (h1 : w ≤ 10000) (h : ∀ x y p', -w ≤ x → x ≤ w → -w ≤ y → y ≤ w → Q (.d (ptD (x, y))) [some (penA p' f), none]) : WF (evCall defs sub res (k+2) 11 [penA p f, .d (.int w)]) Q E := by
  obtain ⟨x, y, p', a, b, c, d, e⟩ := point_ok (sub := sub) (res := res) k p f w h0 h1
  rw [cl] at e
  rw [e, WF_ok]
  exact h x y p' a b c d
theorem lot_wf (k : Nat) (p f most : Int) (h0 : 1 ≤ most) (h1 : most ≤ 40) (h : ∀ L p', LotOk L → (L.length : Int) ≤ most → Q (.d (lotD L)) [some (penA p' f), none]) : WF (evCall defs sub res (k+3) 12 [penA p f, .d (.int most)]) Q E := by
  obtain ⟨L, p', a, b, e⟩ := lot_ok (sub := sub) (res := res) k p f most h0 h1
  rw [cl] at e
  rw [e, WF_ok]
  exact h L p' a b
end
end Lk

namespace Lk
open PySem PySem.Spec PyProof.Rows L2 Pv
open Pv0 (no get setM)
variable {sub : Nat → Nat → Bool} {res : Nat → Option Str}
/-! ### data without truths: alike where they are the same -/
mutual
def cln : D → Bool
  | .non => true | .int _ => true
  | .str x => PyData.strOk x
  | .tup xs => clns xs
  | .lst xs => clns xs
  | .bl _ => false | .dct _ _ => false | .fn _ => false | .cls _ => false | .ty _ => false | .scr _ => false | .exn _ => false
def clns : List D → Bool
  | [] => true
  | d :: ds => cln d && clns ds
end
mutual
theorem cln_can : ∀ d : D, cln d = true → can d = true
  | .non, _ => rfl | .int _, _ => rfl
  | .str x, h => by simpa [cln, can] using h
  | .tup xs, h => by simp only [can]; exact clns_can xs (by simpa [cln] using h)
  | .lst xs, h => by simp only [can]; exact clns_can xs (by simpa [cln] using h)
  | .bl _, h => by simp [cln] at h
  | .dct _ _, h => by simp [cln] at h
  | .fn _, h => by simp [cln] at h
  | .cls _, h => by simp [cln] at h
  | .ty _, h => by simp [cln] at h
  | .scr _, h => by simp [cln] at h
  | .exn _, h => by simp [cln] at h
theorem clns_can : ∀ ds : List D, clns ds = true → cans ds = true
  | [], _ => rfl
  | d :: ds, h => by
    simp only [clns, Bool.and_eq_true] at h
    simp only [cans, cln_can d h.1, clns_can ds h.2, Bool.and_self]
end
mutual
theorem cln_eq : ∀ x y : D, cln x = true → cln y = true → (eqd x y = true ↔ x = y)
  | .non, y, _, h => by cases y <;> simp_all [cln, eqd, py, PyData.eqv]
  | .int _, y, _, h => by cases y <;> simp_all [cln, eqd, py, PyData.eqv]
  | .str _, y, _, h => by cases y <;> simp_all [cln, eqd, py, PyData.eqv]
  | .tup xs, y, g, h => by
    cases y with
    | tup ys =>
      have := clns_eq xs ys (by simpa [cln] using g) (by simpa [cln] using h)
      simp only [eqd, py, PyData.eqv, D.tup.injEq]
      exact this
    | _ => simp_all [cln, eqd, py, PyData.eqv]
  | .lst xs, y, g, h => by
    cases y with
    | lst ys =>
      have := clns_eq xs ys (by simpa [cln] using g) (by simpa [cln] using h)
      simp only [eqd, py, PyData.eqv, D.lst.injEq]
      exact this
    | _ => simp_all [cln, eqd, py, PyData.eqv]
  | .bl _, _, h, _ => by simp [cln] at h
  | .dct _ _, _, h, _ => by simp [cln] at h
  | .fn _, _, h, _ => by simp [cln] at h
  | .cls _, _, h, _ => by simp [cln] at h
  | .ty _, _, h, _ => by simp [cln] at h
  | .scr _, _, h, _ => by simp [cln] at h
  | .exn _, _, h, _ => by simp [cln] at h
theorem clns_eq : ∀ xs ys : List D, clns xs = true → clns ys = true → (PyData.eqvAll (pys xs) (pys ys) = true ↔ xs = ys)
  | [], [], _, _ => by simp [pys, PyData.eqvAll]
  | [], y :: ys, _, _ => by simp [pys, PyData.eqvAll]
  | x :: xs, [], _, _ => by simp [pys, PyData.eqvAll]
  | x :: xs, y :: ys, g, h => by
    simp only [clns, Bool.and_eq_true] at g h
    have a := cln_eq x y g.1 h.1
    have b := clns_eq xs ys g.2 h.2
    simp only [eqd] at a
    simp only [pys, PyData.eqvAll, Bool.and_eq_true, a, b, List.cons.injEq]
end
theorem clns_map {α : Type} (enc : α → D) : ∀ {L : List α}, (∀ a ∈ L, cln (enc a) = true) → clns (L.map enc) = true
  | [], _ => rfl
  | a :: L, h => by simp only [List.map_cons, clns, h a (List.mem_cons_self ..), clns_map enc fun b hb => h b (List.mem_cons_of_mem _ hb), Bool.and_self]
theorem deps_map {α : Type} (enc : α → D) (n : Nat) : ∀ {L : List α}, (∀ a ∈ L, dep (enc a) ≤ n) → deps (L.map enc) ≤ n
  | [], _ => Nat.zero_le _
  | a :: L, h => by
    have h1 := h a (List.mem_cons_self ..)
    have h2 := deps_map enc n fun b hb => h b (List.mem_cons_of_mem _ hb)
    simp only [List.map_cons, deps]
    omega
theorem clns_mem : ∀ {ds : List D}, clns ds = true → ∀ d ∈ ds, cln d = true
  | [], _, d, h => by cases h
  | e :: ds, c, d, h => by
    simp only [clns, Bool.and_eq_true] at c
    rcases List.mem_cons.mp h with rfl | h
    · exact c.1
    · exact clns_mem c.2 d h
/-- cln and not deep -/
def flat (n : Nat) (d : D) : Prop := cln d = true ∧ dep d ≤ n
theorem flat_int (i : Int) (n : Nat) : flat n (.int i) := ⟨rfl, Nat.zero_le _⟩
theorem flat_pt (p : Int × Int) (n : Nat) : flat (n + 1) (ptD p) := ⟨rfl, by simp [ptD, dep, deps]⟩
theorem flat_lst {α : Type} (enc : α → D) {L : List α} {n : Nat} (h : ∀ a ∈ L, flat n (enc a)) : flat (n + 1) (.lst (L.map enc)) := ⟨by simp only [cln]; exact clns_map enc fun a m => (h a m).1, by
  have := deps_map enc n fun a m => (h a m).2
  simp only [dep]; omega⟩
theorem flat_tup {α : Type} (enc : α → D) {L : List α} {n : Nat} (h : ∀ a ∈ L, flat n (enc a)) : flat (n + 1) (.tup (L.map enc)) := ⟨by simp only [cln]; exact clns_map enc fun a m => (h a m).1, by
  have := deps_map enc n fun a m => (h a m).2
  simp only [dep]; omega⟩
theorem flat_lot (L : List (Int × Int)) (n : Nat) : flat (n + 2) (lotD L) := flat_tup ptD fun p _ => flat_pt p n
theorem flat_ints (L : List Int) (n : Nat) : flat (n + 1) (.lst (L.map .int)) := flat_lst D.int fun i _ => flat_int i n
theorem flat_ptl (L : List (Int × Int)) (n : Nat) : flat (n + 2) (.lst (L.map ptD)) := flat_lst ptD fun p _ => flat_pt p n
section
variable {f : Bool → Bool} {k : Bool → Prop} {x y : D} {n : Nat}
theorem wo_eq (hx : flat 60 x) (hy : flat 60 y) (h1 : x = y → k (f true)) (h2 : x ≠ y → k (f false)) : wo (eqQ f x y) k := by
  have hq := cln_eq x y hx.1 hy.1
  have hk : okEq x y = true := by simp only [okEq, cln_can x hx.1, cln_can y hy.1, hx.2, hy.2, decide_true, Bool.or_self, Bool.and_self]
  unfold eqQ
  rw [if_pos hk, wo_s]
  cases e : eqd x y with
  | true => exact h1 (hq.mp e)
  | false => exact h2 fun z => by rw [hq.mpr z] at e; cases e
theorem wo_same (hx : flat 60 x) (h : k (f true)) : wo (eqQ f x x) k := wo_eq hx hx (fun _ => h) fun z => absurd rfl z
theorem wo_in (hx : flat 60 x) {ds : List D} (hd : clns ds = true) (h1 : x ∈ ds → k (f true)) (h2 : x ∉ ds → k (f false)) : wo (if can x = true ∧ cans ds = true ∧ dep x ≤ 60 then some (f (inL x ds)) else none) k := by
  rw [if_pos ⟨cln_can x hx.1, clns_can ds hd, hx.2⟩, wo_s]
  have e : inL x ds = true ↔ x ∈ ds := by
    unfold inL
    rw [List.any_eq_true]
    constructor
    · rintro ⟨z, hz, e⟩
      rw [← (cln_eq z x (clns_mem hd z hz) hx.1).mp e]; exact hz
    · intro m
      exact ⟨x, m, (cln_eq x x hx.1 hx.1).mpr rfl⟩
  cases q : inL x ds with
  | true => exact h1 (e.mp q)
  | false => exact h2 fun z => by rw [e.mpr z] at q; cases q
theorem inL_iff (hx : flat 60 x) {ds : List D} (hd : clns ds = true) : inL x ds = true ↔ x ∈ ds := by
  unfold inL
  rw [List.any_eq_true]
  constructor
  · rintro ⟨z, hz, e⟩
    rw [← (cln_eq z x (clns_mem hd z hz) hx.1).mp e]; exact hz
  · intro m
    exact ⟨x, m, (cln_eq x x hx.1 hx.1).mpr rfl⟩
theorem in_br (hx : flat 60 x) {ds : List D} {p q : Prop} (hd : clns ds = true) (h1 : x ∈ ds → p) (h2 : x ∉ ds → q) : (can x = true ∧ cans ds = true ∧ dep x ≤ 60) ∧ br (inL x ds) p q := by
  refine ⟨⟨cln_can x hx.1, clns_can ds hd, hx.2⟩, ?_⟩
  have := wo_in (f := id) (k := fun b => br b p q) hx hd (fun m => by simp only [id, br_t]; exact h1 m) fun m => by simp only [id, br_f]; exact h2 m
  rw [if_pos ⟨cln_can x hx.1, clns_can ds hd, hx.2⟩, wo_s] at this
  exact this
end
/-- a condition with one answer -/
theorem wIf {V : Gv} {J : List Nat} {c a b : T} {ρ ρ' : Ev} {Q : Fw → Ev → Prop} {E : X1 → Ev → Prop} (v : Bool) (h1 : Wp ((ev V J c).t ρ) (fun k ρ1 => k = v ∧ ρ1 = ρ') no) (h2 : br v (Wp ((ev V J a).s ρ') Q E) (Wp ((ev V J b).s ρ') Q E)) : Wp ((ev V J (.ite c a b)).s ρ) Q E := by
  rw [wS_ite]
  refine h1.mono (fun k ρ1 h => ?_) fun _ _ z => (show False from z).elim
  rw [h.1, h.2]
  exact h2
theorem lot_inj {L M : List (Int × Int)} : lotD L = lotD M ↔ L = M := by
  constructor
  · intro h
    simp only [lotD, D.tup.injEq] at h
    exact (List.map_inj_right (f := ptD) fun a b e => by
      simp only [ptD, D.tup.injEq, List.cons.injEq, D.int.injEq] at e
      exact Prod.ext e.1 e.2.1).mp h
  · rintro rfl; rfl
theorem pt_inj {p q : Int × Int} : ptD p = ptD q ↔ p = q := by
  constructor
  · intro e
    simp only [ptD, D.tup.injEq, List.cons.injEq, D.int.injEq] at e
    exact Prod.ext e.1 e.2.1
  · rintro rfl; rfl
theorem intsD_map {α : Type} (f : α → Int) : ∀ xs : List α, intsD (xs.map fun x => D.int (f x)) = some (xs.map f)
  | [] => rfl
  | x :: xs => by simp only [List.map_cons, intsD, intsD_map f xs, Option.map_some]
theorem intsD_map' : ∀ xs : List Int, intsD (xs.map D.int) = some xs
  | [] => rfl
  | x :: xs => by simp only [List.map_cons, intsD, intsD_map' xs, Option.map_some]
end Lk

namespace Lk
open PySem PySem.Spec PyProof.Rows L2 Pv
open Pv0 (no get setM)
variable {sub : Nat → Nat → Bool} {res : Nat → Option Str}
theorem lis_point_ok (k : Nat) (d : D) (h : okTh d = true) : cl sub res (k+2) 13 [.d d] = .ok (.d (.bl (ptB d))) [none] := by
  rw [cl, evCall_succ _ _ D13]
  cases d with
  | tup xs =>
    match xs, h with
    | [], _ => simp [fnV, kS, lenT, compS, isiB, okTy, blsD, Pv.isNon, -ltQ, -setL, d13, ptB]
    | [a], _ => simp [fnV, kS, lenT, compS, isiB, okTy, blsD, Pv.isNon, -ltQ, -setL, d13, ptB]
    | [a, b], h =>
      simp only [okTh, okThs, Bool.and_eq_true, and_true] at h
      have e1 := whole_ok (sub := sub) (res := res) k a h.1
      have e2 := whole_ok (sub := sub) (res := res) k b h.2
      simp only [cl] at e1 e2
      have g : ∀ x : D, okTh x = true → ∀ ρ : Ev, ρ = [some (.d (.tup [a, b])), none] → stepC (nmG 1) (ev (Vk sub res (k+1)) [] d13_e0).e [1] x ρ = .ok (.bl (fromB (-1000) 1000 x)) ρ := by
        intro x hx ρ hr
        subst hr
        have e := whole_ok (sub := sub) (res := res) k x hx
        simp only [cl] at e
        cases x <;> first | (simp [fnV, kS, lenT, compS, isiB, okTy, blsD, Pv.isNon, -ltQ, -setL, okTh] at hx; done) | (simp only [wholeB] at e; simp [fnV, kS, lenT, compS, isiB, okTy, blsD, Pv.isNon, -ltQ, -setL, d13_e0, e, fromB]; try (split <;> (simp; try omega)))
      have c := compL_map (tg := nmG 1) (f := (ev (Vk sub res (k+1)) [] d13_e0).e) (vs := [1]) (ρ := [some (.d (.tup [a, b])), none]) (fun x => .bl (fromB (-1000) 1000 x)) [a, b] fun x hx => g x (by
        simp only [List.mem_cons, List.not_mem_nil, or_false] at hx
        rcases hx with rfl | rfl
        · exact h.1
        · exact h.2) _ rfl
      simp only [Vk, List.map_cons, List.map_nil] at c
      simp [fnV, kS, lenT, compS, isiB, okTy, blsD, Pv.isNon, -ltQ, -setL, d13, ptB, c]
    | a :: b :: c :: r, _ =>
      have : ¬ ((r.length : Int) + 1 + 1 + 1 = 2) := by omega
      simp [fnV, kS, lenT, compS, isiB, okTy, blsD, Pv.isNon, -ltQ, -setL, d13, ptB, this]
  | _ => first | (simp [fnV, kS, lenT, compS, isiB, okTy, blsD, Pv.isNon, -ltQ, -setL, okTh] at h; done) | simp [fnV, kS, lenT, compS, isiB, okTy, blsD, Pv.isNon, -ltQ, -setL, d13, ptB]
theorem map_pts (A : List (Int × Int)) : A.map ptD = (A.map ptK).map tupI := by rw [List.map_map]; rfl
theorem eqvAll_pts : ∀ A B : List (Int × Int), PyData.eqvAll (pys (A.map ptD)) (pys (B.map ptD)) = decide (A = B)
  | [], [] => by simp [fnV, kS, lenT, compS, isiB, okTy, blsD, Pv.isNon, -ltQ, -setL, pys, PyData.eqvAll]
  | [], _ :: _ => by simp [fnV, kS, lenT, compS, isiB, okTy, blsD, Pv.isNon, -ltQ, -setL, pys, PyData.eqvAll]
  | _ :: _, [] => by simp [fnV, kS, lenT, compS, isiB, okTy, blsD, Pv.isNon, -ltQ, -setL, pys, PyData.eqvAll]
  | p :: A, q :: B => by
    have : PyData.eqv (py (ptD p)) (py (ptD q)) = decide (p = q) := by
      obtain ⟨a, b⟩ := p
      obtain ⟨c, d⟩ := q
      simp [fnV, kS, lenT, compS, isiB, okTy, blsD, Pv.isNon, -ltQ, -setL, ptD, py, pys, PyData.eqv, PyData.eqvAll]
      by_cases h1 : a = c <;> by_cases h2 : b = d <;> simp [fnV, kS, lenT, compS, isiB, okTy, blsD, Pv.isNon, -ltQ, -setL, h1, h2]
    simp only [List.map_cons, pys, PyData.eqvAll, eqvAll_pts A B, this]
    by_cases h1 : p = q <;> by_cases h2 : A = B <;> simp [fnV, kS, lenT, compS, isiB, okTy, blsD, Pv.isNon, -ltQ, -setL, h1, h2]
theorem eqQ_pts (g : Bool → Bool) (A B : List (Int × Int)) : eqQ g (.lst (A.map ptD)) (.lst (B.map ptD)) = some (g (decide (A = B))) := by
  have h1 : cans (A.map ptD) = true := by rw [map_pts]; exact cans_tups _
  have h2 : cans (B.map ptD) = true := by rw [map_pts]; exact cans_tups _
  have h3 : deps (A.map ptD) ≤ 1 := by rw [map_pts]; exact deps_tups _
  have h4 : deps (A.map ptD) + 1 ≤ 60 := by omega
  unfold eqQ okEq eqd
  simp only [can, dep, h1, h2, h4, py, PyData.eqv, eqvAll_pts, decide_true, Bool.true_or, Bool.and_self, if_true]
theorem pw_ris : ∀ {L : List (Int × Int)}, risB (L.map ptD) = true → L.Pairwise fun p q => ltPt p q = true
  | [], _ => List.Pairwise.nil
  | [p], _ => by simp
  | p :: q :: r, h => by
    simp only [List.map_cons, risB, ltd_pt, Bool.and_eq_true] at h
    have ih := pw_ris (L := q :: r) (by simpa using h.2)
    refine List.pairwise_cons.mpr ⟨fun z hz => ?_, ih⟩
    rcases List.mem_cons.mp hz with rfl | hz
    · exact h.1
    · have := (List.pairwise_cons.mp ih).1 z hz
      simp [fnV, kS, lenT, compS, isiB, okTy, blsD, Pv.isNon, -ltQ, -setL, ltPt] at *
      omega
theorem ris_lotOf (L : List (Int × Int)) : decide (L = lotOf L) = risB (L.map ptD) := by
  cases h : risB (L.map ptD) with
  | true => exact decide_eq_true (usort_unique linP (pw_ris h) fun y => Iff.rfl).symm
  | false =>
    refine decide_eq_false fun e => ?_
    have := ris_pw (L := L) (by rw [e]; exact usort_pw linP L)
    rw [this] at h
    cases h
theorem pts_all {xs : List D} (h : xs.all ptB = true) : ∃ ps : List (Int × Int), xs = ps.map ptD ∧ ∀ p ∈ ps, -1000 ≤ p.1 ∧ p.1 ≤ 1000 ∧ -1000 ≤ p.2 ∧ p.2 ≤ 1000 := pts_of fun y hy => ptB_eq (List.all_eq_true.mp h y hy)
theorem lis_lot_ok (k : Nat) (d : D) (h : okTh d = true) : cl sub res (k+3) 14 [.d d] = .ok (.d (.bl (lotB d))) [none] := by
  rw [cl, evCall_succ _ _ D14]
  cases d with
  | tup xs =>
    have hx : ∀ x ∈ xs, okTh x = true := okThs_mem (by simpa [okTh] using h)
    by_cases hl : 1 ≤ xs.length ∧ xs.length ≤ 40
    · have l1 : (1 : Int) ≤ xs.length := by omega
      have l2 : (xs.length : Int) ≤ 40 := by omega
      have c1 := compL_map (tg := nmG 1) (f := (ev (Vk sub res (k+2)) [] d14_e0).e) (vs := [1]) (ρ := [some (.d (.tup xs)), none]) (fun x => .bl (ptB x)) xs fun x hm => by
        have e := lis_point_ok (sub := sub) (res := res) k x (hx x hm)
        simp only [cl] at e
        simp [fnV, kS, lenT, compS, isiB, okTy, blsD, Pv.isNon, -ltQ, -setL, d14_e0, e]
      simp only [Vk] at c1
      have hz2 : xs.length ≤ 16777216 := by omega
      by_cases hp : xs.all ptB = true
      · obtain ⟨ps, rfl, hb⟩ := pts_all hp
        have hn : ps ≠ [] := fun e => by subst e; simp at hl
        simp only [List.length_map] at hl l1 l2 hz2
        have g3 := setL_pts hn (by omega)
        have hz : (lotOf ps).length ≤ 16777216 := Nat.le_trans (usort_len linP ps) hz2
        have e := eqQ_pts id ps (lotOf ps)
        simp only [id] at e
        have hp2 : (List.map ptB (List.map ptD ps)).all id = true := by rw [all_map_id]; exact hp
        simp [fnV, kS, lenT, compS, isiB, okTy, blsD, Pv.isNon, -ltQ, -setL, d14, lotB, hl, l1, l2, hz2, c1, hp, hp2, g3, hz, e, ris_lotOf, -List.map_map, -List.all_map]
      · have hp' : xs.all ptB = false := by simpa using hp
        simp [fnV, kS, lenT, compS, isiB, okTy, blsD, Pv.isNon, -ltQ, -setL, d14, lotB, hl, l1, l2, hz2, c1, hp']
    · have l1 : ¬ ((1 : Int) ≤ xs.length ∧ (xs.length : Int) ≤ 40) := by omega
      by_cases l2 : (1 : Int) ≤ xs.length
      · have l3 : ¬ (xs.length : Int) ≤ 40 := by omega
        simp [fnV, kS, lenT, compS, isiB, okTy, blsD, Pv.isNon, -ltQ, -setL, d14, lotB, hl, l2, l3]
      · simp [fnV, kS, lenT, compS, isiB, okTy, blsD, Pv.isNon, -ltQ, -setL, d14, lotB, hl, l2]
  | _ => first | (simp [fnV, kS, lenT, compS, isiB, okTy, blsD, Pv.isNon, -ltQ, -setL, okTh] at h; done) | simp [fnV, kS, lenT, compS, isiB, okTy, blsD, Pv.isNon, -ltQ, -setL, d14, lotB]
theorem must_point_ok (k : Nat) (d : D) (h : okTh d = true) : cl sub res (k+4) 19 [.d d] = if ptB d = true then .ok (.d .non) [none] else .exc ⟨1, []⟩ [none] := by
  have e := point_good_ok (sub := sub) (res := res) k d h
  rw [cl] at e
  rw [cl, evCall_succ _ _ D19]
  cases hb : ptB d <;> simp [fnV, kS, lenT, compS, isiB, okTy, blsD, Pv.isNon, -ltQ, -setL, d19, e, hb]
end Lk

namespace Lk
open PySem PySem.Spec PyProof.Rows L2 Pv
open Pv0 (no get setM)
variable {sub : Nat → Nat → Bool} {res : Nat → Option Str}
theorem atI_mem {α : Type} (L : List α) {r : Int} (h0 : 0 ≤ r) (h1 : r < L.length) : ∃ d, d ∈ L ∧ atI L r = some d := by
  have hl : r.toNat < L.length := by omega
  refine ⟨L[r.toNat]'hl, List.getElem_mem hl, ?_⟩
  have := atI_nat (xs := L) (j := r.toNat) (v := L[r.toNat]'hl) (List.getElem?_eq_getElem hl)
  rwa [Int.toNat_of_nonneg h0] at this
theorem no_point_ok (k : Nat) (p f x y : Int) : ∃ d p', okTh d = true ∧ ptB d = false ∧ cl sub res (k+2) 15 [penA p f, .d (ptD (x, y))] = .ok (.d d) [some (penA p' f), none] := by
  obtain ⟨r1, p1, a1, b1, e1⟩ := draw_ok (sub := sub) (res := res) k p f 12 (by omega) (by omega)
  obtain ⟨r2, p2, a2, b2, e2⟩ := draw_ok (sub := sub) (res := res) k p1 f 2 (by omega) (by omega)
  obtain ⟨r3, p3, a3, b3, e3⟩ := draw_ok (sub := sub) (res := res) k p2 f 10 (by omega) (by omega)
  obtain ⟨o, ho, eo⟩ := atI_mem [D.int 1001, .int (-1001), .bl true, .bl false, .non, .str "0", .tup [.int 0], .int (100000000000000000000000000000), .lst [.int 0], .dct [] []] a3 (by simpa using b3)
  have o1 : okTh o = true := by
    simp at ho
    rcases ho with rfl | rfl | rfl | rfl | rfl | rfl | rfl | rfl | rfl | rfl <;> rfl
  have o2 : fromB (-1000) 1000 o = false := by
    simp at ho
    rcases ho with rfl | rfl | rfl | rfl | rfl | rfl | rfl | rfl | rfl | rfl <;> rfl
  have c0 : cut [D.int x, D.int y] none (some 0) = [] := by rw [show (0 : Int) = ((0 : Nat) : Int) from rfl, cut_take]; rfl
  have c1 : cut [D.int x, D.int y] none (some 1) = [.int x] := by rw [show (1 : Int) = ((1 : Nat) : Int) from rfl, cut_take]; rfl
  have c2 : cut [D.int x, D.int y] (some 1) none = [.int y] := by rw [cut1]; rfl
  have c3 : cut [D.int x, D.int y] (some 2) none = [] := by rw [show (2 : Int) = ((2 : Nat) : Int) from rfl, cut_drop]; rfl
  rw [cl] at e1 e2 e3
  have fin : ∀ b : D, okTh b = true → ptB b = false → ∃ d, okTh d = true ∧ ptB d = false ∧ atI [b, b, b, b, .tup [.int x], .tup [.int x, .int y, .int 0], .lst [.int x, .int y], .non, .int 7, .str "0,0", .dct [] [], .tup [.tup [.int x, .int y]]] r1 = some d := by
    intro b h1 h2
    obtain ⟨d, hd, e⟩ := atI_mem [b, b, b, b, .tup [.int x], .tup [.int x, .int y, .int 0], .lst [.int x, .int y], .non, .int 7, .str "0,0", .dct [] [], .tup [.tup [.int x, .int y]]] a1 (by simpa using b1)
    refine ⟨d, ?_, ?_, e⟩
    · simp at hd
      rcases hd with rfl | rfl | rfl | rfl | rfl | rfl | rfl | rfl | rfl <;> first | rfl | assumption
    · simp at hd
      rcases hd with rfl | rfl | rfl | rfl | rfl | rfl | rfl | rfl | rfl <;> first | rfl | assumption
  have : r2 = 0 ∨ r2 = 1 := by omega
  rcases this with rfl | rfl
  · obtain ⟨d, h1, h2, e⟩ := fin (.tup [o, .int y]) (by simp [fnV, kS, lenT, compS, isiB, okTy, blsD, Pv.isNon, -ltQ, -setL, okTh, okThs, o1]) (by simp [fnV, kS, lenT, compS, isiB, okTy, blsD, Pv.isNon, -ltQ, -setL, ptB, o2])
    refine ⟨d, p3, h1, h2, ?_⟩
    rw [cl, evCall_succ _ _ D15]
    simp [fnV, kS, lenT, compS, isiB, okTy, blsD, Pv.isNon, -ltQ, -setL, d15, e1, e2, e3, eo, ptD, c0, c1, c2, c3, e]
  · obtain ⟨d, h1, h2, e⟩ := fin (.tup [.int x, o]) (by simp [fnV, kS, lenT, compS, isiB, okTy, blsD, Pv.isNon, -ltQ, -setL, okTh, okThs, o1]) (by simp [fnV, kS, lenT, compS, isiB, okTy, blsD, Pv.isNon, -ltQ, -setL, ptB, o2])
    refine ⟨d, p3, h1, h2, ?_⟩
    rw [cl, evCall_succ _ _ D15]
    simp [fnV, kS, lenT, compS, isiB, okTy, blsD, Pv.isNon, -ltQ, -setL, d15, e1, e2, e3, eo, ptD, c0, c1, c2, c3, e]
end Lk

namespace Lk
open PySem PySem.Spec PyProof.Rows L2 Pv
open Pv0 (no get setM)
variable {sub : Nat → Nat → Bool} {res : Nat → Option Str}
theorem okThs_all {ds : List D} (h : ∀ d ∈ ds, okTh d = true) : okThs ds = true := by
  induction ds with
  | nil => rfl
  | cons d ds ih => simp only [okThs, Bool.and_eq_true]; exact ⟨h d (List.mem_cons_self ..), ih fun x hx => h x (List.mem_cons_of_mem _ hx)⟩
theorem okThs_app (xs ys : List D) : okThs (xs ++ ys) = (okThs xs && okThs ys) := by
  induction xs with
  | nil => rfl
  | cons x xs ih => simp only [List.cons_append, okThs, ih, Bool.and_assoc]
theorem cut_mem {α : Type} {xs : List α} {l h : Option Int} {x : α} (m : x ∈ cut xs l h) : x ∈ xs := by
  unfold cut at m
  first
  | exact List.mem_of_mem_drop (List.mem_of_mem_take m)
  | exact List.mem_of_mem_take (List.mem_of_mem_drop m)
theorem cut_len {α : Type} (xs : List α) (l h : Option Int) : (cut xs l h).length ≤ xs.length := by
  unfold cut
  simp only [List.length_take, List.length_drop]
  omega
theorem stepL_mem {α : Type} {xs : List α} {l h : Option Int} {st : Int} {x : α} (m : x ∈ stepL xs l h st) : x ∈ xs := by
  unfold stepL at m
  obtain ⟨i, _, e⟩ := List.mem_filterMap.mp m
  exact List.mem_of_getElem? e
theorem stepR_len {α : Type} (xs : List α) : (stepL xs none none (-1)).length ≤ xs.length := by
  unfold stepL
  refine Nat.le_trans (List.length_filterMap_le _ _) ?_
  rw [List.length_range]
  simp [fnV, kS, lenT, compS, isiB, okTy, blsD, Pv.isNon, -ltQ, -setL, Builtin.Slice.sliceAdjust, Builtin.Slice.slicePlaces]
  try omega
theorem okTh_pts (L : List (Int × Int)) : okThs (L.map ptD) = true := okThs_all fun d h => by
  obtain ⟨p, _, rfl⟩ := List.mem_map.mp h
  rfl
theorem okThs_cut {xs : List D} (h : okThs xs = true) (a b : Option Int) : okThs (cut xs a b) = true := okThs_all fun d m => okThs_mem h d (cut_mem m)
theorem okThs_step {xs : List D} (h : okThs xs = true) (a b : Option Int) (c : Int) : okThs (stepL xs a b c) = true := okThs_all fun d m => okThs_mem h d (stepL_mem m)
theorem no_lot_ok (k : Nat) (p f : Int) {L : List (Int × Int)} (hL : LotOk L) : ∃ d p', okTh d = true ∧ lotB d = false ∧ cl sub res (k+4) 16 [penA p f, .d (lotD L)] = .ok (.d d) [some (penA p' f), none] := by
  have l0 : 0 < L.length := List.length_pos_iff.mpr hL.ne
  have l1 := hL.len
  obtain ⟨r1, p1, a1, b1, e1⟩ := draw_ok (sub := sub) (res := res) (k+2) p f 14 (by omega) (by omega)
  obtain ⟨r2, p2, a2, b2, e2⟩ := draw_ok (sub := sub) (res := res) (k+2) p1 f L.length (by omega) (by omega)
  obtain ⟨q, hq, eq⟩ := atI_mem L a2 b2
  have eq' : atI (L.map ptD) r2 = some (ptD q) := by
    have e : r2 = ((r2.toNat : Nat) : Int) := by omega
    have z : L[r2.toNat]? = some q := by
      have h2 : r2.toNat < L.length := by omega
      have := atI_nat (xs := L) (j := r2.toNat) (v := L[r2.toNat]'h2) (List.getElem?_eq_getElem h2)
      rw [← e, eq] at this
      rw [List.getElem?_eq_getElem h2, this]
    rw [e]
    exact atI_nat (by rw [List.getElem?_map, z]; rfl)
  obtain ⟨d0, p3, h1, _, e3⟩ := no_point_ok (sub := sub) (res := res) (k+1) p2 f q.1 q.2
  obtain ⟨q0, hq0, eq0⟩ := atI_mem L (r := 0) (by omega) (by omega)
  have eq0' : atI (L.map ptD) 0 = some (ptD q0) := by
    cases L with
    | nil => simp at l0
    | cons a L => simp at eq0; subst eq0; simp
  have s0 := okTh_pts L
  obtain ⟨xs, hxs⟩ : ∃ xs, xs = L.map ptD := ⟨_, rfl⟩
  have lx : xs.length = L.length := by rw [hxs, List.length_map]
  rw [← hxs] at s0 eq' eq0'
  obtain ⟨PA, hA⟩ : ∃ PA, PA = cut xs none (some r2) := ⟨_, rfl⟩
  obtain ⟨B, hB⟩ : ∃ B, B = cut xs (some (r2 + 1)) none := ⟨_, rfl⟩
  obtain ⟨C, hC⟩ : ∃ C, C = cut xs none (some (r2 + 1)) := ⟨_, rfl⟩
  obtain ⟨E, hE⟩ : ∃ E, E = cut xs (some r2) none := ⟨_, rfl⟩
  obtain ⟨Z, hZ⟩ : ∃ Z, Z = cut xs (some (-1)) none := ⟨_, rfl⟩
  obtain ⟨R, hR⟩ : ∃ R, R = stepL xs none none (-1) := ⟨_, rfl⟩
  have sA : okThs PA = true := hA ▸ okThs_cut s0 _ _
  have sB : okThs B = true := hB ▸ okThs_cut s0 _ _
  have sC : okThs C = true := hC ▸ okThs_cut s0 _ _
  have sE : okThs E = true := hE ▸ okThs_cut s0 _ _
  have sZ : okThs Z = true := hZ ▸ okThs_cut s0 _ _
  have sR : okThs R = true := hR ▸ okThs_step s0 _ _ _
  have mA : PA.length ≤ 40 := hA ▸ Nat.le_trans (cut_len _ _ _) (by omega)
  have mB : B.length ≤ 40 := hB ▸ Nat.le_trans (cut_len _ _ _) (by omega)
  have mC : C.length ≤ 40 := hC ▸ Nat.le_trans (cut_len _ _ _) (by omega)
  have mE : E.length ≤ 40 := hE ▸ Nat.le_trans (cut_len _ _ _) (by omega)
  have mZ : Z.length ≤ 40 := hZ ▸ Nat.le_trans (cut_len _ _ _) (by omega)
  have mR : R.length ≤ 40 := hR ▸ Nat.le_trans (stepR_len _) (by omega)
  obtain ⟨wd, hwd⟩ : ∃ wd, wd = (upD 0 41).map fun x => match x with | .int i => D.tup [.int (i / 8), .int (i % 8)] | d => d := ⟨_, rfl⟩
  have swd : okThs wd = true := by rw [hwd]; decide
  have lwd : wd.length = 41 := by rw [hwd]; decide
  rw [cl] at e1 e2 e3
  obtain ⟨d, hd, ed⟩ := atI_mem [.tup (PA ++ d0 :: B), .tup (PA ++ d0 :: B), .lst xs, .tup R, .tup (xs ++ Z), .tup (C ++ E), .tup [], .non, .int 7, .str "0,0", .dct [] [], .tup [.tup xs], .tup wd, ptD q0] a1 (by simpa using b1)
  have hd1 : okTh d = true := by
    simp at hd
    rcases hd with rfl | rfl | rfl | rfl | rfl | rfl | rfl | rfl | rfl | rfl | rfl | rfl | rfl <;> simp [fnV, kS, lenT, compS, isiB, okTy, blsD, Pv.isNon, -ltQ, -setL, okTh, okThs, okThs_app, s0, sA, sB, sC, sE, sZ, sR, h1, swd, ptD]
  have e4 := lis_lot_ok (sub := sub) (res := res) k d hd1
  have e3' := e3
  have cw := compL_map (tg := nmG 8) (f := (ev (Vk sub res (k+3)) [0] d16_e0).e) (vs := [8]) (ρ := [some (penA p3 f), some (.d (.tup xs)), some (.d (.tup (PA ++ d0 :: B))), some (.l [.tup (PA ++ d0 :: B), .tup (PA ++ d0 :: B), .lst xs, .tup R, .tup (xs ++ Z), .tup (C ++ E), .tup [], .non, .int 7, .str "0,0", .dct [] []]), none, none, some (.d (.int r1)), some (.d (.int r2)), none]) (fun x => match x with | .int i => D.tup [.int (i / 8), .int (i % 8)] | d => d) (upD 0 41) fun x hx => by
    obtain ⟨i, hi, rfl⟩ := upD_mem hx
    have o8 : okM 8 = true := okM_of (by omega) (by omega)
    simp [fnV, kS, lenT, compS, isiB, okTy, blsD, Pv.isNon, -ltQ, -setL, d16_e0, o8]
  rw [← hwd] at cw
  simp only [Vk] at cw
  have o41 : okR 41 = true := by decide
  have u41 : (upD 0 41).length ≤ 16777216 := by decide
  rw [cl] at e4
  have x1 : xs.length ≤ 16777216 := by omega
  have x2 : PA.length + 1 ≤ 16777216 := by omega
  have x3 : PA.length + 1 + B.length ≤ 16777216 := by omega
  have x3' : PA.length + (B.length + 1) ≤ 16777216 := by omega
  have x4 : xs.length + Z.length ≤ 16777216 := by omega
  have x5 : C.length + E.length ≤ 16777216 := by omega
  have x6 : R.length ≤ 16777216 := by omega
  have x7 : wd.length ≤ 16777216 := by omega
  have e2' := e2
  rw [show (L.length : Int) = (xs.length : Int) by rw [lx]] at e2'
  have e3'' : evCall defs sub res (k + 3) 15 [penA p2 f, A.d (ptD q)] = .ok (.d d0) [some (penA p3 f), none] := e3
  cases hb : lotB d with
  | true =>
    refine ⟨.tup [], p3, rfl, rfl, ?_⟩
    rw [cl, evCall_succ _ _ D16]
    simp [fnV, kS, lenT, compS, isiB, okTy, blsD, Pv.isNon, -ltQ, -setL, d16, lotD, ← hxs, e1, e2', e3'', eq', eq0', ← hA, ← hB, ← hC, ← hE, ← hZ, ← hR, x1, x2, x3, x3', x4, x5, x6, x7, cw, o41, u41, ed, e4, hb]
  | false =>
    refine ⟨d, p3, hd1, hb, ?_⟩
    rw [cl, evCall_succ _ _ D16]
    simp [fnV, kS, lenT, compS, isiB, okTy, blsD, Pv.isNon, -ltQ, -setL, d16, lotD, ← hxs, e1, e2', e3'', eq', eq0', ← hA, ← hB, ← hC, ← hE, ← hZ, ← hR, x1, x2, x3, x3', x4, x5, x6, x7, cw, o41, u41, ed, e4, hb]
end Lk

namespace Lk
open PySem PySem.Spec PyProof.Rows L2 Pv
open Pv0 (no get setM)
variable {sub : Nat → Nat → Bool} {res : Nat → Option Str}
theorem sortD_pts {qs : List (Int × Int)} (nd : qs.Nodup) : sortD (qs.map ptD) = (lotOf qs).map ptD := by
  rw [sortD_map linP ptD (fun a b => ltd_pt a b), sortU linP nd (xs := qs) fun a => Iff.rfl]
  rfl
theorem okSort_pts {qs : List (Int × Int)} (h : qs.length ≤ 16777216) : okSort (qs.map ptD) = true := by
  rw [map_pts]
  exact okSort_tups (by simpa using h) fun k hk => by
    obtain ⟨p, _, rfl⟩ := List.mem_map.mp hk
    simp [fnV, kS, lenT, compS, isiB, okTy, blsD, Pv.isNon, -ltQ, -setL, ptK]
theorem lotOf_len (qs : List (Int × Int)) : (lotOf qs).length ≤ qs.length := usort_len linP qs
theorem map_ptD {tg : SemG} {f : SemE} {vs : List Nat} {ρ : Ev} (g : Int × Int → Int × Int) (L : List (Int × Int)) (h : ∀ x y : Int, stepC tg f vs (ptD (x, y)) ρ = .ok (ptD (g (x, y))) ρ) : compL tg none f vs (L.map ptD) ρ = .ok ((L.map g).map ptD) ρ := by
  rw [compL_map (fun d => match d with | .tup [.int x, .int y] => ptD (g (x, y)) | d => d) (L.map ptD) fun d hd => by
    obtain ⟨q, hq, rfl⟩ := List.mem_map.mp hd
    exact h q.1 q.2]
  congr 1
  simp [fnV, kS, lenT, compS, isiB, okTy, blsD, Pv.isNon, -ltQ, -setL, ptD]
def mv (a b : Int) (p : Int × Int) : Int × Int := (p.1 + a, p.2 + b)
theorem mv_nodup {L : List (Int × Int)} (h : L.Pairwise fun p q => ltPt p q = true) (a b : Int) : (L.map (mv a b)).Nodup := by
  refine List.pairwise_map.mpr (h.imp fun {p q} c e => ?_)
  simp [fnV, kS, lenT, compS, isiB, okTy, blsD, Pv.isNon, -ltQ, -setL, mv] at e
  simp [fnV, kS, lenT, compS, isiB, okTy, blsD, Pv.isNon, -ltQ, -setL, ltPt] at c
  omega
def trn (p : Int × Int) : Int × Int := (0 - p.2, p.1)
def mir (p : Int × Int) : Int × Int := (p.2, p.1)
theorem trn_nodup {L : List (Int × Int)} (h : L.Pairwise fun p q => ltPt p q = true) : (L.map trn).Nodup := by
  refine List.pairwise_map.mpr (h.imp fun {p q} c e => ?_)
  simp [fnV, kS, lenT, compS, isiB, okTy, blsD, Pv.isNon, -ltQ, -setL, trn] at e
  simp [fnV, kS, lenT, compS, isiB, okTy, blsD, Pv.isNon, -ltQ, -setL, ltPt] at c
  omega
theorem mir_nodup {L : List (Int × Int)} (h : L.Pairwise fun p q => ltPt p q = true) : (L.map mir).Nodup := by
  refine List.pairwise_map.mpr (h.imp fun {p q} c e => ?_)
  simp [fnV, kS, lenT, compS, isiB, okTy, blsD, Pv.isNon, -ltQ, -setL, mir] at e
  simp [fnV, kS, lenT, compS, isiB, okTy, blsD, Pv.isNon, -ltQ, -setL, ltPt] at c
  omega
theorem okTh_lot (L : List (Int × Int)) : okTh (lotD L) = true := okTh_pts L
theorem wholeB_eq {d : D} (h : wholeB d = true) : ∃ i, d = .int i := by
  cases d <;> first | (simp [fnV, kS, lenT, compS, isiB, okTy, blsD, Pv.isNon, -ltQ, -setL, wholeB] at h; done) | exact ⟨_, rfl⟩
end Lk

namespace Lk
open PySem PySem.Spec PyProof.Rows L2 Pv
open Pv0 (no get setM)
variable {sub : Nat → Nat → Bool} {res : Nat → Option Str}
/-! ### fars, plainly -/
def far (p q : Int × Int) : Int := (p.1 - q.1) * (p.1 - q.1) + (p.2 - q.2) * (p.2 - q.2)
theorem far_comm (p q : Int × Int) : far p q = far q p := by
  unfold far
  grind
def prs : List (Int × Int) → List Int
  | [] => []
  | p :: L => L.map (far p) ++ prs L
theorem prs_perm {L M : List (Int × Int)} (h : L.Perm M) : (prs L).Perm (prs M) := by
  induction h with
  | nil => exact .refl _
  | cons p h ih => exact (h.map _).append ih
  | swap p q L =>
    simp only [prs, List.map_cons, List.cons_append]
    rw [far_comm q p]
    refine List.Perm.cons _ ?_
    rw [← List.append_assoc, ← List.append_assoc]
    exact List.perm_append_comm.append_right _
  | trans _ _ a b => exact a.trans b
theorem prs_snoc (L : List (Int × Int)) (p : Int × Int) : (prs (L ++ [p])).Perm (L.map (far p) ++ prs L) := (prs_perm (L.perm_append_comm (l₂ := [p]))).trans (.refl _)
theorem prs_len : ∀ L : List (Int × Int), 2 * (prs L).length = L.length * (L.length - 1)
  | [] => rfl
  | p :: L => by
    have := prs_len L
    simp only [prs, List.length_append, List.length_map, List.length_cons]
    rw [Nat.mul_add, this]
    cases L with
    | nil => rfl
    | cons q L => simp only [List.length_cons, Nat.add_sub_cancel]; grind
theorem prs_le {L : List (Int × Int)} (h : L.length ≤ 40) : (prs L).length ≤ 780 := by
  have := prs_len L
  have h2 : L.length * (L.length - 1) ≤ 40 * 39 := Nat.mul_le_mul h (by omega)
  omega
theorem mem_prs : ∀ {L : List (Int × Int)}, L.Nodup → ∀ d, d ∈ prs L ↔ ∃ p ∈ L, ∃ q ∈ L, p ≠ q ∧ far p q = d
  | [], _, d => by simp [prs]
  | p :: L, nd, d => by
    obtain ⟨h1, h2⟩ := List.nodup_cons.mp nd
    simp only [prs, List.mem_append, List.mem_map, mem_prs h2]
    constructor
    · rintro (⟨q, hq, e⟩ | ⟨a, ha, b, hb, r⟩)
      · exact ⟨p, List.mem_cons_self .., q, List.mem_cons_of_mem _ hq, fun z => h1 (by rw [z]; exact hq), e⟩
      · exact ⟨a, List.mem_cons_of_mem _ ha, b, List.mem_cons_of_mem _ hb, r⟩
    · rintro ⟨a, ha, b, hb, ne, e⟩
      rcases List.mem_cons.mp ha with ea | ha'
      · rcases List.mem_cons.mp hb with eb | hb'
        · exact absurd (ea.trans eb.symm) ne
        · exact .inl ⟨b, hb', by rw [← ea]; exact e⟩
      · rcases List.mem_cons.mp hb with eb | hb'
        · exact .inl ⟨a, ha', by rw [← eb, far_comm]; exact e⟩
        · exact .inr ⟨a, ha', b, hb', ne, e⟩
theorem prs_map {L : List (Int × Int)} {g : Int × Int → Int × Int} (h : ∀ p q, far (g p) (g q) = far p q) : prs (L.map g) = prs L := by
  induction L with
  | nil => rfl
  | cons p L ih => simp only [List.map_cons, prs, ih, List.map_map]; congr 1; exact List.map_congr_left fun q _ => h p q
/-- the fars, rising -/
def frs (L : List (Int × Int)) : List Int := usort ltI (prs L)
/-- each far with how often -/
def tab (fs : List Int) : List (Int × Int) := (usort ltI fs).map fun d => (d, (fs.count d : Int))
theorem usort_ext {α : Type} {lt : α → α → Bool} (L : Lin lt) {xs ys : List α} (h : ∀ a, a ∈ xs ↔ a ∈ ys) : usort lt xs = usort lt ys :=
  (usort_unique L (usort_pw L ys) fun y => (mem_usort L y ys).trans (h y).symm)
theorem frs_perm {fs gs : List Int} (h : fs.Perm gs) : usort ltI fs = usort ltI gs := usort_ext linI fun a => h.mem_iff
theorem tab_perm {fs gs : List Int} (h : fs.Perm gs) : tab fs = tab gs := by
  unfold tab
  rw [frs_perm h]
  exact List.map_congr_left fun d _ => by rw [h.count_eq]
theorem nodup_ris {L : List (Int × Int)} (h : L.Pairwise fun p q => ltPt p q = true) : L.Nodup := h.imp fun {a b} h e => by rw [e, linP.ir] at h; cases h
/-- a lot is sorted and once -/
theorem lotOf_self {L : List (Int × Int)} (h : L.Pairwise fun p q => ltPt p q = true) : lotOf L = L := usort_unique linP h fun _ => Iff.rfl
theorem lotOf_ext {L M : List (Int × Int)} (h : ∀ a, a ∈ L ↔ a ∈ M) : lotOf L = lotOf M := usort_ext linP h
theorem mem_lotOf {L : List (Int × Int)} {a : Int × Int} : a ∈ lotOf L ↔ a ∈ L := mem_usort linP a L
theorem lotOf_map (f g : Int × Int → Int × Int) (L : List (Int × Int)) : lotOf ((lotOf (L.map f)).map g) = lotOf (L.map fun p => g (f p)) := lotOf_ext fun a => by
  simp only [List.mem_map, mem_lotOf]
  constructor
  · rintro ⟨b, ⟨c, hc, rfl⟩, rfl⟩; exact ⟨c, hc, rfl⟩
  · rintro ⟨c, hc, rfl⟩; exact ⟨_, ⟨c, hc, rfl⟩, rfl⟩
theorem lotOf_perm {L : List (Int × Int)} (h : L.Nodup) : (lotOf L).Perm L := by
  have nd : (lotOf L).Nodup := nodup_ris (usort_pw linP L)
  exact (List.perm_ext_iff_of_nodup nd h).mpr fun a => mem_lotOf
theorem map_nodup {L : List (Int × Int)} (h : L.Nodup) {g : Int × Int → Int × Int} (hg : ∀ p q, g p = g q → p = q) : (L.map g).Nodup := List.Pairwise.map _ (fun _ _ ne e => ne (hg _ _ e)) h
/-- fars stay where points are moved -/
theorem prs_lotOf {L : List (Int × Int)} (h : L.Nodup) {g : Int × Int → Int × Int} (hf : ∀ p q, far (g p) (g q) = far p q) (hg : ∀ p q, g p = g q → p = q) : (prs (lotOf (L.map g))).Perm (prs L) := by
  have := prs_perm (lotOf_perm (map_nodup h hg))
  rwa [prs_map hf] at this
/-! ### counting -/
/-- the table kvs counts fs -/
structure Cnt (kvs : List (Int × Int)) (fs : List Int) : Prop where
  nd : (kvs.map (·.1)).Nodup
  cnt : ∀ p ∈ kvs, p.1 ∈ fs ∧ p.2 = (fs.count p.1 : Int)
  all : ∀ d ∈ fs, d ∈ kvs.map (·.1)
def putC (kvs : List (Int × Int)) (d c : Int) : List (Int × Int) := if kvs.any fun p => decide (p.1 = d) then kvs.map fun p => if p.1 = d then (p.1, c) else p else kvs ++ [(d, c)]
def getC (kvs : List (Int × Int)) (d : Int) : Int := ((kvs.find? fun p => decide (p.1 = d)).map (·.2)).getD 0
theorem Cnt.get {kvs : List (Int × Int)} {fs : List Int} (h : Cnt kvs fs) (d : Int) : getC kvs d = (fs.count d : Int) := by
  unfold getC
  cases e : kvs.find? fun p => decide (p.1 = d) with
  | none =>
    have := List.find?_eq_none.mp e
    have : d ∉ fs := fun m => by
      obtain ⟨p, hp, rfl⟩ := List.mem_map.mp (h.all d m)
      exact this p hp (decide_eq_true rfl)
    simp [List.count_eq_zero.mpr this]
  | some p =>
    have h1 := List.mem_of_find?_eq_some e
    have h2 : p.1 = d := by simpa using List.find?_some e
    simp only [Option.map_some, Option.getD_some]
    rw [(h.cnt p h1).2, h2]
theorem Cnt.put {kvs : List (Int × Int)} {fs : List Int} (h : Cnt kvs fs) (d : Int) : Cnt (putC kvs d (getC kvs d + 1)) (d :: fs) := by
  have hg := h.get d
  unfold putC
  split
  · rename_i ha
    obtain ⟨p0, hp0, e0⟩ := List.any_eq_true.mp ha
    have e0 := of_decide_eq_true e0
    have keys : (kvs.map fun p => if p.1 = d then (p.1, getC kvs d + 1) else p).map (·.1) = kvs.map (·.1) := by
      rw [List.map_map]
      exact List.map_congr_left fun p _ => by simp only [Function.comp]; split <;> rfl
    refine ⟨by rw [keys]; exact h.nd, fun p hp => ?_, fun e he => ?_⟩
    · obtain ⟨q, hq, rfl⟩ := List.mem_map.mp hp
      obtain ⟨m, c⟩ := h.cnt q hq
      by_cases eq : q.1 = d
      · rw [if_pos eq]
        refine ⟨by rw [eq]; exact List.mem_cons_self .., ?_⟩
        simp only [eq, List.count_cons_self, hg]
        omega
      · rw [if_neg eq]
        refine ⟨List.mem_cons_of_mem _ m, ?_⟩
        rw [List.count_cons_of_ne (fun z => eq z.symm)]
        exact c
    · rw [keys]
      rcases List.mem_cons.mp he with rfl | he
      · exact List.mem_map.mpr ⟨p0, hp0, e0⟩
      · exact h.all e he
  · rename_i ha
    have hn : ∀ p ∈ kvs, p.1 ≠ d := fun p hp e => ha (List.any_eq_true.mpr ⟨p, hp, decide_eq_true e⟩)
    have hf : d ∉ fs := fun m => by
      obtain ⟨p, hp, e⟩ := List.mem_map.mp (h.all d m)
      exact hn p hp e
    refine ⟨?_, fun p hp => ?_, fun e he => ?_⟩
    · rw [List.map_append]
      refine List.nodup_append.mpr ⟨h.nd, by simp, fun a ma b hb => ?_⟩
      simp only [List.map_cons, List.map_nil, List.mem_singleton] at hb
      obtain ⟨p, hp, e⟩ := List.mem_map.mp ma
      rw [hb, ← e]
      exact hn p hp
    · rcases List.mem_append.mp hp with hp | hp
      · obtain ⟨m, c⟩ := h.cnt p hp
        refine ⟨List.mem_cons_of_mem _ m, ?_⟩
        rw [List.count_cons_of_ne (fun z => hn p hp z.symm)]
        exact c
      · rw [List.mem_singleton.mp hp]
        refine ⟨List.mem_cons_self .., ?_⟩
        simp only [List.count_cons_self, hg, List.count_eq_zero.mpr hf]
        omega
    · rw [List.map_append, List.mem_append]
      rcases List.mem_cons.mp he with rfl | he
      · exact .inr (by simp)
      · exact .inl (h.all e he)
theorem Cnt.nil : Cnt [] [] := ⟨List.nodup_nil, (by intro p h; cases h), (by intro p h; cases h)⟩
theorem Cnt.len {kvs : List (Int × Int)} {fs : List Int} (h : Cnt kvs fs) : kvs.length ≤ fs.length := by
  have := nodup_le (kvs.map (·.1)) fs h.nd fun k hk => by
    obtain ⟨p, hp, rfl⟩ := List.mem_map.mp hk
    exact (h.cnt p hp).1
  rwa [List.length_map] at this
theorem Cnt.mem {kvs : List (Int × Int)} {fs : List Int} (h : Cnt kvs fs) (d : Int) : d ∈ kvs.map (·.1) ↔ d ∈ fs := ⟨fun m => by
  obtain ⟨p, hp, rfl⟩ := List.mem_map.mp m
  exact (h.cnt p hp).1, h.all d⟩
theorem Cnt.perm {kvs : List (Int × Int)} {fs gs : List Int} (h : Cnt kvs fs) (p : fs.Perm gs) : Cnt kvs gs := ⟨h.nd, fun q hq => ⟨p.mem_iff.mp (h.cnt q hq).1, by rw [(h.cnt q hq).2, p.count_eq]⟩, fun d hd => h.all d (p.mem_iff.mpr hd)⟩
/-- as data -/
def encC (kvs : List (Int × Int)) : List (D × D) := kvs.map fun p => (.int p.1, .int p.2)
theorem zip_fs (ms : List (D × D)) : (ms.map (·.1)).zip (ms.map (·.2)) = ms := by
  induction ms with
  | nil => rfl
  | cons m ms ih => simp only [List.map_cons, List.zip_cons_cons, ih]
theorem look_enc (kvs : List (Int × Int)) (d : Int) : (lookD (encC kvs) (.inl d)).getD (.int 0) = .int (getC kvs d) := by
  unfold lookD getC encC
  rw [List.find?_map]
  have : ((fun p : D × D => decide (Pv.keyOf p.1 = some (.inl d))) ∘ fun p : Int × Int => ((D.int p.1, D.int p.2) : D × D)) = fun p => decide (p.1 = d) := by
    funext p
    simp only [Function.comp, Pv.keyOf]
    exact decide_eq_decide.mpr (by simp)
  rw [this]
  cases kvs.find? fun p => decide (p.1 = d) <;> rfl
theorem put_enc (kvs : List (Int × Int)) (d c : Int) : putD (encC kvs) (.inl d) (.int c) = encC (putC kvs d c) := by
  have e1 : ((encC kvs).any fun p => decide (Pv.keyOf p.1 = some (.inl d))) = kvs.any fun p => decide (p.1 = d) := by
    unfold encC
    rw [List.any_map]
    congr 1; funext p
    simp only [Function.comp, Pv.keyOf]
    exact decide_eq_decide.mpr (by simp)
  unfold putD putC
  rw [e1]
  split
  · unfold encC
    rw [List.map_map, List.map_map]
    refine List.map_congr_left fun p _ => ?_
    simp only [Function.comp, Pv.keyOf]
    by_cases h : p.1 = d
    · simp [h]
    · simp [h]
  · unfold encC
    rw [List.map_append]
    rfl
theorem ltT_two (a b : Int × Int) : ltT [a.1, a.2] [b.1, b.2] = ltPt a b := ltT_pt a b
theorem items_sort {kvs : List (Int × Int)} {fs : List Int} (h : Cnt kvs fs) : sortD (itemsD (encC kvs)) = (tab fs).map ptD := by
  have e : itemsD (encC kvs) = kvs.map ptD := by
    unfold itemsD encC
    rw [List.map_map]
    rfl
  have nd : kvs.Nodup := List.Pairwise.imp (fun {a b} ne e => ne (by rw [e])) (List.pairwise_map.mp h.nd)
  rw [e, sortD_pts nd]
  congr 1
  refine usort_unique linP ?_ fun p => ?_
  · refine List.Pairwise.map _ (fun a b hab => ?_) (usort_pw linI fs)
    simp only [ltI, decide_eq_true_eq] at hab
    simp only [ltPt, decide_eq_true_eq]
    exact .inl hab
  · simp only [tab, List.mem_map, mem_usort linI]
    constructor
    · rintro ⟨d, hd, rfl⟩
      obtain ⟨q, hq, e⟩ := List.mem_map.mp (h.all d hd)
      have : q = (d, (fs.count d : Int)) := Prod.ext e (by rw [(h.cnt q hq).2, e])
      rw [← this]; exact hq
    · intro hp
      exact ⟨p.1, (h.cnt p hp).1, Prod.ext rfl (h.cnt p hp).2.symm⟩
theorem items_ok {kvs : List (Int × Int)} (h : kvs.length ≤ 16777216) : okSort (itemsD (encC kvs)) = true := by
  have e : itemsD (encC kvs) = kvs.map ptD := by
    unfold itemsD encC
    rw [List.map_map]
    rfl
  rw [e]
  exact okSort_pts h
theorem keys_sort {kvs : List (Int × Int)} {fs : List Int} (h : Cnt kvs fs) : sortD ((encC kvs).map (·.1)) = (usort ltI fs).map .int := by
  have e : (encC kvs).map (·.1) = (kvs.map (·.1)).map D.int := by
    unfold encC
    rw [List.map_map, List.map_map]
    rfl
  rw [e, sortD_map linI _ (fun a b => ltd_int a b), sortU linI h.nd fun a => h.mem a]
theorem keys_ok {kvs : List (Int × Int)} (h : kvs.length ≤ 16777216) : okSort ((encC kvs).map (·.1)) = true := by
  have e : (encC kvs).map (·.1) = (kvs.map (·.1)).map D.int := by
    unfold encC
    rw [List.map_map, List.map_map]
    rfl
  rw [e]
  exact okSort_ints (by rwa [List.length_map])
theorem tab_sum (fs : List Int) : ((tab fs).map (·.2)).sum = fs.length := by
  have key : ∀ (ds : List Int), ds.Nodup → ∀ fs : List Int, (∀ f ∈ fs, f ∈ ds) → (ds.map fun d => (fs.count d : Int)).sum = fs.length := by
    intro ds nd fs
    induction fs with
    | nil =>
      intro _
      have : (ds.map fun d => (([] : List Int).count d : Int)) = ds.map fun _ => 0 := List.map_congr_left fun d _ => by simp
      rw [this]
      clear this
      induction ds with
      | nil => rfl
      | cons d ds ih => simp only [List.map_cons, List.sum_cons, Int.zero_add]; exact ih (List.nodup_cons.mp nd).2 (fun f hf => by cases hf)
    | cons f fs ih =>
      intro hm
      have ih := ih fun g hg => hm g (List.mem_cons_of_mem _ hg)
      have hf := hm f (List.mem_cons_self ..)
      have e : ∀ es : List Int, es.Nodup → (es.map fun d => ((f :: fs).count d : Int)).sum = (es.map fun d => (fs.count d : Int)).sum + if f ∈ es then 1 else 0 := by
        intro es
        induction es with
        | nil => intro _; simp
        | cons d es ih2 =>
          intro nd
          obtain ⟨n1, n2⟩ := List.nodup_cons.mp nd
          simp only [List.map_cons, List.sum_cons, ih2 n2]
          by_cases h : f = d
          · subst h
            simp only [List.count_cons_self, List.mem_cons, true_or, if_true, n1, if_false]
            omega
          · rw [List.count_cons_of_ne h]
            have : (f ∈ d :: es) ↔ f ∈ es := by simp [h]
            simp only [this]
            omega
      rw [e ds nd, ih, if_pos hf]
      simp
  unfold tab
  rw [List.map_map]
  exact key _ (usort_nodup linI fs) fs fun f hf => (mem_usort linI f fs).mpr hf
end Lk

namespace Lk
open PySem PySem.Spec PyProof.Rows L2 Pv
open Pv0 (no get setM)
variable {sub : Nat → Nat → Bool} {res : Nat → Option Str}
local macro_rules
  | `(tactic| simp_arith) => `(tactic| simp -implicitDefEqProofs only [wS_nil, wS_cons, wS_pass, wS_brk, wS_cont, wS_ret, wGive_v, wGive_s, wS_set, wS_setc, wS_drop, wS_ite, wS_for, wS_while, wS_raise, wS_asg, wS_par2, wS_par3, wS_setit, wS_try, wTo_v, wTo_s, wFrz_v, wFrz_s', wFrzs_n, wFrzs_c, wE_nm, wE_int, wE_bl, wE_non, wE_str, wE_gint, wE_tyN, wE_gcls, wE_gfn, wE_bin, wE_neg, wNeg, wE_cmp, wT_cmp, wT_cmp3, wE_cmp3, wT_and1, wE_and1, wT_or1, wE_or1, wT_and2, wT_or2, wT_not, isTr_b, wE_and2, wE_or2, wE_not, wE_ifx, wE_tup, wE_lst, wE_dnew, wE_ix, wE_dget, wT_din, wE_din, wE_sl, ioW_i, pW_n, pW_c, wE_slp, wE_prim, wE_sortSet, wE_lenSet, wE_mmd, wT_nm, wT_bl, wT_call, wT_callX, wT_prim, wT_bin, wT_ix, wA_n, wA_c, wE_call, wCall_n, wCall_0, hd_c, fnW_f, wE_callX, mmW_m, mW_v, mW_s, wE_sitems, atW_d, atomD, wE_callB, wE_meth, oT_s, wE_mut, dctW_d, wE_dget2, wE_comp, wE_lstN, oE_n, oE_c, oE1_d, oE1_l, wT_lend, lent_nil, lent_cons, Option.map_none, dataA, wE_appN, wAppNU, apW_s, nW_n, lW_l, wE_refl, loW_s, evL_s, wI_seq, sqW_l, sqW_t, sqW_s, inW_i, wI_range1, wI_range2, zpW_l, zpW_t, wI_zip, enW_l, enW_t, wI_enum, gW_nm, gW_tup, gW_lst, gsW_n, gsW_c, Wp_ok, WF_ok, WF_exc, get0, getS, nmU_d, nmU_l, nmU_m, nmU_n, fl_d, fl_l, fl_m, sl_s, vw_v, vw_s, vws_n, vws_c, wo_s, wo_if, wo_map, br_t, br_f, br_not, br_id, br_dec, nxt_n, nxt_r, nxt_b, nxt_c, lp_n, lp_c, lp_b, lp_r, exF_r, exF_n, setM_n, setM_c, Pr.sem, Mt.sem, Mt.T, Mu.sem, Mu.T, Mu.bare, binQ, addQ, subQ, mulQ, fdivQ, modQ, powQ, shlQ, bandQ, cmpQ_eq, cmpQ_ne, cmpQ_lt, cmpQ_le, cmpQ_gt, cmpQ_ge, cmpQ_is, cmpQ_isn, cmpQ_in, cmpQ_notin, ltQ_int, eqQ_int, eqQ_bl, Pv.isQ, inQ, Pv.isNon, ixQ, sliceQ, lenQ, isiQ, tyOf, okTy_int, okTy_bool, okTy_tuple, okTy_list, okTy_str, okTy_dict, isiB_lit, bA, intQ, absQ, max2Q, min2Q, tupleQ, listQ, sumQ, allQ, anyQ, sortedQ, reprQ, appendQ, extendQ, reverseQ, popQ, popAtQ, putQ, Pv.keyOf, dgetQ, dinQ, tupV, lstV, boolD, seqOf, tyOk, countQ, indexQ, kOpt, pW_s, wStep, stepQ, ne_eq, blsD_map, all_tt, blsD, intsD, Option.map_some, List.all_cons, List.all_nil, List.any_cons, List.any_nil, ixN20, ixN21, wipeE, keepJ, lenT, at0, at1, okM_lit, okR_lit, List.set_cons_zero, List.set_cons_succ, List.length_cons, List.length_nil, List.length_map, List.length_range, List.map_cons, List.map_nil, List.cons_append, List.nil_append, List.replicate_succ, List.replicate_zero, List.append_nil, List.mem_cons, List.not_mem_nil, List.contains_cons, List.contains_nil, List.isEmpty_cons, List.isEmpty_nil, Nat.reduceAdd, Nat.reduceSub, Nat.reduceLeDiff, Nat.reduceEqDiff, Nat.reduceBEq, Nat.zero_add, Nat.add_zero, Nat.reduceLT, Int.reduceLT, Int.reduceLE, Int.reduceNeg, Int.reduceAdd, Int.reduceSub, Int.reduceEq, Int.reduceNe, Int.reducePow, Int.reduceToNat, Int.reduceAbs, Int.reduceMul, Int.reduceDiv, Int.reduceMod, Nat.reduceMul, Nat.reducePow, Nat.lt_irrefl, Int.zero_add, decide_true, decide_eq_true_eq, decide_false, true_and, and_true, false_and, and_false, or_false, false_or, or_true, true_or, not_true, not_false_eq_true, ite_true, ite_false, if_true, if_false, reduceIte, eq_self, Bool.false_eq_true, Bool.true_eq_false, Bool.or_false, Bool.or_true, Bool.and_true, Bool.and_false, Bool.true_and, Bool.false_and, Bool.false_or, Bool.true_or, Bool.not_true, Bool.not_false, and_self, beq_self_eq_true, id, implies_true, reduceCtorEq, J0, J1, J2, J3, J6, J7, J8, J9, J10, J11, J12, J13, J14, J15, J16, J19, J20, J21, J22, J23, J24, J25, J26, J27, J28, J29, J30, J31, J32, J33, J34])
  | `(tactic| simp_arith [$ls,*]) => `(tactic| simp -implicitDefEqProofs only [$ls,*, wS_nil, wS_cons, wS_pass, wS_brk, wS_cont, wS_ret, wGive_v, wGive_s, wS_set, wS_setc, wS_drop, wS_ite, wS_for, wS_while, wS_raise, wS_asg, wS_par2, wS_par3, wS_setit, wS_try, wTo_v, wTo_s, wFrz_v, wFrz_s', wFrzs_n, wFrzs_c, wE_nm, wE_int, wE_bl, wE_non, wE_str, wE_gint, wE_tyN, wE_gcls, wE_gfn, wE_bin, wE_neg, wNeg, wE_cmp, wT_cmp, wT_cmp3, wE_cmp3, wT_and1, wE_and1, wT_or1, wE_or1, wT_and2, wT_or2, wT_not, isTr_b, wE_and2, wE_or2, wE_not, wE_ifx, wE_tup, wE_lst, wE_dnew, wE_ix, wE_dget, wT_din, wE_din, wE_sl, ioW_i, pW_n, pW_c, wE_slp, wE_prim, wE_sortSet, wE_lenSet, wE_mmd, wT_nm, wT_bl, wT_call, wT_callX, wT_prim, wT_bin, wT_ix, wA_n, wA_c, wE_call, wCall_n, wCall_0, hd_c, fnW_f, wE_callX, mmW_m, mW_v, mW_s, wE_sitems, atW_d, atomD, wE_callB, wE_meth, oT_s, wE_mut, dctW_d, wE_dget2, wE_comp, wE_lstN, oE_n, oE_c, oE1_d, oE1_l, wT_lend, lent_nil, lent_cons, Option.map_none, dataA, wE_appN, wAppNU, apW_s, nW_n, lW_l, wE_refl, loW_s, evL_s, wI_seq, sqW_l, sqW_t, sqW_s, inW_i, wI_range1, wI_range2, zpW_l, zpW_t, wI_zip, enW_l, enW_t, wI_enum, gW_nm, gW_tup, gW_lst, gsW_n, gsW_c, Wp_ok, WF_ok, WF_exc, get0, getS, nmU_d, nmU_l, nmU_m, nmU_n, fl_d, fl_l, fl_m, sl_s, vw_v, vw_s, vws_n, vws_c, wo_s, wo_if, wo_map, br_t, br_f, br_not, br_id, br_dec, nxt_n, nxt_r, nxt_b, nxt_c, lp_n, lp_c, lp_b, lp_r, exF_r, exF_n, setM_n, setM_c, Pr.sem, Mt.sem, Mt.T, Mu.sem, Mu.T, Mu.bare, binQ, addQ, subQ, mulQ, fdivQ, modQ, powQ, shlQ, bandQ, cmpQ_eq, cmpQ_ne, cmpQ_lt, cmpQ_le, cmpQ_gt, cmpQ_ge, cmpQ_is, cmpQ_isn, cmpQ_in, cmpQ_notin, ltQ_int, eqQ_int, eqQ_bl, Pv.isQ, inQ, Pv.isNon, ixQ, sliceQ, lenQ, isiQ, tyOf, okTy_int, okTy_bool, okTy_tuple, okTy_list, okTy_str, okTy_dict, isiB_lit, bA, intQ, absQ, max2Q, min2Q, tupleQ, listQ, sumQ, allQ, anyQ, sortedQ, reprQ, appendQ, extendQ, reverseQ, popQ, popAtQ, putQ, Pv.keyOf, dgetQ, dinQ, tupV, lstV, boolD, seqOf, tyOk, countQ, indexQ, kOpt, pW_s, wStep, stepQ, ne_eq, blsD_map, all_tt, blsD, intsD, Option.map_some, List.all_cons, List.all_nil, List.any_cons, List.any_nil, ixN20, ixN21, wipeE, keepJ, lenT, at0, at1, okM_lit, okR_lit, List.set_cons_zero, List.set_cons_succ, List.length_cons, List.length_nil, List.length_map, List.length_range, List.map_cons, List.map_nil, List.cons_append, List.nil_append, List.replicate_succ, List.replicate_zero, List.append_nil, List.mem_cons, List.not_mem_nil, List.contains_cons, List.contains_nil, List.isEmpty_cons, List.isEmpty_nil, Nat.reduceAdd, Nat.reduceSub, Nat.reduceLeDiff, Nat.reduceEqDiff, Nat.reduceBEq, Nat.zero_add, Nat.add_zero, Nat.reduceLT, Int.reduceLT, Int.reduceLE, Int.reduceNeg, Int.reduceAdd, Int.reduceSub, Int.reduceEq, Int.reduceNe, Int.reducePow, Int.reduceToNat, Int.reduceAbs, Int.reduceMul, Int.reduceDiv, Int.reduceMod, Nat.reduceMul, Nat.reducePow, Nat.lt_irrefl, Int.zero_add, decide_true, decide_eq_true_eq, decide_false, true_and, and_true, false_and, and_false, or_false, false_or, or_true, true_or, not_true, not_false_eq_true, ite_true, ite_false, if_true, if_false, reduceIte, eq_self, Bool.false_eq_true, Bool.true_eq_false, Bool.or_false, Bool.or_true, Bool.and_true, Bool.and_false, Bool.true_and, Bool.false_and, Bool.false_or, Bool.true_or, Bool.not_true, Bool.not_false, and_self, beq_self_eq_true, id, implies_true, reduceCtorEq, J0, J1, J2, J3, J6, J7, J8, J9, J10, J11, J12, J13, J14, J15, J16, J19, J20, J21, J22, J23, J24, J25, J26, J27, J28, J29, J30, J31, J32, J33, J34])
  | `(tactic| simp_arith!) => `(tactic| simp -implicitDefEqProofs only [wS_nil, wS_cons, wS_pass, wS_brk, wS_cont, wS_ret, wGive_v, wGive_s, wS_set, wS_setc, wS_drop, wS_for, wS_while, wS_raise, wS_asg, wS_par2, wS_par3, wS_setit, wS_try, wTo_v, wTo_s, wFrz_v, wFrz_s', wFrzs_n, wFrzs_c, wE_nm, wE_int, wE_bl, wE_non, wE_str, wE_gint, wE_tyN, wE_gcls, wE_gfn, wE_bin, wE_neg, wNeg, wE_cmp, wT_cmp, wT_cmp3, wE_cmp3, wT_and1, wE_and1, wT_or1, wE_or1, wT_and2, wT_or2, wT_not, isTr_b, wE_and2, wE_or2, wE_not, wE_ifx, wE_tup, wE_lst, wE_dnew, wE_ix, wE_dget, wT_din, wE_din, wE_sl, ioW_i, pW_n, pW_c, wE_slp, wE_prim, wE_sortSet, wE_lenSet, wE_mmd, wT_nm, wT_bl, wT_call, wT_callX, wT_prim, wT_bin, wT_ix, wA_n, wA_c, wE_call, wCall_n, wCall_0, hd_c, fnW_f, wE_callX, mmW_m, mW_v, mW_s, wE_sitems, atW_d, atomD, wE_callB, wE_meth, oT_s, wE_mut, dctW_d, wE_dget2, wE_comp, wE_lstN, oE_n, oE_c, oE1_d, oE1_l, wT_lend, lent_nil, lent_cons, Option.map_none, dataA, wE_appN, wAppNU, apW_s, nW_n, lW_l, wE_refl, loW_s, evL_s, wI_seq, sqW_l, sqW_t, sqW_s, inW_i, wI_range1, wI_range2, zpW_l, zpW_t, wI_zip, enW_l, enW_t, wI_enum, gW_nm, gW_tup, gW_lst, gsW_n, gsW_c, Wp_ok, WF_ok, WF_exc, get0, getS, nmU_d, nmU_l, nmU_m, nmU_n, fl_d, fl_l, fl_m, sl_s, vw_v, vw_s, vws_n, vws_c, wo_s, wo_if, wo_map, br_t, br_f, br_not, br_id, br_dec, nxt_n, nxt_r, nxt_b, nxt_c, lp_n, lp_c, lp_b, lp_r, exF_r, exF_n, setM_n, setM_c, Pr.sem, Mt.sem, Mt.T, Mu.sem, Mu.T, Mu.bare, binQ, addQ, subQ, mulQ, fdivQ, modQ, powQ, shlQ, bandQ, cmpQ_eq, cmpQ_ne, cmpQ_lt, cmpQ_le, cmpQ_gt, cmpQ_ge, cmpQ_is, cmpQ_isn, cmpQ_in, cmpQ_notin, ltQ_int, eqQ_int, eqQ_bl, Pv.isQ, inQ, Pv.isNon, ixQ, sliceQ, lenQ, isiQ, tyOf, okTy_int, okTy_bool, okTy_tuple, okTy_list, okTy_str, okTy_dict, isiB_lit, bA, intQ, absQ, max2Q, min2Q, tupleQ, listQ, sumQ, allQ, anyQ, sortedQ, reprQ, appendQ, extendQ, reverseQ, popQ, popAtQ, putQ, Pv.keyOf, dgetQ, dinQ, tupV, lstV, boolD, seqOf, tyOk, countQ, indexQ, kOpt, pW_s, wStep, stepQ, ne_eq, blsD_map, all_tt, blsD, intsD, Option.map_some, List.all_cons, List.all_nil, List.any_cons, List.any_nil, ixN20, ixN21, wipeE, keepJ, lenT, at0, at1, okM_lit, okR_lit, List.set_cons_zero, List.set_cons_succ, List.length_cons, List.length_nil, List.length_map, List.length_range, List.map_cons, List.map_nil, List.cons_append, List.nil_append, List.replicate_succ, List.replicate_zero, List.append_nil, List.mem_cons, List.not_mem_nil, List.contains_cons, List.contains_nil, List.isEmpty_cons, List.isEmpty_nil, Nat.reduceAdd, Nat.reduceSub, Nat.reduceLeDiff, Nat.reduceEqDiff, Nat.reduceBEq, Nat.zero_add, Nat.add_zero, Nat.reduceLT, Int.reduceLT, Int.reduceLE, Int.reduceNeg, Int.reduceAdd, Int.reduceSub, Int.reduceEq, Int.reduceNe, Int.reducePow, Int.reduceToNat, Int.reduceAbs, Int.reduceMul, Int.reduceDiv, Int.reduceMod, Nat.reduceMul, Nat.reducePow, Nat.lt_irrefl, Int.zero_add, decide_true, decide_eq_true_eq, decide_false, true_and, and_true, false_and, and_false, or_false, false_or, or_true, true_or, not_true, not_false_eq_true, ite_true, ite_false, if_true, if_false, reduceIte, eq_self, Bool.false_eq_true, Bool.true_eq_false, Bool.or_false, Bool.or_true, Bool.and_true, Bool.and_false, Bool.true_and, Bool.false_and, Bool.false_or, Bool.true_or, Bool.not_true, Bool.not_false, and_self, beq_self_eq_true, id, implies_true, reduceCtorEq, J0, J1, J2, J3, J6, J7, J8, J9, J10, J11, J12, J13, J14, J15, J16, J19, J20, J21, J22, J23, J24, J25, J26, J27, J28, J29, J30, J31, J32, J33, J34])
  | `(tactic| simp_arith! [$ls,*]) => `(tactic| simp -implicitDefEqProofs only [$ls,*, wS_nil, wS_cons, wS_pass, wS_brk, wS_cont, wS_ret, wGive_v, wGive_s, wS_set, wS_setc, wS_drop, wS_for, wS_while, wS_raise, wS_asg, wS_par2, wS_par3, wS_setit, wS_try, wTo_v, wTo_s, wFrz_v, wFrz_s', wFrzs_n, wFrzs_c, wE_nm, wE_int, wE_bl, wE_non, wE_str, wE_gint, wE_tyN, wE_gcls, wE_gfn, wE_bin, wE_neg, wNeg, wE_cmp, wT_cmp, wT_cmp3, wE_cmp3, wT_and1, wE_and1, wT_or1, wE_or1, wT_and2, wT_or2, wT_not, isTr_b, wE_and2, wE_or2, wE_not, wE_ifx, wE_tup, wE_lst, wE_dnew, wE_ix, wE_dget, wT_din, wE_din, wE_sl, ioW_i, pW_n, pW_c, wE_slp, wE_prim, wE_sortSet, wE_lenSet, wE_mmd, wT_nm, wT_bl, wT_call, wT_callX, wT_prim, wT_bin, wT_ix, wA_n, wA_c, wE_call, wCall_n, wCall_0, hd_c, fnW_f, wE_callX, mmW_m, mW_v, mW_s, wE_sitems, atW_d, atomD, wE_callB, wE_meth, oT_s, wE_mut, dctW_d, wE_dget2, wE_comp, wE_lstN, oE_n, oE_c, oE1_d, oE1_l, wT_lend, lent_nil, lent_cons, Option.map_none, dataA, wE_appN, wAppNU, apW_s, nW_n, lW_l, wE_refl, loW_s, evL_s, wI_seq, sqW_l, sqW_t, sqW_s, inW_i, wI_range1, wI_range2, zpW_l, zpW_t, wI_zip, enW_l, enW_t, wI_enum, gW_nm, gW_tup, gW_lst, gsW_n, gsW_c, Wp_ok, WF_ok, WF_exc, get0, getS, nmU_d, nmU_l, nmU_m, nmU_n, fl_d, fl_l, fl_m, sl_s, vw_v, vw_s, vws_n, vws_c, wo_s, wo_if, wo_map, br_t, br_f, br_not, br_id, br_dec, nxt_n, nxt_r, nxt_b, nxt_c, lp_n, lp_c, lp_b, lp_r, exF_r, exF_n, setM_n, setM_c, Pr.sem, Mt.sem, Mt.T, Mu.sem, Mu.T, Mu.bare, binQ, addQ, subQ, mulQ, fdivQ, modQ, powQ, shlQ, bandQ, cmpQ_eq, cmpQ_ne, cmpQ_lt, cmpQ_le, cmpQ_gt, cmpQ_ge, cmpQ_is, cmpQ_isn, cmpQ_in, cmpQ_notin, ltQ_int, eqQ_int, eqQ_bl, Pv.isQ, inQ, Pv.isNon, ixQ, sliceQ, lenQ, isiQ, tyOf, okTy_int, okTy_bool, okTy_tuple, okTy_list, okTy_str, okTy_dict, isiB_lit, bA, intQ, absQ, max2Q, min2Q, tupleQ, listQ, sumQ, allQ, anyQ, sortedQ, reprQ, appendQ, extendQ, reverseQ, popQ, popAtQ, putQ, Pv.keyOf, dgetQ, dinQ, tupV, lstV, boolD, seqOf, tyOk, countQ, indexQ, kOpt, pW_s, wStep, stepQ, ne_eq, blsD_map, all_tt, blsD, intsD, Option.map_some, List.all_cons, List.all_nil, List.any_cons, List.any_nil, ixN20, ixN21, wipeE, keepJ, lenT, at0, at1, okM_lit, okR_lit, List.set_cons_zero, List.set_cons_succ, List.length_cons, List.length_nil, List.length_map, List.length_range, List.map_cons, List.map_nil, List.cons_append, List.nil_append, List.replicate_succ, List.replicate_zero, List.append_nil, List.mem_cons, List.not_mem_nil, List.contains_cons, List.contains_nil, List.isEmpty_cons, List.isEmpty_nil, Nat.reduceAdd, Nat.reduceSub, Nat.reduceLeDiff, Nat.reduceEqDiff, Nat.reduceBEq, Nat.zero_add, Nat.add_zero, Nat.reduceLT, Int.reduceLT, Int.reduceLE, Int.reduceNeg, Int.reduceAdd, Int.reduceSub, Int.reduceEq, Int.reduceNe, Int.reducePow, Int.reduceToNat, Int.reduceAbs, Int.reduceMul, Int.reduceDiv, Int.reduceMod, Nat.reduceMul, Nat.reducePow, Nat.lt_irrefl, Int.zero_add, decide_true, decide_eq_true_eq, decide_false, true_and, and_true, false_and, and_false, or_false, false_or, or_true, true_or, not_true, not_false_eq_true, ite_true, ite_false, if_true, if_false, reduceIte, eq_self, Bool.false_eq_true, Bool.true_eq_false, Bool.or_false, Bool.or_true, Bool.and_true, Bool.and_false, Bool.true_and, Bool.false_and, Bool.false_or, Bool.true_or, Bool.not_true, Bool.not_false, and_self, beq_self_eq_true, id, implies_true, reduceCtorEq, J0, J1, J2, J3, J6, J7, J8, J9, J10, J11, J12, J13, J14, J15, J16, J19, J20, J21, J22, J23, J24, J25, J26, J27, J28, J29, J30, J31, J32, J33, J34])

def enF {α : Type} : Nat → List α → List (Nat × α)
  | _, [] => []
  | n, a :: r => (n, a) :: enF (n + 1) r
theorem enumD_gen {α : Type} (enc : α → D) : ∀ (L : List α) (n : Nat), (List.range' n L.length).zipWith (fun i d => D.tup [.int (i : Nat), d]) (L.map enc) = (enF n L).map fun x => D.tup [.int x.1, enc x.2]
  | [], n => by simp [enF]
  | a :: L, n => by
    simp only [List.length_cons, List.range'_succ, List.map_cons, List.zipWith_cons_cons, enF]
    rw [enumD_gen enc L (n + 1)]
theorem enumD_map {α : Type} (enc : α → D) (L : List α) : enumD (L.map enc) = (enF 0 L).map fun x => D.tup [.int x.1, enc x.2] := by
  have := enumD_gen enc L 0
  unfold enumD
  rw [List.length_map, List.range_eq_range']
  exact this
theorem enF_len {α : Type} : ∀ (L : List α) (n : Nat), (enF n L).length = L.length
  | [], _ => rfl
  | a :: L, n => by simp only [enF, List.length_cons, enF_len L]
section
variable {Q : A → List (Option A) → Prop} {E : X1 → List (Option A) → Prop}
abbrev bdP (p : Int × Int) : Prop := -1000 ≤ p.1 ∧ p.1 ≤ 1000 ∧ -1000 ≤ p.2 ∧ p.2 ≤ 1000
theorem far_by_wf (k : Nat) {p q : Int × Int} (hp : bdP p) (hq : bdP q) (h : Q (.d (.int (far p q))) [none, none]) : WF (evCall defs sub res (k+1) 21 [.d (ptD p), .d (ptD q)]) Q E := by
  refine WF_call D21 rfl ?_
  delta d21
  have o1 : okM (p.1 - q.1) = true := okM_of (by omega) (by omega)
  have o2 : okM (p.2 - q.2) = true := okM_of (by omega) (by omega)
  simp_arith [ptD, o1, o2]
  exact h
theorem lot_nd {L : List (Int × Int)} (h : LotOk L) : L.Nodup := nodup_ris h.ris
set_option maxHeartbeats 1000000 in
theorem counts_in_wf (k : Nat) {L : List (Int × Int)} (hb : ∀ p ∈ L, bdP p) (hl : L.length ≤ 40) (h : ∀ kvs, Cnt kvs (prs L) → Q (.m (encC kvs)) [none]) : WF (evCall defs sub res (k+2) 23 [.d (lotD L)]) Q E := by
  refine WF_call D23 rfl ?_
  delta d23 d23_l0 d23_b0 d23_l1 d23_b1
  simp_arith [lotD]
  rw [enumD_map]
  refine wp_for (fun x : Nat × (Int × Int) => D.tup [.int x.1, ptD x.2]) [1,2,3,4,5] (fun rest vs => ∃ pre suf kvs a b c d, L = pre ++ suf ∧ rest = enF pre.length suf ∧ Cnt kvs (prs pre) ∧ vs = [some (.m (encC kvs)), a, b, c, d]) _ _ ⟨[], L, [], _, _, _, _, rfl, rfl, Cnt.nil, rfl⟩ (fun x rest vs hI => ?_) (fun vs hI => ?_)
  · obtain ⟨pre, suf, kvs, a, b, c, d, e1, e2, hc, rfl⟩ := hI
    cases suf with
    | nil => cases e2
    | cons one suf =>
      cases e2
      have hcut : cut (L.map ptD) none (some (pre.length : Int)) = pre.map ptD := by
        rw [cut_take, ← List.map_take, e1, List.take_left]
      have hlp : pre.length ≤ 40 := by rw [e1] at hl; simp at hl; omega
      have hlq := prs_le hlp
      have bo : bdP one := hb one (by rw [e1]; simp)
      simp_arith [hcut]
      refine wp_for ptD [1,4,5] (fun rest vs => ∃ don kvs b c, pre = don ++ rest ∧ Cnt kvs (don.map (far one) ++ prs pre) ∧ vs = [some (.m (encC kvs)), b, c]) _ _ ⟨[], kvs, _, _, rfl, hc, rfl⟩ (fun other rest vs hI => ?_) (fun vs hI => ?_)
      · obtain ⟨don, kvs, b, c, e2, hc, rfl⟩ := hI
        have bq : bdP other := hb other (by rw [e1, e2]; simp)
        have hcl := hc.len
        have hdl : don.length ≤ 40 := by rw [e2] at hlp; simp at hlp; omega
        simp only [List.length_append, List.length_map] at hcl
        simp_arith
        refine far_by_wf _ bo bq ?_
        simp_arith [zip_fs, look_enc, put_enc]
        refine ⟨by simp only [encC, List.length_map]; omega, _, rfl, don ++ [other], _, _, _, ?_, ?_, rfl⟩
        · rw [e2]; simp
        · refine (hc.put (far one other)).perm ?_
          simp only [List.map_append, List.map_cons, List.map_nil, List.append_assoc, List.cons_append, List.nil_append]
          exact List.perm_middle.symm
      · obtain ⟨don, kvs, b, c, e2, hc, rfl⟩ := hI
        rw [List.append_nil] at e2
        subst e2
        simp_arith
        refine ⟨_, rfl, pre ++ [one], suf, kvs, _, _, _, _, ?_, ?_, hc.perm (prs_snoc pre one).symm, rfl⟩
        · rw [e1]; simp
        · simp
  · obtain ⟨pre, suf, kvs, a, b, c, d, e1, e2, hc, rfl⟩ := hI
    cases suf with
    | cons one suf => cases e2
    | nil =>
      rw [List.append_nil] at e1
      subst e1
      simp_arith
      exact h kvs hc
theorem fars_in_wf (k : Nat) {L : List (Int × Int)} (hb : ∀ p ∈ L, bdP p) (hl : L.length ≤ 40) (h : Q (.l ((frs L).map .int)) [none]) : WF (evCall defs sub res (k+3) 24 [.d (lotD L)]) Q E := by
  refine WF_call D24 rfl ?_
  delta d24
  simp_arith
  refine counts_in_wf k hb hl fun kvs hc => ?_
  have hq := prs_le hl
  have hcl := hc.len
  simp_arith [keys_ok (kvs := kvs) (by omega), keys_sort hc]
  exact h
theorem table_in_wf (k : Nat) {L : List (Int × Int)} (hb : ∀ p ∈ L, bdP p) (hl : L.length ≤ 40) (h : Q (.l ((tab (prs L)).map ptD)) [none]) : WF (evCall defs sub res (k+3) 26 [.d (lotD L)]) Q E := by
  refine WF_call D26 rfl ?_
  delta d26
  simp_arith
  refine counts_in_wf k hb hl fun kvs hc => ?_
  have hq := prs_le hl
  have hcl := hc.len
  simp_arith [items_ok (kvs := kvs) (by omega), items_sort hc]
  exact h
theorem must_lot_wf (k : Nat) {L : List (Int × Int)} (hL : LotOk L) (h : Q (.d .non) [none]) : WF (evCall defs sub res (k+5) 20 [.d (lotD L)]) Q E := by
  have e := must_lot_ok (sub := sub) (res := res) k (lotD L) (okTh_lot L)
  rw [if_pos (lotB_ok hL)] at e
  rw [cl] at e
  rw [e, WF_ok]
  exact h
theorem must_lot_no (k : Nat) {d : D} (h1 : okTh d = true) (h2 : lotB d = false) (h : E ⟨2, []⟩ [none]) : WF (evCall defs sub res (k+5) 20 [.d d]) Q E := by
  have e := must_lot_ok (sub := sub) (res := res) k d h1
  rw [if_neg (by rw [h2]; exact Bool.false_ne_true), cl] at e
  rw [e, WF_exc]
  exact h
theorem must_point_wf (k : Nat) {p : Int × Int} (hp : bdP p) (h : Q (.d .non) [none]) : WF (evCall defs sub res (k+4) 19 [.d (ptD p)]) Q E := by
  have e := must_point_ok (sub := sub) (res := res) k (ptD p) rfl
  rw [if_pos (ptB_pt hp), cl] at e
  rw [e, WF_ok]
  exact h
theorem must_point_no (k : Nat) {d : D} (h1 : okTh d = true) (h2 : ptB d = false) (h : E ⟨1, []⟩ [none]) : WF (evCall defs sub res (k+4) 19 [.d d]) Q E := by
  have e := must_point_ok (sub := sub) (res := res) k d h1
  rw [if_neg (by rw [h2]; exact Bool.false_ne_true), cl] at e
  rw [e, WF_exc]
  exact h
theorem fars_wf (k : Nat) {L : List (Int × Int)} (hL : LotOk L) (h : Q (.l ((frs L).map .int)) [none]) : WF (evCall defs sub res (k+6) 25 [.d (lotD L)]) Q E := by
  refine WF_call D25 rfl ?_
  delta d25
  simp_arith
  refine must_lot_wf k hL ?_
  simp_arith
  refine fars_in_wf (k+2) hL.bd hL.len ?_
  simp_arith
  exact h
theorem far_table_wf (k : Nat) {L : List (Int × Int)} (hL : LotOk L) (h : Q (.l ((tab (prs L)).map ptD)) [none]) : WF (evCall defs sub res (k+6) 27 [.d (lotD L)]) Q E := by
  refine WF_call D27 rfl ?_
  delta d27
  simp_arith
  refine must_lot_wf k hL ?_
  simp_arith
  refine table_in_wf (k+2) hL.bd hL.len ?_
  simp_arith
  exact h
theorem far_of_wf (k : Nat) {p q : Int × Int} (hp : bdP p) (hq : bdP q) (h : Q (.d (.int (far p q))) [none, none]) : WF (evCall defs sub res (k+5) 22 [.d (ptD p), .d (ptD q)]) Q E := by
  refine WF_call D22 rfl ?_
  delta d22
  simp_arith
  refine must_point_wf k hp ?_
  simp_arith
  refine must_point_wf k hq ?_
  simp_arith
  refine far_by_wf (k+3) hp hq ?_
  simp_arith
  exact h
end
end Lk

namespace Lk
open PySem PySem.Spec PyProof.Rows L2 Pv
open Pv0 (no get setM)
variable {sub : Nat → Nat → Bool} {res : Nat → Option Str}
def goodMv (L : List (Int × Int)) (a b : Int) : Bool := ((L.map (mv a b)).map ptD).all ptB
def dueMv (L : List (Int × Int)) (a b : Int) : D := if goodMv L a b = true then lotD (lotOf (L.map (mv a b))) else .str "point"
theorem lotB_lotOf {qs : List (Int × Int)} (hn : qs ≠ []) (h : qs.length ≤ 40) : lotB (lotD (lotOf qs)) = (qs.map ptD).all ptB := by
  have r : risB ((lotOf qs).map ptD) = true := ris_pw (usort_pw linP qs)
  have l1 : 1 ≤ (lotOf qs).length := by
    cases qs with
    | nil => exact absurd rfl hn
    | cons q qs =>
      refine List.length_pos_iff.mpr fun e => ?_
      have := (mem_usort linP q (q :: qs)).mpr (List.mem_cons_self ..)
      unfold lotOf at e
      rw [e] at this
      cases this
  have l2 : (lotOf qs).length ≤ 40 := Nat.le_trans (lotOf_len qs) h
  have m : ((lotOf qs).map ptD).all ptB = (qs.map ptD).all ptB := by
    rw [Bool.eq_iff_iff]
    simp only [List.all_map, List.all_eq_true]
    exact ⟨fun h x hx => h x ((mem_usort linP x qs).mpr hx), fun h x hx => h x ((mem_usort linP x qs).mp hx)⟩
  simp only [lotB, lotD, List.length_map, r, m, Bool.and_true]
  rw [decide_eq_true (⟨l1, l2⟩ : 1 ≤ (lotOf qs).length ∧ (lotOf qs).length ≤ 40), Bool.true_and]
end Lk

namespace Lk
open PySem PySem.Spec PyProof.Rows L2 Pv
open Pv0 (no get setM)
variable {sub : Nat → Nat → Bool} {res : Nat → Option Str}
theorem okMM_ints (is : List Int) : okMM (is.map .int) = true := by
  have h1 := cans_ints is
  have h2 := deps_ints' is
  simp only [okMM, h1, h2, Bool.and_eq_true, decide_eq_true_eq, List.all_eq_true]
  refine ⟨⟨⟨trivial, by omega⟩, fun x hx y hy => ?_⟩, fun x hx => ?_⟩
  · obtain ⟨i, _, rfl⟩ := List.mem_map.mp hx
    obtain ⟨j, _, rfl⟩ := List.mem_map.mp hy
    simp [fnV, kS, lenT, compS, isiB, okTy, blsD, Pv.isNon, -ltQ, -setL, py, PySem.W.alike]
  · obtain ⟨i, _, rfl⟩ := List.mem_map.mp hx
    rfl
theorem mmL_int (mx : Bool) : ∀ (is : List Int) (i : Int), ∃ M : Int, mmL mx (.int i) (is.map .int) = .int M := by
  intro is
  induction is with
  | nil => intro i; exact ⟨i, by cases mx <;> rfl⟩
  | cons j is ih =>
    intro i
    cases mx with
    | true =>
      by_cases h : ltd (.int i) (.int j) = true
      · obtain ⟨M, e⟩ := ih j
        refine ⟨M, ?_⟩
        rw [← e]
        simp [fnV, kS, lenT, compS, isiB, okTy, blsD, Pv.isNon, -ltQ, -setL, mmL, maxL, h]
      · obtain ⟨M, e⟩ := ih i
        refine ⟨M, ?_⟩
        rw [← e]
        simp [fnV, kS, lenT, compS, isiB, okTy, blsD, Pv.isNon, -ltQ, -setL, mmL, maxL, h]
    | false =>
      by_cases h : ltd (.int j) (.int i) = true
      · obtain ⟨M, e⟩ := ih j
        refine ⟨M, ?_⟩
        rw [← e]
        simp [fnV, kS, lenT, compS, isiB, okTy, blsD, Pv.isNon, -ltQ, -setL, mmL, minL, h]
      · obtain ⟨M, e⟩ := ih i
        refine ⟨M, ?_⟩
        rw [← e]
        simp [fnV, kS, lenT, compS, isiB, okTy, blsD, Pv.isNon, -ltQ, -setL, mmL, minL, h]
theorem mmQ_ints (mx : Bool) {is : List Int} (hn : is ≠ []) : ∃ M : Int, mmQ mx [.lst (is.map .int)] = some (.d (.int M)) := by
  cases is with
  | nil => exact absurd rfl hn
  | cons i is =>
    obtain ⟨M, e⟩ := mmL_int mx is i
    have h := okMM_ints (i :: is)
    rw [List.map_cons] at h
    exact ⟨M, by simp only [mmQ, seqOf, List.map_cons, h, if_true, e]⟩
theorem okP_pts : ∀ {L : List (Int × Int)}, (∀ p ∈ L, -1000 ≤ p.1 ∧ p.1 ≤ 1000 ∧ -1000 ≤ p.2 ∧ p.2 ≤ 1000) → okPs (L.map ptD) = true
  | [], _ => rfl
  | p :: L, h => by
    have hp := h p (List.mem_cons_self ..)
    simp only [List.map_cons, okPs, okP_pts fun q hq => h q (List.mem_cons_of_mem _ hq), ptD, okP, Bool.and_true, Bool.and_eq_true, decide_eq_true_eq]
    omega
theorem wgts_pts : ∀ L : List (Int × Int), wgts (L.map ptD) = 243 * L.length
  | [] => rfl
  | p :: L => by
    simp only [List.map_cons, wgts, wgts_pts L, ptD, wgt, List.length_cons]
    omega
theorem okRep_lot {L : List (Int × Int)} (hL : LotOk L) : okRep (lotD L) = true := by
  have h1 := okP_pts hL.bd
  have h2 := wgts_pts L
  have h3 : cans (L.map ptD) = true := by rw [map_pts]; exact cans_tups _
  have h4 : deps (L.map ptD) ≤ 1 := by rw [map_pts]; exact deps_tups _
  have := hL.len
  simp only [okRep, lotD, okP, can, wgt, dep, h1, h2, h3, Bool.true_or, Bool.and_true, Bool.true_and, Bool.and_eq_true, decide_eq_true_eq]
  omega
theorem lots3 : eqQ (!·) (.lst [.str "lot", .str "lot", .str "lot"]) (.lst [.str "lot", .str "lot", .str "lot"]) = some false := by decide +kernel
theorem nums3 : eqQ (!·) (.lst [.str "number", .str "number", .str "number"]) (.lst [.str "number", .str "number", .str "number"]) = some false := by decide +kernel
theorem plns_pts : ∀ L : List (Int × Int), plns (L.map ptD) = true
  | [] => rfl
  | p :: L => by
    simp only [List.map_cons, plns, plns_pts L, Bool.and_true]
    rfl
theorem pln_lot {L : List (Int × Int)} (h : L.length ≤ 16777216) : pln (lotD L) = true := by
  simp only [lotD, pln, plns_pts, Bool.true_and, decide_eq_true_eq, List.length_map]
  exact h
theorem dep_lot (L : List (Int × Int)) : dep (lotD L) ≤ 2 := by
  have h4 : deps (L.map ptD) ≤ 1 := by rw [map_pts]; exact deps_tups _
  simp only [lotD, dep]
  omega
theorem pln_due {L : List (Int × Int)} (hL : LotOk L) (a b : Int) : pln (dueMv L a b) = true := by
  unfold dueMv
  split
  · exact pln_lot (by have := lotOf_len (L.map (mv a b)); have := hL.len; simp at *; omega)
  · decide +kernel
theorem dep_due (L : List (Int × Int)) (a b : Int) : dep (dueMv L a b) ≤ 2 := by
  unfold dueMv
  split
  · exact dep_lot _
  · decide +kernel
end Lk

namespace Lk
open PySem PySem.Spec PyProof.Rows L2 Pv
open Pv0 (no get setM)
variable {sub : Nat → Nat → Bool} {res : Nat → Option Str}
theorem so_app (x y : Str) : PyData.strOk (x ++ y) = (PyData.strOk x && PyData.strOk y) := by
  show (x.cps ++ y.cps).all _ = _
  rw [Array.all_append]
  rfl
theorem so_of (s : String) : PyData.strOk (Str.ofString s) = true := by
  unfold PyData.strOk
  rw [← Array.all_toList, signs_ofString, List.all_map, List.all_eq_true]
  intro c _
  have := c.valid
  simp only [Function.comp, decide_eq_true_eq, Char.toNat]
  rcases this with h | h
  · exact Nat.lt_trans h (by decide)
  · exact h.2
theorem so_join : ∀ ts : List Str, (∀ t ∈ ts, PyData.strOk t = true) → PyData.strOk (Str.join ", " ts) = true
  | [], _ => by decide +kernel
  | [x], h => h x (List.mem_cons_self ..)
  | x :: y :: r, h => by
    have ih := so_join (y :: r) fun t ht => h t (List.mem_cons_of_mem _ ht)
    show PyData.strOk (x ++ ", " ++ Str.join ", " (y :: r)) = true
    rw [so_app, so_app, h x (List.mem_cons_self ..), ih, so_of]
    rfl
theorem so_tuple {ts : List Str} (h : ∀ t ∈ ts, PyData.strOk t = true) : PyData.strOk (tupleText ts) = true := by
  unfold tupleText
  rw [so_app, so_app, so_join ts h]
  have e1 := so_of "("
  have e2 : PyData.strOk (Str.ofString (if (ts.length == 1) = true then ",)" else ")")) = true := so_of _
  simp only [e1, Bool.true_and]
  exact e2
theorem so_lot (L : List (Int × Int)) : PyData.strOk (reprD (lotD L)) = true := by
  have hc : can (lotD L) = true := by
    have : cans (L.map ptD) = true := by rw [map_pts]; exact cans_tups _
    exact this
  unfold reprD
  rw [pyR_of _ hc]
  simp only [lotD, py, PyData.shown]
  refine so_tuple fun t ht => ?_
  have : ∀ (M : List (Int × Int)) (t : Str), t ∈ PyData.shownAll (pys (M.map ptD)) → PyData.strOk t = true := by
    intro M
    induction M with
    | nil => intro t h; simp [fnV, kS, lenT, compS, isiB, okTy, blsD, Pv.isNon, -ltQ, -setL, pys, PyData.shownAll] at h
    | cons p M ih =>
      intro t h
      simp only [List.map_cons, pys, PyData.shownAll] at h
      rcases List.mem_cons.mp h with rfl | h
      · simp only [ptD, py, pys, PyData.shown, PyData.shownAll]
        refine so_tuple fun t ht => ?_
        rcases List.mem_cons.mp ht with rfl | ht
        · exact so_of _
        · rcases List.mem_cons.mp ht with rfl | ht
          · exact so_of _
          · cases ht
      · exact ih t h
  exact this L t ht
theorem repr_self (L : List (Int × Int)) : eqQ (!·) (.str (reprD (lotD L))) (.str (reprD (lotD L))) = some false := by
  rw [eqQ_str _ _ _ (so_lot L) (so_lot L)]
  simp
end Lk

namespace Lk
open PySem PySem.Spec PyProof.Rows L2 Pv
open Pv0 (no get setM)
variable {sub : Nat → Nat → Bool} {res : Nat → Option Str}
local macro_rules
  | `(tactic| simp_arith) => `(tactic| simp -implicitDefEqProofs only [wS_nil, wS_cons, wS_pass, wS_brk, wS_cont, wS_ret, wGive_v, wGive_s, wS_set, wS_setc, wS_drop, wS_ite, wS_for, wS_while, wS_raise, wS_asg, wS_par2, wS_par3, wS_setit, wS_try, wTo_v, wTo_s, wFrz_v, wFrz_s', wFrzs_n, wFrzs_c, wE_nm, wE_int, wE_bl, wE_non, wE_str, wE_gint, wE_tyN, wE_gcls, wE_gfn, wE_bin, wE_neg, wNeg, wE_cmp, wT_cmp, wT_cmp3, wE_cmp3, wT_and1, wE_and1, wT_or1, wE_or1, wT_and2, wT_or2, wT_not, isTr_b, wE_and2, wE_or2, wE_not, wE_ifx, wE_tup, wE_lst, wE_dnew, wE_ix, wE_dget, wT_din, wE_din, wE_sl, ioW_i, pW_n, pW_c, wE_slp, wE_prim, wE_sortSet, wE_lenSet, wE_mmd, wT_nm, wT_bl, wT_call, wT_callX, wT_prim, wT_bin, wT_ix, wA_n, wA_c, wE_call, wCall_n, wCall_0, hd_c, fnW_f, wE_callX, mmW_m, mW_v, mW_s, wE_sitems, atW_d, atomD, wE_callB, wE_meth, oT_s, wE_mut, dctW_d, wE_dget2, wE_comp, wE_lstN, oE_n, oE_c, oE1_d, oE1_l, wT_lend, lent_nil, lent_cons, Option.map_none, dataA, wE_appN, wAppNU, apW_s, nW_n, lW_l, wE_refl, loW_s, evL_s, wI_seq, sqW_l, sqW_t, sqW_s, inW_i, wI_range1, wI_range2, zpW_l, zpW_t, wI_zip, enW_l, enW_t, wI_enum, gW_nm, gW_tup, gW_lst, gsW_n, gsW_c, Wp_ok, WF_ok, WF_exc, get0, getS, nmU_d, nmU_l, nmU_m, nmU_n, fl_d, fl_l, fl_m, sl_s, vw_v, vw_s, vws_n, vws_c, wo_s, wo_if, wo_map, br_t, br_f, br_not, br_id, br_dec, nxt_n, nxt_r, nxt_b, nxt_c, lp_n, lp_c, lp_b, lp_r, exF_r, exF_n, setM_n, setM_c, Pr.sem, Mt.sem, Mt.T, Mu.sem, Mu.T, Mu.bare, binQ, addQ, subQ, mulQ, fdivQ, modQ, powQ, shlQ, bandQ, cmpQ_eq, cmpQ_ne, cmpQ_lt, cmpQ_le, cmpQ_gt, cmpQ_ge, cmpQ_is, cmpQ_isn, cmpQ_in, cmpQ_notin, ltQ_int, eqQ_int, eqQ_bl, Pv.isQ, inQ, Pv.isNon, ixQ, sliceQ, lenQ, isiQ, tyOf, okTy_int, okTy_bool, okTy_tuple, okTy_list, okTy_str, okTy_dict, isiB_lit, bA, intQ, absQ, max2Q, min2Q, tupleQ, listQ, sumQ, allQ, anyQ, sortedQ, reprQ, appendQ, extendQ, reverseQ, popQ, popAtQ, putQ, Pv.keyOf, dgetQ, dinQ, tupV, lstV, boolD, seqOf, tyOk, countQ, indexQ, kOpt, pW_s, wStep, stepQ, ne_eq, blsD_map, all_tt, blsD, intsD, Option.map_some, List.all_cons, List.all_nil, List.any_cons, List.any_nil, ixN20, ixN21, wipeE, keepJ, lenT, at0, at1, okM_lit, okR_lit, List.set_cons_zero, List.set_cons_succ, List.length_cons, List.length_nil, List.length_map, List.length_range, List.map_cons, List.map_nil, List.cons_append, List.nil_append, List.replicate_succ, List.replicate_zero, List.append_nil, List.mem_cons, List.not_mem_nil, List.contains_cons, List.contains_nil, List.isEmpty_cons, List.isEmpty_nil, Nat.reduceAdd, Nat.reduceSub, Nat.reduceLeDiff, Nat.reduceEqDiff, Nat.reduceBEq, Nat.zero_add, Nat.add_zero, Nat.reduceLT, Int.reduceLT, Int.reduceLE, Int.reduceNeg, Int.reduceAdd, Int.reduceSub, Int.reduceEq, Int.reduceNe, Int.reducePow, Int.reduceToNat, Int.reduceAbs, Int.reduceMul, Int.reduceDiv, Int.reduceMod, Nat.reduceMul, Nat.reducePow, Nat.lt_irrefl, Int.zero_add, decide_true, decide_eq_true_eq, decide_false, true_and, and_true, false_and, and_false, or_false, false_or, or_true, true_or, not_true, not_false_eq_true, ite_true, ite_false, if_true, if_false, reduceIte, eq_self, Bool.false_eq_true, Bool.true_eq_false, Bool.or_false, Bool.or_true, Bool.and_true, Bool.and_false, Bool.true_and, Bool.false_and, Bool.false_or, Bool.true_or, Bool.not_true, Bool.not_false, and_self, beq_self_eq_true, id, implies_true, reduceCtorEq, J0, J1, J2, J3, J6, J7, J8, J9, J10, J11, J12, J13, J14, J15, J16, J19, J20, J21, J22, J23, J24, J25, J26, J27, J28, J29, J30, J31, J32, J33, J34])
  | `(tactic| simp_arith [$ls,*]) => `(tactic| simp -implicitDefEqProofs only [$ls,*, wS_nil, wS_cons, wS_pass, wS_brk, wS_cont, wS_ret, wGive_v, wGive_s, wS_set, wS_setc, wS_drop, wS_ite, wS_for, wS_while, wS_raise, wS_asg, wS_par2, wS_par3, wS_setit, wS_try, wTo_v, wTo_s, wFrz_v, wFrz_s', wFrzs_n, wFrzs_c, wE_nm, wE_int, wE_bl, wE_non, wE_str, wE_gint, wE_tyN, wE_gcls, wE_gfn, wE_bin, wE_neg, wNeg, wE_cmp, wT_cmp, wT_cmp3, wE_cmp3, wT_and1, wE_and1, wT_or1, wE_or1, wT_and2, wT_or2, wT_not, isTr_b, wE_and2, wE_or2, wE_not, wE_ifx, wE_tup, wE_lst, wE_dnew, wE_ix, wE_dget, wT_din, wE_din, wE_sl, ioW_i, pW_n, pW_c, wE_slp, wE_prim, wE_sortSet, wE_lenSet, wE_mmd, wT_nm, wT_bl, wT_call, wT_callX, wT_prim, wT_bin, wT_ix, wA_n, wA_c, wE_call, wCall_n, wCall_0, hd_c, fnW_f, wE_callX, mmW_m, mW_v, mW_s, wE_sitems, atW_d, atomD, wE_callB, wE_meth, oT_s, wE_mut, dctW_d, wE_dget2, wE_comp, wE_lstN, oE_n, oE_c, oE1_d, oE1_l, wT_lend, lent_nil, lent_cons, Option.map_none, dataA, wE_appN, wAppNU, apW_s, nW_n, lW_l, wE_refl, loW_s, evL_s, wI_seq, sqW_l, sqW_t, sqW_s, inW_i, wI_range1, wI_range2, zpW_l, zpW_t, wI_zip, enW_l, enW_t, wI_enum, gW_nm, gW_tup, gW_lst, gsW_n, gsW_c, Wp_ok, WF_ok, WF_exc, get0, getS, nmU_d, nmU_l, nmU_m, nmU_n, fl_d, fl_l, fl_m, sl_s, vw_v, vw_s, vws_n, vws_c, wo_s, wo_if, wo_map, br_t, br_f, br_not, br_id, br_dec, nxt_n, nxt_r, nxt_b, nxt_c, lp_n, lp_c, lp_b, lp_r, exF_r, exF_n, setM_n, setM_c, Pr.sem, Mt.sem, Mt.T, Mu.sem, Mu.T, Mu.bare, binQ, addQ, subQ, mulQ, fdivQ, modQ, powQ, shlQ, bandQ, cmpQ_eq, cmpQ_ne, cmpQ_lt, cmpQ_le, cmpQ_gt, cmpQ_ge, cmpQ_is, cmpQ_isn, cmpQ_in, cmpQ_notin, ltQ_int, eqQ_int, eqQ_bl, Pv.isQ, inQ, Pv.isNon, ixQ, sliceQ, lenQ, isiQ, tyOf, okTy_int, okTy_bool, okTy_tuple, okTy_list, okTy_str, okTy_dict, isiB_lit, bA, intQ, absQ, max2Q, min2Q, tupleQ, listQ, sumQ, allQ, anyQ, sortedQ, reprQ, appendQ, extendQ, reverseQ, popQ, popAtQ, putQ, Pv.keyOf, dgetQ, dinQ, tupV, lstV, boolD, seqOf, tyOk, countQ, indexQ, kOpt, pW_s, wStep, stepQ, ne_eq, blsD_map, all_tt, blsD, intsD, Option.map_some, List.all_cons, List.all_nil, List.any_cons, List.any_nil, ixN20, ixN21, wipeE, keepJ, lenT, at0, at1, okM_lit, okR_lit, List.set_cons_zero, List.set_cons_succ, List.length_cons, List.length_nil, List.length_map, List.length_range, List.map_cons, List.map_nil, List.cons_append, List.nil_append, List.replicate_succ, List.replicate_zero, List.append_nil, List.mem_cons, List.not_mem_nil, List.contains_cons, List.contains_nil, List.isEmpty_cons, List.isEmpty_nil, Nat.reduceAdd, Nat.reduceSub, Nat.reduceLeDiff, Nat.reduceEqDiff, Nat.reduceBEq, Nat.zero_add, Nat.add_zero, Nat.reduceLT, Int.reduceLT, Int.reduceLE, Int.reduceNeg, Int.reduceAdd, Int.reduceSub, Int.reduceEq, Int.reduceNe, Int.reducePow, Int.reduceToNat, Int.reduceAbs, Int.reduceMul, Int.reduceDiv, Int.reduceMod, Nat.reduceMul, Nat.reducePow, Nat.lt_irrefl, Int.zero_add, decide_true, decide_eq_true_eq, decide_false, true_and, and_true, false_and, and_false, or_false, false_or, or_true, true_or, not_true, not_false_eq_true, ite_true, ite_false, if_true, if_false, reduceIte, eq_self, Bool.false_eq_true, Bool.true_eq_false, Bool.or_false, Bool.or_true, Bool.and_true, Bool.and_false, Bool.true_and, Bool.false_and, Bool.false_or, Bool.true_or, Bool.not_true, Bool.not_false, and_self, beq_self_eq_true, id, implies_true, reduceCtorEq, J0, J1, J2, J3, J6, J7, J8, J9, J10, J11, J12, J13, J14, J15, J16, J19, J20, J21, J22, J23, J24, J25, J26, J27, J28, J29, J30, J31, J32, J33, J34])
  | `(tactic| simp_arith!) => `(tactic| simp -implicitDefEqProofs only [wS_nil, wS_cons, wS_pass, wS_brk, wS_cont, wS_ret, wGive_v, wGive_s, wS_set, wS_setc, wS_drop, wS_for, wS_while, wS_raise, wS_asg, wS_par2, wS_par3, wS_setit, wS_try, wTo_v, wTo_s, wFrz_v, wFrz_s', wFrzs_n, wFrzs_c, wE_nm, wE_int, wE_bl, wE_non, wE_str, wE_gint, wE_tyN, wE_gcls, wE_gfn, wE_bin, wE_neg, wNeg, wE_cmp, wT_cmp, wT_cmp3, wE_cmp3, wT_and1, wE_and1, wT_or1, wE_or1, wT_and2, wT_or2, wT_not, isTr_b, wE_and2, wE_or2, wE_not, wE_ifx, wE_tup, wE_lst, wE_dnew, wE_ix, wE_dget, wT_din, wE_din, wE_sl, ioW_i, pW_n, pW_c, wE_slp, wE_prim, wE_sortSet, wE_lenSet, wE_mmd, wT_nm, wT_bl, wT_call, wT_callX, wT_prim, wT_bin, wT_ix, wA_n, wA_c, wE_call, wCall_n, wCall_0, hd_c, fnW_f, wE_callX, mmW_m, mW_v, mW_s, wE_sitems, atW_d, atomD, wE_callB, wE_meth, oT_s, wE_mut, dctW_d, wE_dget2, wE_comp, wE_lstN, oE_n, oE_c, oE1_d, oE1_l, wT_lend, lent_nil, lent_cons, Option.map_none, dataA, wE_appN, wAppNU, apW_s, nW_n, lW_l, wE_refl, loW_s, evL_s, wI_seq, sqW_l, sqW_t, sqW_s, inW_i, wI_range1, wI_range2, zpW_l, zpW_t, wI_zip, enW_l, enW_t, wI_enum, gW_nm, gW_tup, gW_lst, gsW_n, gsW_c, Wp_ok, WF_ok, WF_exc, get0, getS, nmU_d, nmU_l, nmU_m, nmU_n, fl_d, fl_l, fl_m, sl_s, vw_v, vw_s, vws_n, vws_c, wo_s, wo_if, wo_map, br_t, br_f, br_not, br_id, br_dec, nxt_n, nxt_r, nxt_b, nxt_c, lp_n, lp_c, lp_b, lp_r, exF_r, exF_n, setM_n, setM_c, Pr.sem, Mt.sem, Mt.T, Mu.sem, Mu.T, Mu.bare, binQ, addQ, subQ, mulQ, fdivQ, modQ, powQ, shlQ, bandQ, cmpQ_eq, cmpQ_ne, cmpQ_lt, cmpQ_le, cmpQ_gt, cmpQ_ge, cmpQ_is, cmpQ_isn, cmpQ_in, cmpQ_notin, ltQ_int, eqQ_int, eqQ_bl, Pv.isQ, inQ, Pv.isNon, ixQ, sliceQ, lenQ, isiQ, tyOf, okTy_int, okTy_bool, okTy_tuple, okTy_list, okTy_str, okTy_dict, isiB_lit, bA, intQ, absQ, max2Q, min2Q, tupleQ, listQ, sumQ, allQ, anyQ, sortedQ, reprQ, appendQ, extendQ, reverseQ, popQ, popAtQ, putQ, Pv.keyOf, dgetQ, dinQ, tupV, lstV, boolD, seqOf, tyOk, countQ, indexQ, kOpt, pW_s, wStep, stepQ, ne_eq, blsD_map, all_tt, blsD, intsD, Option.map_some, List.all_cons, List.all_nil, List.any_cons, List.any_nil, ixN20, ixN21, wipeE, keepJ, lenT, at0, at1, okM_lit, okR_lit, List.set_cons_zero, List.set_cons_succ, List.length_cons, List.length_nil, List.length_map, List.length_range, List.map_cons, List.map_nil, List.cons_append, List.nil_append, List.replicate_succ, List.replicate_zero, List.append_nil, List.mem_cons, List.not_mem_nil, List.contains_cons, List.contains_nil, List.isEmpty_cons, List.isEmpty_nil, Nat.reduceAdd, Nat.reduceSub, Nat.reduceLeDiff, Nat.reduceEqDiff, Nat.reduceBEq, Nat.zero_add, Nat.add_zero, Nat.reduceLT, Int.reduceLT, Int.reduceLE, Int.reduceNeg, Int.reduceAdd, Int.reduceSub, Int.reduceEq, Int.reduceNe, Int.reducePow, Int.reduceToNat, Int.reduceAbs, Int.reduceMul, Int.reduceDiv, Int.reduceMod, Nat.reduceMul, Nat.reducePow, Nat.lt_irrefl, Int.zero_add, decide_true, decide_eq_true_eq, decide_false, true_and, and_true, false_and, and_false, or_false, false_or, or_true, true_or, not_true, not_false_eq_true, ite_true, ite_false, if_true, if_false, reduceIte, eq_self, Bool.false_eq_true, Bool.true_eq_false, Bool.or_false, Bool.or_true, Bool.and_true, Bool.and_false, Bool.true_and, Bool.false_and, Bool.false_or, Bool.true_or, Bool.not_true, Bool.not_false, and_self, beq_self_eq_true, id, implies_true, reduceCtorEq, J0, J1, J2, J3, J6, J7, J8, J9, J10, J11, J12, J13, J14, J15, J16, J19, J20, J21, J22, J23, J24, J25, J26, J27, J28, J29, J30, J31, J32, J33, J34])
  | `(tactic| simp_arith! [$ls,*]) => `(tactic| simp -implicitDefEqProofs only [$ls,*, wS_nil, wS_cons, wS_pass, wS_brk, wS_cont, wS_ret, wGive_v, wGive_s, wS_set, wS_setc, wS_drop, wS_for, wS_while, wS_raise, wS_asg, wS_par2, wS_par3, wS_setit, wS_try, wTo_v, wTo_s, wFrz_v, wFrz_s', wFrzs_n, wFrzs_c, wE_nm, wE_int, wE_bl, wE_non, wE_str, wE_gint, wE_tyN, wE_gcls, wE_gfn, wE_bin, wE_neg, wNeg, wE_cmp, wT_cmp, wT_cmp3, wE_cmp3, wT_and1, wE_and1, wT_or1, wE_or1, wT_and2, wT_or2, wT_not, isTr_b, wE_and2, wE_or2, wE_not, wE_ifx, wE_tup, wE_lst, wE_dnew, wE_ix, wE_dget, wT_din, wE_din, wE_sl, ioW_i, pW_n, pW_c, wE_slp, wE_prim, wE_sortSet, wE_lenSet, wE_mmd, wT_nm, wT_bl, wT_call, wT_callX, wT_prim, wT_bin, wT_ix, wA_n, wA_c, wE_call, wCall_n, wCall_0, hd_c, fnW_f, wE_callX, mmW_m, mW_v, mW_s, wE_sitems, atW_d, atomD, wE_callB, wE_meth, oT_s, wE_mut, dctW_d, wE_dget2, wE_comp, wE_lstN, oE_n, oE_c, oE1_d, oE1_l, wT_lend, lent_nil, lent_cons, Option.map_none, dataA, wE_appN, wAppNU, apW_s, nW_n, lW_l, wE_refl, loW_s, evL_s, wI_seq, sqW_l, sqW_t, sqW_s, inW_i, wI_range1, wI_range2, zpW_l, zpW_t, wI_zip, enW_l, enW_t, wI_enum, gW_nm, gW_tup, gW_lst, gsW_n, gsW_c, Wp_ok, WF_ok, WF_exc, get0, getS, nmU_d, nmU_l, nmU_m, nmU_n, fl_d, fl_l, fl_m, sl_s, vw_v, vw_s, vws_n, vws_c, wo_s, wo_if, wo_map, br_t, br_f, br_not, br_id, br_dec, nxt_n, nxt_r, nxt_b, nxt_c, lp_n, lp_c, lp_b, lp_r, exF_r, exF_n, setM_n, setM_c, Pr.sem, Mt.sem, Mt.T, Mu.sem, Mu.T, Mu.bare, binQ, addQ, subQ, mulQ, fdivQ, modQ, powQ, shlQ, bandQ, cmpQ_eq, cmpQ_ne, cmpQ_lt, cmpQ_le, cmpQ_gt, cmpQ_ge, cmpQ_is, cmpQ_isn, cmpQ_in, cmpQ_notin, ltQ_int, eqQ_int, eqQ_bl, Pv.isQ, inQ, Pv.isNon, ixQ, sliceQ, lenQ, isiQ, tyOf, okTy_int, okTy_bool, okTy_tuple, okTy_list, okTy_str, okTy_dict, isiB_lit, bA, intQ, absQ, max2Q, min2Q, tupleQ, listQ, sumQ, allQ, anyQ, sortedQ, reprQ, appendQ, extendQ, reverseQ, popQ, popAtQ, putQ, Pv.keyOf, dgetQ, dinQ, tupV, lstV, boolD, seqOf, tyOk, countQ, indexQ, kOpt, pW_s, wStep, stepQ, ne_eq, blsD_map, all_tt, blsD, intsD, Option.map_some, List.all_cons, List.all_nil, List.any_cons, List.any_nil, ixN20, ixN21, wipeE, keepJ, lenT, at0, at1, okM_lit, okR_lit, List.set_cons_zero, List.set_cons_succ, List.length_cons, List.length_nil, List.length_map, List.length_range, List.map_cons, List.map_nil, List.cons_append, List.nil_append, List.replicate_succ, List.replicate_zero, List.append_nil, List.mem_cons, List.not_mem_nil, List.contains_cons, List.contains_nil, List.isEmpty_cons, List.isEmpty_nil, Nat.reduceAdd, Nat.reduceSub, Nat.reduceLeDiff, Nat.reduceEqDiff, Nat.reduceBEq, Nat.zero_add, Nat.add_zero, Nat.reduceLT, Int.reduceLT, Int.reduceLE, Int.reduceNeg, Int.reduceAdd, Int.reduceSub, Int.reduceEq, Int.reduceNe, Int.reducePow, Int.reduceToNat, Int.reduceAbs, Int.reduceMul, Int.reduceDiv, Int.reduceMod, Nat.reduceMul, Nat.reducePow, Nat.lt_irrefl, Int.zero_add, decide_true, decide_eq_true_eq, decide_false, true_and, and_true, false_and, and_false, or_false, false_or, or_true, true_or, not_true, not_false_eq_true, ite_true, ite_false, if_true, if_false, reduceIte, eq_self, Bool.false_eq_true, Bool.true_eq_false, Bool.or_false, Bool.or_true, Bool.and_true, Bool.and_false, Bool.true_and, Bool.false_and, Bool.false_or, Bool.true_or, Bool.not_true, Bool.not_false, and_self, beq_self_eq_true, id, implies_true, reduceCtorEq, J0, J1, J2, J3, J6, J7, J8, J9, J10, J11, J12, J13, J14, J15, J16, J19, J20, J21, J22, J23, J24, J25, J26, J27, J28, J29, J30, J31, J32, J33, J34])

/-! ### the law's own pairs and fars -/
def prs2 : List (Int × Int) → List ((Int × Int) × (Int × Int))
  | [] => []
  | p :: L => L.map (fun q => (p, q)) ++ prs2 L
theorem prs2_far : ∀ L, (prs2 L).map (fun x => far x.1 x.2) = prs L
  | [] => rfl
  | p :: L => by simp only [prs2, prs, List.map_append, List.map_map, prs2_far L]; rfl
theorem prs2_len (L : List (Int × Int)) : (prs2 L).length = (prs L).length := by rw [← prs2_far L, List.length_map]
def encPP (x : (Int × Int) × (Int × Int)) : D := .tup [ptD x.1, ptD x.2]
theorem mem_prs2 : ∀ {L : List (Int × Int)} {x}, x ∈ prs2 L → x.1 ∈ L ∧ x.2 ∈ L
  | [], x, h => by cases h
  | p :: L, x, h => by
    rcases List.mem_append.mp h with h | h
    · obtain ⟨q, hq, rfl⟩ := List.mem_map.mp h
      exact ⟨List.mem_cons_self .., List.mem_cons_of_mem _ hq⟩
    · have := mem_prs2 h
      exact ⟨List.mem_cons_of_mem _ this.1, List.mem_cons_of_mem _ this.2⟩
section
variable {Q : A → List (Option A) → Prop} {E : X1 → List (Option A) → Prop}
theorem lfar_wf (k : Nat) {p q : Int × Int} (hp : bdP p) (hq : bdP q) (h : Q (.d (.int (far p q))) [none, none]) : WF (evCall defs sub res (k+1) 29 [.d (ptD p), .d (ptD q)]) Q E := by
  refine WF_call D29 rfl ?_
  delta d29
  simp_arith [ptD]
  have e : (p.1 - q.1) ^ (2 : Nat) + (p.2 - q.2) ^ (2 : Nat) = far p q := by unfold far; grind
  refine ⟨by omega, by omega, ?_⟩
  rw [e]
  exact h
set_option maxHeartbeats 1000000 in
theorem lpairs_wf (k : Nat) {L : List (Int × Int)} (hl : L.length ≤ 40) (h : Q (.l ((prs2 L).map encPP)) [none]) : WF (evCall defs sub res (k+1) 30 [.d (lotD L)]) Q E := by
  refine WF_call D30 rfl ?_
  delta d30 d30_l0 d30_b0 d30_e0
  have r1 : okR (L.length : Int) = true := by unfold okR; exact decide_eq_true ⟨by omega, by omega⟩
  have hq := prs_le hl
  have hq2 := prs2_len L
  simp_arith [lotD, r1]
  rw [Int.toNat_natCast]
  refine wp_for (fun i : Nat => D.int (i : Int)) [1,2] (fun r vs => ∃ pre suf don a, L = pre ++ suf ∧ r = List.range' pre.length suf.length ∧ don ++ prs2 suf = prs2 L ∧ vs = [some (.l (don.map encPP)), a]) (List.range L.length) _ ⟨[], L, [], none, rfl, List.range_eq_range', rfl, rfl⟩ (fun i r vs hI => ?_) (fun vs hI => ?_)
  · obtain ⟨pre, suf, don, a, e1, e2, e3, rfl⟩ := hI
    cases suf with
    | nil => cases e2
    | cons one suf =>
      rw [List.length_cons, List.range'_succ] at e2
      have ei : i = pre.length := (List.cons.inj e2).1
      have er : r = List.range' (pre.length + 1) suf.length := (List.cons.inj e2).2
      subst ei
      have hcut : cut (L.map ptD) (some ((pre.length : Int) + 1)) none = suf.map ptD := by
        rw [show ((pre.length : Int) + 1) = ((pre.length + 1 : Nat) : Int) from rfl, cut_drop, ← List.map_drop, e1, show (pre ++ one :: suf).drop (pre.length + 1) = suf from by rw [← List.drop_drop, List.drop_left]; rfl]
      have hat : atI (L.map ptD) (pre.length : Int) = some (ptD one) := atI_nat (by rw [List.getElem?_map, e1, List.getElem?_append_right (Nat.le_refl _)]; simp)
      have hs : suf.length ≤ 40 := by rw [e1] at hl; simp at hl; omega
      simp_arith [hcut]
      refine ⟨by omega, ?_⟩
      refine wp_comp ptD (fun q => encPP (one, q)) suf (fun q hq => ?_) ?_
      · simp_arith [hat, encPP]
      have hd : don.length + suf.length ≤ 780 := by
        have := congrArg List.length e3
        simp only [prs2, List.length_append, List.length_map] at this
        omega
      have ea : don.map encPP ++ suf.map (fun q => encPP (one, q)) = (don ++ suf.map fun q => (one, q)).map encPP := by rw [List.map_append, List.map_map]; rfl
      simp_arith [ea]
      refine ⟨by omega, [_, _], rfl, pre ++ [one], suf, don ++ suf.map (fun q => (one, q)), _, ?_, ?_, ?_, rfl⟩
      · rw [e1]; simp
      · rw [List.length_append]; exact er
      · rw [List.append_assoc]; exact e3
  · obtain ⟨pre, suf, don, a, e1, e2, e3, rfl⟩ := hI
    cases suf with
    | cons one suf => cases e2
    | nil =>
      simp only [prs2, List.append_nil] at e3
      subst e3
      simp_arith
      exact h
theorem lfars_wf (k : Nat) {L : List (Int × Int)} (hb : ∀ p ∈ L, bdP p) (hl : L.length ≤ 40) (h : Q (.l ((prs L).map .int)) [none]) : WF (evCall defs sub res (k+2) 31 [.d (lotD L)]) Q E := by
  refine WF_call D31 rfl ?_
  delta d31 d31_e0
  have hq := prs_le hl
  have hq2 := prs2_len L
  simp_arith
  refine lpairs_wf k hl ?_
  simp_arith
  refine ⟨by omega, ?_⟩
  refine wp_comp encPP (fun x => .int (far x.1 x.2)) (prs2 L) (fun x hx => ?_) ?_
  · have hm := mem_prs2 hx
    simp_arith [encPP]
    refine lfar_wf k (hb _ hm.1) (hb _ hm.2) ?_
    simp_arith
  have e : (prs2 L).map (fun x => D.int (far x.1 x.2)) = (prs L).map D.int := by
    rw [← prs2_far L, List.map_map]
    rfl
  rw [e]
  simp_arith
  exact h
end
end Lk

namespace Lk
open PySem PySem.Spec PyProof.Rows L2 Pv
open Pv0 (no get setM)
variable {sub : Nat → Nat → Bool} {res : Nat → Option Str}
local macro_rules
  | `(tactic| simp_arith) => `(tactic| simp -implicitDefEqProofs only [wS_nil, wS_cons, wS_pass, wS_brk, wS_cont, wS_ret, wGive_v, wGive_s, wS_set, wS_setc, wS_drop, wS_ite, wS_for, wS_while, wS_raise, wS_asg, wS_par2, wS_par3, wS_setit, wS_try, wTo_v, wTo_s, wFrz_v, wFrz_s', wFrzs_n, wFrzs_c, wE_nm, wE_int, wE_bl, wE_non, wE_str, wE_gint, wE_tyN, wE_gcls, wE_gfn, wE_bin, wE_neg, wNeg, wE_cmp, wT_cmp, wT_cmp3, wE_cmp3, wT_and1, wE_and1, wT_or1, wE_or1, wT_and2, wT_or2, wT_not, isTr_b, wE_and2, wE_or2, wE_not, wE_ifx, wE_tup, wE_lst, wE_dnew, wE_ix, wE_dget, wT_din, wE_din, wE_sl, ioW_i, pW_n, pW_c, wE_slp, wE_prim, wE_sortSet, wE_lenSet, wE_mmd, wT_nm, wT_bl, wT_call, wT_callX, wT_prim, wT_bin, wT_ix, wA_n, wA_c, wE_call, wCall_n, wCall_0, hd_c, fnW_f, wE_callX, mmW_m, mW_v, mW_s, wE_sitems, atW_d, atomD, wE_callB, wE_meth, oT_s, wE_mut, dctW_d, wE_dget2, wE_comp, wE_lstN, oE_n, oE_c, oE1_d, oE1_l, wT_lend, lent_nil, lent_cons, Option.map_none, dataA, wE_appN, wAppNU, apW_s, nW_n, lW_l, wE_refl, loW_s, evL_s, wI_seq, sqW_l, sqW_t, sqW_s, inW_i, wI_range1, wI_range2, zpW_l, zpW_t, wI_zip, enW_l, enW_t, wI_enum, gW_nm, gW_tup, gW_lst, gsW_n, gsW_c, Wp_ok, WF_ok, WF_exc, get0, getS, nmU_d, nmU_l, nmU_m, nmU_n, fl_d, fl_l, fl_m, sl_s, vw_v, vw_s, vws_n, vws_c, wo_s, wo_if, wo_map, br_t, br_f, br_not, br_id, br_dec, nxt_n, nxt_r, nxt_b, nxt_c, lp_n, lp_c, lp_b, lp_r, exF_r, exF_n, setM_n, setM_c, Pr.sem, Mt.sem, Mt.T, Mu.sem, Mu.T, Mu.bare, binQ, addQ, subQ, mulQ, fdivQ, modQ, powQ, shlQ, bandQ, cmpQ_eq, cmpQ_ne, cmpQ_lt, cmpQ_le, cmpQ_gt, cmpQ_ge, cmpQ_is, cmpQ_isn, cmpQ_in, cmpQ_notin, ltQ_int, eqQ_int, eqQ_bl, Pv.isQ, inQ, Pv.isNon, ixQ, sliceQ, lenQ, isiQ, tyOf, okTy_int, okTy_bool, okTy_tuple, okTy_list, okTy_str, okTy_dict, isiB_lit, bA, intQ, absQ, max2Q, min2Q, tupleQ, listQ, sumQ, allQ, anyQ, sortedQ, reprQ, appendQ, extendQ, reverseQ, popQ, popAtQ, putQ, Pv.keyOf, dgetQ, dinQ, tupV, lstV, boolD, seqOf, tyOk, countQ, indexQ, kOpt, pW_s, wStep, stepQ, ne_eq, blsD_map, all_tt, blsD, intsD, Option.map_some, List.all_cons, List.all_nil, List.any_cons, List.any_nil, ixN20, ixN21, wipeE, keepJ, lenT, at0, at1, okM_lit, okR_lit, List.set_cons_zero, List.set_cons_succ, List.length_cons, List.length_nil, List.length_map, List.length_range, List.map_cons, List.map_nil, List.cons_append, List.nil_append, List.replicate_succ, List.replicate_zero, List.append_nil, List.mem_cons, List.not_mem_nil, List.contains_cons, List.contains_nil, List.isEmpty_cons, List.isEmpty_nil, Nat.reduceAdd, Nat.reduceSub, Nat.reduceLeDiff, Nat.reduceEqDiff, Nat.reduceBEq, Nat.zero_add, Nat.add_zero, Nat.reduceLT, Int.reduceLT, Int.reduceLE, Int.reduceNeg, Int.reduceAdd, Int.reduceSub, Int.reduceEq, Int.reduceNe, Int.reducePow, Int.reduceToNat, Int.reduceAbs, Int.reduceMul, Int.reduceDiv, Int.reduceMod, Nat.reduceMul, Nat.reducePow, Nat.lt_irrefl, Int.zero_add, decide_true, decide_eq_true_eq, decide_false, true_and, and_true, false_and, and_false, or_false, false_or, or_true, true_or, not_true, not_false_eq_true, ite_true, ite_false, if_true, if_false, reduceIte, eq_self, Bool.false_eq_true, Bool.true_eq_false, Bool.or_false, Bool.or_true, Bool.and_true, Bool.and_false, Bool.true_and, Bool.false_and, Bool.false_or, Bool.true_or, Bool.not_true, Bool.not_false, and_self, beq_self_eq_true, id, implies_true, reduceCtorEq, J0, J1, J2, J3, J6, J7, J8, J9, J10, J11, J12, J13, J14, J15, J16, J19, J20, J21, J22, J23, J24, J25, J26, J27, J28, J29, J30, J31, J32, J33, J34])
  | `(tactic| simp_arith [$ls,*]) => `(tactic| simp -implicitDefEqProofs only [$ls,*, wS_nil, wS_cons, wS_pass, wS_brk, wS_cont, wS_ret, wGive_v, wGive_s, wS_set, wS_setc, wS_drop, wS_ite, wS_for, wS_while, wS_raise, wS_asg, wS_par2, wS_par3, wS_setit, wS_try, wTo_v, wTo_s, wFrz_v, wFrz_s', wFrzs_n, wFrzs_c, wE_nm, wE_int, wE_bl, wE_non, wE_str, wE_gint, wE_tyN, wE_gcls, wE_gfn, wE_bin, wE_neg, wNeg, wE_cmp, wT_cmp, wT_cmp3, wE_cmp3, wT_and1, wE_and1, wT_or1, wE_or1, wT_and2, wT_or2, wT_not, isTr_b, wE_and2, wE_or2, wE_not, wE_ifx, wE_tup, wE_lst, wE_dnew, wE_ix, wE_dget, wT_din, wE_din, wE_sl, ioW_i, pW_n, pW_c, wE_slp, wE_prim, wE_sortSet, wE_lenSet, wE_mmd, wT_nm, wT_bl, wT_call, wT_callX, wT_prim, wT_bin, wT_ix, wA_n, wA_c, wE_call, wCall_n, wCall_0, hd_c, fnW_f, wE_callX, mmW_m, mW_v, mW_s, wE_sitems, atW_d, atomD, wE_callB, wE_meth, oT_s, wE_mut, dctW_d, wE_dget2, wE_comp, wE_lstN, oE_n, oE_c, oE1_d, oE1_l, wT_lend, lent_nil, lent_cons, Option.map_none, dataA, wE_appN, wAppNU, apW_s, nW_n, lW_l, wE_refl, loW_s, evL_s, wI_seq, sqW_l, sqW_t, sqW_s, inW_i, wI_range1, wI_range2, zpW_l, zpW_t, wI_zip, enW_l, enW_t, wI_enum, gW_nm, gW_tup, gW_lst, gsW_n, gsW_c, Wp_ok, WF_ok, WF_exc, get0, getS, nmU_d, nmU_l, nmU_m, nmU_n, fl_d, fl_l, fl_m, sl_s, vw_v, vw_s, vws_n, vws_c, wo_s, wo_if, wo_map, br_t, br_f, br_not, br_id, br_dec, nxt_n, nxt_r, nxt_b, nxt_c, lp_n, lp_c, lp_b, lp_r, exF_r, exF_n, setM_n, setM_c, Pr.sem, Mt.sem, Mt.T, Mu.sem, Mu.T, Mu.bare, binQ, addQ, subQ, mulQ, fdivQ, modQ, powQ, shlQ, bandQ, cmpQ_eq, cmpQ_ne, cmpQ_lt, cmpQ_le, cmpQ_gt, cmpQ_ge, cmpQ_is, cmpQ_isn, cmpQ_in, cmpQ_notin, ltQ_int, eqQ_int, eqQ_bl, Pv.isQ, inQ, Pv.isNon, ixQ, sliceQ, lenQ, isiQ, tyOf, okTy_int, okTy_bool, okTy_tuple, okTy_list, okTy_str, okTy_dict, isiB_lit, bA, intQ, absQ, max2Q, min2Q, tupleQ, listQ, sumQ, allQ, anyQ, sortedQ, reprQ, appendQ, extendQ, reverseQ, popQ, popAtQ, putQ, Pv.keyOf, dgetQ, dinQ, tupV, lstV, boolD, seqOf, tyOk, countQ, indexQ, kOpt, pW_s, wStep, stepQ, ne_eq, blsD_map, all_tt, blsD, intsD, Option.map_some, List.all_cons, List.all_nil, List.any_cons, List.any_nil, ixN20, ixN21, wipeE, keepJ, lenT, at0, at1, okM_lit, okR_lit, List.set_cons_zero, List.set_cons_succ, List.length_cons, List.length_nil, List.length_map, List.length_range, List.map_cons, List.map_nil, List.cons_append, List.nil_append, List.replicate_succ, List.replicate_zero, List.append_nil, List.mem_cons, List.not_mem_nil, List.contains_cons, List.contains_nil, List.isEmpty_cons, List.isEmpty_nil, Nat.reduceAdd, Nat.reduceSub, Nat.reduceLeDiff, Nat.reduceEqDiff, Nat.reduceBEq, Nat.zero_add, Nat.add_zero, Nat.reduceLT, Int.reduceLT, Int.reduceLE, Int.reduceNeg, Int.reduceAdd, Int.reduceSub, Int.reduceEq, Int.reduceNe, Int.reducePow, Int.reduceToNat, Int.reduceAbs, Int.reduceMul, Int.reduceDiv, Int.reduceMod, Nat.reduceMul, Nat.reducePow, Nat.lt_irrefl, Int.zero_add, decide_true, decide_eq_true_eq, decide_false, true_and, and_true, false_and, and_false, or_false, false_or, or_true, true_or, not_true, not_false_eq_true, ite_true, ite_false, if_true, if_false, reduceIte, eq_self, Bool.false_eq_true, Bool.true_eq_false, Bool.or_false, Bool.or_true, Bool.and_true, Bool.and_false, Bool.true_and, Bool.false_and, Bool.false_or, Bool.true_or, Bool.not_true, Bool.not_false, and_self, beq_self_eq_true, id, implies_true, reduceCtorEq, J0, J1, J2, J3, J6, J7, J8, J9, J10, J11, J12, J13, J14, J15, J16, J19, J20, J21, J22, J23, J24, J25, J26, J27, J28, J29, J30, J31, J32, J33, J34])
  | `(tactic| simp_arith!) => `(tactic| simp -implicitDefEqProofs only [wS_nil, wS_cons, wS_pass, wS_brk, wS_cont, wS_ret, wGive_v, wGive_s, wS_set, wS_setc, wS_drop, wS_for, wS_while, wS_raise, wS_asg, wS_par2, wS_par3, wS_setit, wS_try, wTo_v, wTo_s, wFrz_v, wFrz_s', wFrzs_n, wFrzs_c, wE_nm, wE_int, wE_bl, wE_non, wE_str, wE_gint, wE_tyN, wE_gcls, wE_gfn, wE_bin, wE_neg, wNeg, wE_cmp, wT_cmp, wT_cmp3, wE_cmp3, wT_and1, wE_and1, wT_or1, wE_or1, wT_and2, wT_or2, wT_not, isTr_b, wE_and2, wE_or2, wE_not, wE_ifx, wE_tup, wE_lst, wE_dnew, wE_ix, wE_dget, wT_din, wE_din, wE_sl, ioW_i, pW_n, pW_c, wE_slp, wE_prim, wE_sortSet, wE_lenSet, wE_mmd, wT_nm, wT_bl, wT_call, wT_callX, wT_prim, wT_bin, wT_ix, wA_n, wA_c, wE_call, wCall_n, wCall_0, hd_c, fnW_f, wE_callX, mmW_m, mW_v, mW_s, wE_sitems, atW_d, atomD, wE_callB, wE_meth, oT_s, wE_mut, dctW_d, wE_dget2, wE_comp, wE_lstN, oE_n, oE_c, oE1_d, oE1_l, wT_lend, lent_nil, lent_cons, Option.map_none, dataA, wE_appN, wAppNU, apW_s, nW_n, lW_l, wE_refl, loW_s, evL_s, wI_seq, sqW_l, sqW_t, sqW_s, inW_i, wI_range1, wI_range2, zpW_l, zpW_t, wI_zip, enW_l, enW_t, wI_enum, gW_nm, gW_tup, gW_lst, gsW_n, gsW_c, Wp_ok, WF_ok, WF_exc, get0, getS, nmU_d, nmU_l, nmU_m, nmU_n, fl_d, fl_l, fl_m, sl_s, vw_v, vw_s, vws_n, vws_c, wo_s, wo_if, wo_map, br_t, br_f, br_not, br_id, br_dec, nxt_n, nxt_r, nxt_b, nxt_c, lp_n, lp_c, lp_b, lp_r, exF_r, exF_n, setM_n, setM_c, Pr.sem, Mt.sem, Mt.T, Mu.sem, Mu.T, Mu.bare, binQ, addQ, subQ, mulQ, fdivQ, modQ, powQ, shlQ, bandQ, cmpQ_eq, cmpQ_ne, cmpQ_lt, cmpQ_le, cmpQ_gt, cmpQ_ge, cmpQ_is, cmpQ_isn, cmpQ_in, cmpQ_notin, ltQ_int, eqQ_int, eqQ_bl, Pv.isQ, inQ, Pv.isNon, ixQ, sliceQ, lenQ, isiQ, tyOf, okTy_int, okTy_bool, okTy_tuple, okTy_list, okTy_str, okTy_dict, isiB_lit, bA, intQ, absQ, max2Q, min2Q, tupleQ, listQ, sumQ, allQ, anyQ, sortedQ, reprQ, appendQ, extendQ, reverseQ, popQ, popAtQ, putQ, Pv.keyOf, dgetQ, dinQ, tupV, lstV, boolD, seqOf, tyOk, countQ, indexQ, kOpt, pW_s, wStep, stepQ, ne_eq, blsD_map, all_tt, blsD, intsD, Option.map_some, List.all_cons, List.all_nil, List.any_cons, List.any_nil, ixN20, ixN21, wipeE, keepJ, lenT, at0, at1, okM_lit, okR_lit, List.set_cons_zero, List.set_cons_succ, List.length_cons, List.length_nil, List.length_map, List.length_range, List.map_cons, List.map_nil, List.cons_append, List.nil_append, List.replicate_succ, List.replicate_zero, List.append_nil, List.mem_cons, List.not_mem_nil, List.contains_cons, List.contains_nil, List.isEmpty_cons, List.isEmpty_nil, Nat.reduceAdd, Nat.reduceSub, Nat.reduceLeDiff, Nat.reduceEqDiff, Nat.reduceBEq, Nat.zero_add, Nat.add_zero, Nat.reduceLT, Int.reduceLT, Int.reduceLE, Int.reduceNeg, Int.reduceAdd, Int.reduceSub, Int.reduceEq, Int.reduceNe, Int.reducePow, Int.reduceToNat, Int.reduceAbs, Int.reduceMul, Int.reduceDiv, Int.reduceMod, Nat.reduceMul, Nat.reducePow, Nat.lt_irrefl, Int.zero_add, decide_true, decide_eq_true_eq, decide_false, true_and, and_true, false_and, and_false, or_false, false_or, or_true, true_or, not_true, not_false_eq_true, ite_true, ite_false, if_true, if_false, reduceIte, eq_self, Bool.false_eq_true, Bool.true_eq_false, Bool.or_false, Bool.or_true, Bool.and_true, Bool.and_false, Bool.true_and, Bool.false_and, Bool.false_or, Bool.true_or, Bool.not_true, Bool.not_false, and_self, beq_self_eq_true, id, implies_true, reduceCtorEq, J0, J1, J2, J3, J6, J7, J8, J9, J10, J11, J12, J13, J14, J15, J16, J19, J20, J21, J22, J23, J24, J25, J26, J27, J28, J29, J30, J31, J32, J33, J34])
  | `(tactic| simp_arith! [$ls,*]) => `(tactic| simp -implicitDefEqProofs only [$ls,*, wS_nil, wS_cons, wS_pass, wS_brk, wS_cont, wS_ret, wGive_v, wGive_s, wS_set, wS_setc, wS_drop, wS_for, wS_while, wS_raise, wS_asg, wS_par2, wS_par3, wS_setit, wS_try, wTo_v, wTo_s, wFrz_v, wFrz_s', wFrzs_n, wFrzs_c, wE_nm, wE_int, wE_bl, wE_non, wE_str, wE_gint, wE_tyN, wE_gcls, wE_gfn, wE_bin, wE_neg, wNeg, wE_cmp, wT_cmp, wT_cmp3, wE_cmp3, wT_and1, wE_and1, wT_or1, wE_or1, wT_and2, wT_or2, wT_not, isTr_b, wE_and2, wE_or2, wE_not, wE_ifx, wE_tup, wE_lst, wE_dnew, wE_ix, wE_dget, wT_din, wE_din, wE_sl, ioW_i, pW_n, pW_c, wE_slp, wE_prim, wE_sortSet, wE_lenSet, wE_mmd, wT_nm, wT_bl, wT_call, wT_callX, wT_prim, wT_bin, wT_ix, wA_n, wA_c, wE_call, wCall_n, wCall_0, hd_c, fnW_f, wE_callX, mmW_m, mW_v, mW_s, wE_sitems, atW_d, atomD, wE_callB, wE_meth, oT_s, wE_mut, dctW_d, wE_dget2, wE_comp, wE_lstN, oE_n, oE_c, oE1_d, oE1_l, wT_lend, lent_nil, lent_cons, Option.map_none, dataA, wE_appN, wAppNU, apW_s, nW_n, lW_l, wE_refl, loW_s, evL_s, wI_seq, sqW_l, sqW_t, sqW_s, inW_i, wI_range1, wI_range2, zpW_l, zpW_t, wI_zip, enW_l, enW_t, wI_enum, gW_nm, gW_tup, gW_lst, gsW_n, gsW_c, Wp_ok, WF_ok, WF_exc, get0, getS, nmU_d, nmU_l, nmU_m, nmU_n, fl_d, fl_l, fl_m, sl_s, vw_v, vw_s, vws_n, vws_c, wo_s, wo_if, wo_map, br_t, br_f, br_not, br_id, br_dec, nxt_n, nxt_r, nxt_b, nxt_c, lp_n, lp_c, lp_b, lp_r, exF_r, exF_n, setM_n, setM_c, Pr.sem, Mt.sem, Mt.T, Mu.sem, Mu.T, Mu.bare, binQ, addQ, subQ, mulQ, fdivQ, modQ, powQ, shlQ, bandQ, cmpQ_eq, cmpQ_ne, cmpQ_lt, cmpQ_le, cmpQ_gt, cmpQ_ge, cmpQ_is, cmpQ_isn, cmpQ_in, cmpQ_notin, ltQ_int, eqQ_int, eqQ_bl, Pv.isQ, inQ, Pv.isNon, ixQ, sliceQ, lenQ, isiQ, tyOf, okTy_int, okTy_bool, okTy_tuple, okTy_list, okTy_str, okTy_dict, isiB_lit, bA, intQ, absQ, max2Q, min2Q, tupleQ, listQ, sumQ, allQ, anyQ, sortedQ, reprQ, appendQ, extendQ, reverseQ, popQ, popAtQ, putQ, Pv.keyOf, dgetQ, dinQ, tupV, lstV, boolD, seqOf, tyOk, countQ, indexQ, kOpt, pW_s, wStep, stepQ, ne_eq, blsD_map, all_tt, blsD, intsD, Option.map_some, List.all_cons, List.all_nil, List.any_cons, List.any_nil, ixN20, ixN21, wipeE, keepJ, lenT, at0, at1, okM_lit, okR_lit, List.set_cons_zero, List.set_cons_succ, List.length_cons, List.length_nil, List.length_map, List.length_range, List.map_cons, List.map_nil, List.cons_append, List.nil_append, List.replicate_succ, List.replicate_zero, List.append_nil, List.mem_cons, List.not_mem_nil, List.contains_cons, List.contains_nil, List.isEmpty_cons, List.isEmpty_nil, Nat.reduceAdd, Nat.reduceSub, Nat.reduceLeDiff, Nat.reduceEqDiff, Nat.reduceBEq, Nat.zero_add, Nat.add_zero, Nat.reduceLT, Int.reduceLT, Int.reduceLE, Int.reduceNeg, Int.reduceAdd, Int.reduceSub, Int.reduceEq, Int.reduceNe, Int.reducePow, Int.reduceToNat, Int.reduceAbs, Int.reduceMul, Int.reduceDiv, Int.reduceMod, Nat.reduceMul, Nat.reducePow, Nat.lt_irrefl, Int.zero_add, decide_true, decide_eq_true_eq, decide_false, true_and, and_true, false_and, and_false, or_false, false_or, or_true, true_or, not_true, not_false_eq_true, ite_true, ite_false, if_true, if_false, reduceIte, eq_self, Bool.false_eq_true, Bool.true_eq_false, Bool.or_false, Bool.or_true, Bool.and_true, Bool.and_false, Bool.true_and, Bool.false_and, Bool.false_or, Bool.true_or, Bool.not_true, Bool.not_false, and_self, beq_self_eq_true, id, implies_true, reduceCtorEq, J0, J1, J2, J3, J6, J7, J8, J9, J10, J11, J12, J13, J14, J15, J16, J19, J20, J21, J22, J23, J24, J25, J26, J27, J28, J29, J30, J31, J32, J33, J34])

theorem setL_ints (is : List Int) (h : is.length ≤ 4000) : setL (is.map D.int) = some ((usort ltI is).map .int) := by
  simp only [setL, toIs_map]
  rw [if_pos h]
section
variable {Q : A → List (Option A) → Prop} {E : X1 → List (Option A) → Prop}
theorem ltable_wf (k : Nat) {L : List (Int × Int)} (hb : ∀ p ∈ L, bdP p) (hl : L.length ≤ 40) (h : Q (.l ((tab (prs L)).map ptD)) [none]) : WF (evCall defs sub res (k+3) 32 [.d (lotD L)]) Q E := by
  refine WF_call D32 rfl ?_
  delta d32 d32_e0
  have hq := prs_le hl
  simp_arith
  refine lfars_wf k hb hl ?_
  simp_arith [Option.bind_some, setL_ints _ (Nat.le_trans hq (by decide))]
  refine ⟨by have := usort_len linI (prs L); omega, ?_⟩
  refine wp_comp D.int (fun d => ptD (d, ((prs L).count d : Int))) (usort ltI (prs L)) (fun d _ => ?_) ?_
  · simp_arith [intsD_map', ptD]
  have e : (usort ltI (prs L)).map (fun d => ptD (d, ((prs L).count d : Int))) = (tab (prs L)).map ptD := by unfold tab; rw [List.map_map]; rfl
  rw [e]
  simp_arith
  exact h
end
end Lk

namespace Lk
open PySem PySem.Spec PyProof.Rows L2 Pv
open Pv0 (no get setM)
variable {sub : Nat → Nat → Bool} {res : Nat → Option Str}
local macro_rules
  | `(tactic| simp_arith) => `(tactic| simp -implicitDefEqProofs only [wS_nil, wS_cons, wS_pass, wS_brk, wS_cont, wS_ret, wGive_v, wGive_s, wS_set, wS_setc, wS_drop, wS_ite, wS_for, wS_while, wS_raise, wS_asg, wS_par2, wS_par3, wS_setit, wS_try, wTo_v, wTo_s, wFrz_v, wFrz_s', wFrzs_n, wFrzs_c, wE_nm, wE_int, wE_bl, wE_non, wE_str, wE_gint, wE_tyN, wE_gcls, wE_gfn, wE_bin, wE_neg, wNeg, wE_cmp, wT_cmp, wT_cmp3, wE_cmp3, wT_and1, wE_and1, wT_or1, wE_or1, wT_and2, wT_or2, wT_not, isTr_b, wE_and2, wE_or2, wE_not, wE_ifx, wE_tup, wE_lst, wE_dnew, wE_ix, wE_dget, wT_din, wE_din, wE_sl, ioW_i, pW_n, pW_c, wE_slp, wE_prim, wE_sortSet, wE_lenSet, wE_mmd, wT_nm, wT_bl, wT_call, wT_callX, wT_prim, wT_bin, wT_ix, wA_n, wA_c, wE_call, wCall_n, wCall_0, hd_c, fnW_f, wE_callX, mmW_m, mW_v, mW_s, wE_sitems, atW_d, atomD, wE_callB, wE_meth, oT_s, wE_mut, dctW_d, wE_dget2, wE_comp, wE_lstN, oE_n, oE_c, oE1_d, oE1_l, wT_lend, lent_nil, lent_cons, Option.map_none, dataA, wE_appN, wAppNU, apW_s, nW_n, lW_l, wE_refl, loW_s, evL_s, wI_seq, sqW_l, sqW_t, sqW_s, inW_i, wI_range1, wI_range2, zpW_l, zpW_t, wI_zip, enW_l, enW_t, wI_enum, gW_nm, gW_tup, gW_lst, gsW_n, gsW_c, Wp_ok, WF_ok, WF_exc, get0, getS, nmU_d, nmU_l, nmU_m, nmU_n, fl_d, fl_l, fl_m, sl_s, vw_v, vw_s, vws_n, vws_c, wo_s, wo_if, wo_map, br_t, br_f, br_not, br_id, br_dec, nxt_n, nxt_r, nxt_b, nxt_c, lp_n, lp_c, lp_b, lp_r, exF_r, exF_n, setM_n, setM_c, Pr.sem, Mt.sem, Mt.T, Mu.sem, Mu.T, Mu.bare, binQ, addQ, subQ, mulQ, fdivQ, modQ, powQ, shlQ, bandQ, cmpQ_eq, cmpQ_ne, cmpQ_lt, cmpQ_le, cmpQ_gt, cmpQ_ge, cmpQ_is, cmpQ_isn, cmpQ_in, cmpQ_notin, ltQ_int, eqQ_int, eqQ_bl, Pv.isQ, inQ, Pv.isNon, ixQ, sliceQ, lenQ, isiQ, tyOf, okTy_int, okTy_bool, okTy_tuple, okTy_list, okTy_str, okTy_dict, isiB_lit, bA, intQ, absQ, max2Q, min2Q, tupleQ, listQ, sumQ, allQ, anyQ, sortedQ, reprQ, appendQ, extendQ, reverseQ, popQ, popAtQ, putQ, Pv.keyOf, dgetQ, dinQ, tupV, lstV, boolD, seqOf, tyOk, countQ, indexQ, kOpt, pW_s, wStep, stepQ, ne_eq, blsD_map, all_tt, blsD, intsD, Option.map_some, List.all_cons, List.all_nil, List.any_cons, List.any_nil, ixN20, ixN21, wipeE, keepJ, lenT, at0, at1, okM_lit, okR_lit, List.set_cons_zero, List.set_cons_succ, List.length_cons, List.length_nil, List.length_map, List.length_range, List.map_cons, List.map_nil, List.cons_append, List.nil_append, List.replicate_succ, List.replicate_zero, List.append_nil, List.mem_cons, List.not_mem_nil, List.contains_cons, List.contains_nil, List.isEmpty_cons, List.isEmpty_nil, Nat.reduceAdd, Nat.reduceSub, Nat.reduceLeDiff, Nat.reduceEqDiff, Nat.reduceBEq, Nat.zero_add, Nat.add_zero, Nat.reduceLT, Int.reduceLT, Int.reduceLE, Int.reduceNeg, Int.reduceAdd, Int.reduceSub, Int.reduceEq, Int.reduceNe, Int.reducePow, Int.reduceToNat, Int.reduceAbs, Int.reduceMul, Int.reduceDiv, Int.reduceMod, Nat.reduceMul, Nat.reducePow, Nat.lt_irrefl, Int.zero_add, decide_true, decide_eq_true_eq, decide_false, true_and, and_true, false_and, and_false, or_false, false_or, or_true, true_or, not_true, not_false_eq_true, ite_true, ite_false, if_true, if_false, reduceIte, eq_self, Bool.false_eq_true, Bool.true_eq_false, Bool.or_false, Bool.or_true, Bool.and_true, Bool.and_false, Bool.true_and, Bool.false_and, Bool.false_or, Bool.true_or, Bool.not_true, Bool.not_false, and_self, beq_self_eq_true, id, implies_true, reduceCtorEq, J0, J1, J2, J3, J6, J7, J8, J9, J10, J11, J12, J13, J14, J15, J16, J19, J20, J21, J22, J23, J24, J25, J26, J27, J28, J29, J30, J31, J32, J33, J34])
  | `(tactic| simp_arith [$ls,*]) => `(tactic| simp -implicitDefEqProofs only [$ls,*, wS_nil, wS_cons, wS_pass, wS_brk, wS_cont, wS_ret, wGive_v, wGive_s, wS_set, wS_setc, wS_drop, wS_ite, wS_for, wS_while, wS_raise, wS_asg, wS_par2, wS_par3, wS_setit, wS_try, wTo_v, wTo_s, wFrz_v, wFrz_s', wFrzs_n, wFrzs_c, wE_nm, wE_int, wE_bl, wE_non, wE_str, wE_gint, wE_tyN, wE_gcls, wE_gfn, wE_bin, wE_neg, wNeg, wE_cmp, wT_cmp, wT_cmp3, wE_cmp3, wT_and1, wE_and1, wT_or1, wE_or1, wT_and2, wT_or2, wT_not, isTr_b, wE_and2, wE_or2, wE_not, wE_ifx, wE_tup, wE_lst, wE_dnew, wE_ix, wE_dget, wT_din, wE_din, wE_sl, ioW_i, pW_n, pW_c, wE_slp, wE_prim, wE_sortSet, wE_lenSet, wE_mmd, wT_nm, wT_bl, wT_call, wT_callX, wT_prim, wT_bin, wT_ix, wA_n, wA_c, wE_call, wCall_n, wCall_0, hd_c, fnW_f, wE_callX, mmW_m, mW_v, mW_s, wE_sitems, atW_d, atomD, wE_callB, wE_meth, oT_s, wE_mut, dctW_d, wE_dget2, wE_comp, wE_lstN, oE_n, oE_c, oE1_d, oE1_l, wT_lend, lent_nil, lent_cons, Option.map_none, dataA, wE_appN, wAppNU, apW_s, nW_n, lW_l, wE_refl, loW_s, evL_s, wI_seq, sqW_l, sqW_t, sqW_s, inW_i, wI_range1, wI_range2, zpW_l, zpW_t, wI_zip, enW_l, enW_t, wI_enum, gW_nm, gW_tup, gW_lst, gsW_n, gsW_c, Wp_ok, WF_ok, WF_exc, get0, getS, nmU_d, nmU_l, nmU_m, nmU_n, fl_d, fl_l, fl_m, sl_s, vw_v, vw_s, vws_n, vws_c, wo_s, wo_if, wo_map, br_t, br_f, br_not, br_id, br_dec, nxt_n, nxt_r, nxt_b, nxt_c, lp_n, lp_c, lp_b, lp_r, exF_r, exF_n, setM_n, setM_c, Pr.sem, Mt.sem, Mt.T, Mu.sem, Mu.T, Mu.bare, binQ, addQ, subQ, mulQ, fdivQ, modQ, powQ, shlQ, bandQ, cmpQ_eq, cmpQ_ne, cmpQ_lt, cmpQ_le, cmpQ_gt, cmpQ_ge, cmpQ_is, cmpQ_isn, cmpQ_in, cmpQ_notin, ltQ_int, eqQ_int, eqQ_bl, Pv.isQ, inQ, Pv.isNon, ixQ, sliceQ, lenQ, isiQ, tyOf, okTy_int, okTy_bool, okTy_tuple, okTy_list, okTy_str, okTy_dict, isiB_lit, bA, intQ, absQ, max2Q, min2Q, tupleQ, listQ, sumQ, allQ, anyQ, sortedQ, reprQ, appendQ, extendQ, reverseQ, popQ, popAtQ, putQ, Pv.keyOf, dgetQ, dinQ, tupV, lstV, boolD, seqOf, tyOk, countQ, indexQ, kOpt, pW_s, wStep, stepQ, ne_eq, blsD_map, all_tt, blsD, intsD, Option.map_some, List.all_cons, List.all_nil, List.any_cons, List.any_nil, ixN20, ixN21, wipeE, keepJ, lenT, at0, at1, okM_lit, okR_lit, List.set_cons_zero, List.set_cons_succ, List.length_cons, List.length_nil, List.length_map, List.length_range, List.map_cons, List.map_nil, List.cons_append, List.nil_append, List.replicate_succ, List.replicate_zero, List.append_nil, List.mem_cons, List.not_mem_nil, List.contains_cons, List.contains_nil, List.isEmpty_cons, List.isEmpty_nil, Nat.reduceAdd, Nat.reduceSub, Nat.reduceLeDiff, Nat.reduceEqDiff, Nat.reduceBEq, Nat.zero_add, Nat.add_zero, Nat.reduceLT, Int.reduceLT, Int.reduceLE, Int.reduceNeg, Int.reduceAdd, Int.reduceSub, Int.reduceEq, Int.reduceNe, Int.reducePow, Int.reduceToNat, Int.reduceAbs, Int.reduceMul, Int.reduceDiv, Int.reduceMod, Nat.reduceMul, Nat.reducePow, Nat.lt_irrefl, Int.zero_add, decide_true, decide_eq_true_eq, decide_false, true_and, and_true, false_and, and_false, or_false, false_or, or_true, true_or, not_true, not_false_eq_true, ite_true, ite_false, if_true, if_false, reduceIte, eq_self, Bool.false_eq_true, Bool.true_eq_false, Bool.or_false, Bool.or_true, Bool.and_true, Bool.and_false, Bool.true_and, Bool.false_and, Bool.false_or, Bool.true_or, Bool.not_true, Bool.not_false, and_self, beq_self_eq_true, id, implies_true, reduceCtorEq, J0, J1, J2, J3, J6, J7, J8, J9, J10, J11, J12, J13, J14, J15, J16, J19, J20, J21, J22, J23, J24, J25, J26, J27, J28, J29, J30, J31, J32, J33, J34])
  | `(tactic| simp_arith!) => `(tactic| simp -implicitDefEqProofs only [wS_nil, wS_cons, wS_pass, wS_brk, wS_cont, wS_ret, wGive_v, wGive_s, wS_set, wS_setc, wS_drop, wS_for, wS_while, wS_raise, wS_asg, wS_par2, wS_par3, wS_setit, wS_try, wTo_v, wTo_s, wFrz_v, wFrz_s', wFrzs_n, wFrzs_c, wE_nm, wE_int, wE_bl, wE_non, wE_str, wE_gint, wE_tyN, wE_gcls, wE_gfn, wE_bin, wE_neg, wNeg, wE_cmp, wT_cmp, wT_cmp3, wE_cmp3, wT_and1, wE_and1, wT_or1, wE_or1, wT_and2, wT_or2, wT_not, isTr_b, wE_and2, wE_or2, wE_not, wE_ifx, wE_tup, wE_lst, wE_dnew, wE_ix, wE_dget, wT_din, wE_din, wE_sl, ioW_i, pW_n, pW_c, wE_slp, wE_prim, wE_sortSet, wE_lenSet, wE_mmd, wT_nm, wT_bl, wT_call, wT_callX, wT_prim, wT_bin, wT_ix, wA_n, wA_c, wE_call, wCall_n, wCall_0, hd_c, fnW_f, wE_callX, mmW_m, mW_v, mW_s, wE_sitems, atW_d, atomD, wE_callB, wE_meth, oT_s, wE_mut, dctW_d, wE_dget2, wE_comp, wE_lstN, oE_n, oE_c, oE1_d, oE1_l, wT_lend, lent_nil, lent_cons, Option.map_none, dataA, wE_appN, wAppNU, apW_s, nW_n, lW_l, wE_refl, loW_s, evL_s, wI_seq, sqW_l, sqW_t, sqW_s, inW_i, wI_range1, wI_range2, zpW_l, zpW_t, wI_zip, enW_l, enW_t, wI_enum, gW_nm, gW_tup, gW_lst, gsW_n, gsW_c, Wp_ok, WF_ok, WF_exc, get0, getS, nmU_d, nmU_l, nmU_m, nmU_n, fl_d, fl_l, fl_m, sl_s, vw_v, vw_s, vws_n, vws_c, wo_s, wo_if, wo_map, br_t, br_f, br_not, br_id, br_dec, nxt_n, nxt_r, nxt_b, nxt_c, lp_n, lp_c, lp_b, lp_r, exF_r, exF_n, setM_n, setM_c, Pr.sem, Mt.sem, Mt.T, Mu.sem, Mu.T, Mu.bare, binQ, addQ, subQ, mulQ, fdivQ, modQ, powQ, shlQ, bandQ, cmpQ_eq, cmpQ_ne, cmpQ_lt, cmpQ_le, cmpQ_gt, cmpQ_ge, cmpQ_is, cmpQ_isn, cmpQ_in, cmpQ_notin, ltQ_int, eqQ_int, eqQ_bl, Pv.isQ, inQ, Pv.isNon, ixQ, sliceQ, lenQ, isiQ, tyOf, okTy_int, okTy_bool, okTy_tuple, okTy_list, okTy_str, okTy_dict, isiB_lit, bA, intQ, absQ, max2Q, min2Q, tupleQ, listQ, sumQ, allQ, anyQ, sortedQ, reprQ, appendQ, extendQ, reverseQ, popQ, popAtQ, putQ, Pv.keyOf, dgetQ, dinQ, tupV, lstV, boolD, seqOf, tyOk, countQ, indexQ, kOpt, pW_s, wStep, stepQ, ne_eq, blsD_map, all_tt, blsD, intsD, Option.map_some, List.all_cons, List.all_nil, List.any_cons, List.any_nil, ixN20, ixN21, wipeE, keepJ, lenT, at0, at1, okM_lit, okR_lit, List.set_cons_zero, List.set_cons_succ, List.length_cons, List.length_nil, List.length_map, List.length_range, List.map_cons, List.map_nil, List.cons_append, List.nil_append, List.replicate_succ, List.replicate_zero, List.append_nil, List.mem_cons, List.not_mem_nil, List.contains_cons, List.contains_nil, List.isEmpty_cons, List.isEmpty_nil, Nat.reduceAdd, Nat.reduceSub, Nat.reduceLeDiff, Nat.reduceEqDiff, Nat.reduceBEq, Nat.zero_add, Nat.add_zero, Nat.reduceLT, Int.reduceLT, Int.reduceLE, Int.reduceNeg, Int.reduceAdd, Int.reduceSub, Int.reduceEq, Int.reduceNe, Int.reducePow, Int.reduceToNat, Int.reduceAbs, Int.reduceMul, Int.reduceDiv, Int.reduceMod, Nat.reduceMul, Nat.reducePow, Nat.lt_irrefl, Int.zero_add, decide_true, decide_eq_true_eq, decide_false, true_and, and_true, false_and, and_false, or_false, false_or, or_true, true_or, not_true, not_false_eq_true, ite_true, ite_false, if_true, if_false, reduceIte, eq_self, Bool.false_eq_true, Bool.true_eq_false, Bool.or_false, Bool.or_true, Bool.and_true, Bool.and_false, Bool.true_and, Bool.false_and, Bool.false_or, Bool.true_or, Bool.not_true, Bool.not_false, and_self, beq_self_eq_true, id, implies_true, reduceCtorEq, J0, J1, J2, J3, J6, J7, J8, J9, J10, J11, J12, J13, J14, J15, J16, J19, J20, J21, J22, J23, J24, J25, J26, J27, J28, J29, J30, J31, J32, J33, J34])
  | `(tactic| simp_arith! [$ls,*]) => `(tactic| simp -implicitDefEqProofs only [$ls,*, wS_nil, wS_cons, wS_pass, wS_brk, wS_cont, wS_ret, wGive_v, wGive_s, wS_set, wS_setc, wS_drop, wS_for, wS_while, wS_raise, wS_asg, wS_par2, wS_par3, wS_setit, wS_try, wTo_v, wTo_s, wFrz_v, wFrz_s', wFrzs_n, wFrzs_c, wE_nm, wE_int, wE_bl, wE_non, wE_str, wE_gint, wE_tyN, wE_gcls, wE_gfn, wE_bin, wE_neg, wNeg, wE_cmp, wT_cmp, wT_cmp3, wE_cmp3, wT_and1, wE_and1, wT_or1, wE_or1, wT_and2, wT_or2, wT_not, isTr_b, wE_and2, wE_or2, wE_not, wE_ifx, wE_tup, wE_lst, wE_dnew, wE_ix, wE_dget, wT_din, wE_din, wE_sl, ioW_i, pW_n, pW_c, wE_slp, wE_prim, wE_sortSet, wE_lenSet, wE_mmd, wT_nm, wT_bl, wT_call, wT_callX, wT_prim, wT_bin, wT_ix, wA_n, wA_c, wE_call, wCall_n, wCall_0, hd_c, fnW_f, wE_callX, mmW_m, mW_v, mW_s, wE_sitems, atW_d, atomD, wE_callB, wE_meth, oT_s, wE_mut, dctW_d, wE_dget2, wE_comp, wE_lstN, oE_n, oE_c, oE1_d, oE1_l, wT_lend, lent_nil, lent_cons, Option.map_none, dataA, wE_appN, wAppNU, apW_s, nW_n, lW_l, wE_refl, loW_s, evL_s, wI_seq, sqW_l, sqW_t, sqW_s, inW_i, wI_range1, wI_range2, zpW_l, zpW_t, wI_zip, enW_l, enW_t, wI_enum, gW_nm, gW_tup, gW_lst, gsW_n, gsW_c, Wp_ok, WF_ok, WF_exc, get0, getS, nmU_d, nmU_l, nmU_m, nmU_n, fl_d, fl_l, fl_m, sl_s, vw_v, vw_s, vws_n, vws_c, wo_s, wo_if, wo_map, br_t, br_f, br_not, br_id, br_dec, nxt_n, nxt_r, nxt_b, nxt_c, lp_n, lp_c, lp_b, lp_r, exF_r, exF_n, setM_n, setM_c, Pr.sem, Mt.sem, Mt.T, Mu.sem, Mu.T, Mu.bare, binQ, addQ, subQ, mulQ, fdivQ, modQ, powQ, shlQ, bandQ, cmpQ_eq, cmpQ_ne, cmpQ_lt, cmpQ_le, cmpQ_gt, cmpQ_ge, cmpQ_is, cmpQ_isn, cmpQ_in, cmpQ_notin, ltQ_int, eqQ_int, eqQ_bl, Pv.isQ, inQ, Pv.isNon, ixQ, sliceQ, lenQ, isiQ, tyOf, okTy_int, okTy_bool, okTy_tuple, okTy_list, okTy_str, okTy_dict, isiB_lit, bA, intQ, absQ, max2Q, min2Q, tupleQ, listQ, sumQ, allQ, anyQ, sortedQ, reprQ, appendQ, extendQ, reverseQ, popQ, popAtQ, putQ, Pv.keyOf, dgetQ, dinQ, tupV, lstV, boolD, seqOf, tyOk, countQ, indexQ, kOpt, pW_s, wStep, stepQ, ne_eq, blsD_map, all_tt, blsD, intsD, Option.map_some, List.all_cons, List.all_nil, List.any_cons, List.any_nil, ixN20, ixN21, wipeE, keepJ, lenT, at0, at1, okM_lit, okR_lit, List.set_cons_zero, List.set_cons_succ, List.length_cons, List.length_nil, List.length_map, List.length_range, List.map_cons, List.map_nil, List.cons_append, List.nil_append, List.replicate_succ, List.replicate_zero, List.append_nil, List.mem_cons, List.not_mem_nil, List.contains_cons, List.contains_nil, List.isEmpty_cons, List.isEmpty_nil, Nat.reduceAdd, Nat.reduceSub, Nat.reduceLeDiff, Nat.reduceEqDiff, Nat.reduceBEq, Nat.zero_add, Nat.add_zero, Nat.reduceLT, Int.reduceLT, Int.reduceLE, Int.reduceNeg, Int.reduceAdd, Int.reduceSub, Int.reduceEq, Int.reduceNe, Int.reducePow, Int.reduceToNat, Int.reduceAbs, Int.reduceMul, Int.reduceDiv, Int.reduceMod, Nat.reduceMul, Nat.reducePow, Nat.lt_irrefl, Int.zero_add, decide_true, decide_eq_true_eq, decide_false, true_and, and_true, false_and, and_false, or_false, false_or, or_true, true_or, not_true, not_false_eq_true, ite_true, ite_false, if_true, if_false, reduceIte, eq_self, Bool.false_eq_true, Bool.true_eq_false, Bool.or_false, Bool.or_true, Bool.and_true, Bool.and_false, Bool.true_and, Bool.false_and, Bool.false_or, Bool.true_or, Bool.not_true, Bool.not_false, and_self, beq_self_eq_true, id, implies_true, reduceCtorEq, J0, J1, J2, J3, J6, J7, J8, J9, J10, J11, J12, J13, J14, J15, J16, J19, J20, J21, J22, J23, J24, J25, J26, J27, J28, J29, J30, J31, J32, J33, J34])

section
variable {Q : A → List (Option A) → Prop} {E : X1 → List (Option A) → Prop}
theorem lot_ok_map {L : List (Int × Int)} (hL : LotOk L) (g : Int × Int → Int × Int) (hb : ∀ p ∈ L, bdP (g p)) : LotOk (lotOf (L.map g)) :=
  lotOf_ok (by simpa using hL.ne) (by rw [List.length_map]; exact hL.len) fun p hp => by
    obtain ⟨q, hq, rfl⟩ := List.mem_map.mp hp
    exact hb q hq
theorem bd_trn {p : Int × Int} (h : bdP p) : bdP (trn p) := by simp only [bdP, trn] at *; omega
theorem bd_mir {p : Int × Int} (h : bdP p) : bdP (mir p) := by simp only [bdP, mir] at *; omega
theorem tab_fst (fs : List Int) : (tab fs).map (·.1) = usort ltI fs := by
  unfold tab
  rw [List.map_map]
  exact (List.map_congr_left fun d _ => rfl).trans (List.map_id _)
theorem tab_pos {fs : List Int} : ∀ p ∈ tab fs, 1 ≤ p.2 := fun p hp => by
  obtain ⟨d, hd, rfl⟩ := List.mem_map.mp hp
  have := List.count_pos_iff.mpr ((mem_usort linI d fs).mp hd)
  simp only
  omega
theorem half (n : Nat) (m : Nat) (h : 2 * m = n * (n - 1)) : (n : Int) * ((n : Int) - 1) / 2 = m := by
  cases n with
  | zero =>
    obtain rfl : m = 0 := by simp at h; omega
    rfl
  | succ n =>
    have : ((n + 1 : Nat) : Int) * (((n + 1 : Nat) : Int) - 1) = 2 * (m : Int) := by
      have h2 : ((n + 1) * n : Nat) = 2 * m := by rw [h]; simp
      have : (((n + 1) * n : Nat) : Int) = ((2 * m : Nat) : Int) := by rw [h2]
      simp only [Int.natCast_mul, Int.natCast_add] at this
      have e : ((n + 1 : Nat) : Int) - 1 = (n : Int) := by omega
      rw [e]
      simpa using this
    rw [this]
    omega
theorem less_ok {L : List (Int × Int)} (hL : LotOk L) (c : Int × Int → Bool) (h : L.filter c ≠ []) : LotOk (L.filter c) :=
  ⟨h, Nat.le_trans (List.length_filter_le _ _) hL.len, fun p hp => hL.bd p (List.mem_filter.mp hp).1, hL.ris.filter _⟩
set_option maxHeartbeats 2000000 in
end
end Lk

namespace Lk
open PySem PySem.Spec PyProof.Rows L2 Pv
open Pv0 (no get setM)
variable {sub : Nat → Nat → Bool} {res : Nat → Option Str}
local macro_rules
  | `(tactic| simp_arith) => `(tactic| simp -implicitDefEqProofs only [wS_nil, wS_cons, wS_pass, wS_brk, wS_cont, wS_ret, wGive_v, wGive_s, wS_set, wS_setc, wS_drop, wS_ite, wS_for, wS_while, wS_raise, wS_asg, wS_par2, wS_par3, wS_setit, wS_try, wTo_v, wTo_s, wFrz_v, wFrz_s', wFrzs_n, wFrzs_c, wE_nm, wE_int, wE_bl, wE_non, wE_str, wE_gint, wE_tyN, wE_gcls, wE_gfn, wE_bin, wE_neg, wNeg, wE_cmp, wT_cmp, wT_cmp3, wE_cmp3, wT_and1, wE_and1, wT_or1, wE_or1, wT_and2, wT_or2, wT_not, isTr_b, wE_and2, wE_or2, wE_not, wE_ifx, wE_tup, wE_lst, wE_dnew, wE_ix, wE_dget, wT_din, wE_din, wE_sl, ioW_i, pW_n, pW_c, wE_slp, wE_prim, wE_sortSet, wE_lenSet, wE_mmd, wT_nm, wT_bl, wT_call, wT_callX, wT_prim, wT_bin, wT_ix, wA_n, wA_c, wE_call, wCall_n, wCall_0, hd_c, fnW_f, wE_callX, mmW_m, mW_v, mW_s, wE_sitems, atW_d, atomD, wE_callB, wE_meth, oT_s, wE_mut, dctW_d, wE_dget2, wE_comp, wE_lstN, oE_n, oE_c, oE1_d, oE1_l, wT_lend, lent_nil, lent_cons, Option.map_none, dataA, wE_appN, wAppNU, apW_s, nW_n, lW_l, wE_refl, loW_s, evL_s, wI_seq, sqW_l, sqW_t, sqW_s, inW_i, wI_range1, wI_range2, zpW_l, zpW_t, wI_zip, enW_l, enW_t, wI_enum, gW_nm, gW_tup, gW_lst, gsW_n, gsW_c, Wp_ok, WF_ok, WF_exc, get0, getS, nmU_d, nmU_l, nmU_m, nmU_n, fl_d, fl_l, fl_m, sl_s, vw_v, vw_s, vws_n, vws_c, wo_s, wo_if, wo_map, br_t, br_f, br_not, br_id, br_dec, nxt_n, nxt_r, nxt_b, nxt_c, lp_n, lp_c, lp_b, lp_r, exF_r, exF_n, setM_n, setM_c, Pr.sem, Mt.sem, Mt.T, Mu.sem, Mu.T, Mu.bare, binQ, addQ, subQ, mulQ, fdivQ, modQ, powQ, shlQ, bandQ, cmpQ_eq, cmpQ_ne, cmpQ_lt, cmpQ_le, cmpQ_gt, cmpQ_ge, cmpQ_is, cmpQ_isn, cmpQ_in, cmpQ_notin, ltQ_int, eqQ_int, eqQ_bl, Pv.isQ, inQ, Pv.isNon, ixQ, sliceQ, lenQ, isiQ, tyOf, okTy_int, okTy_bool, okTy_tuple, okTy_list, okTy_str, okTy_dict, isiB_lit, bA, intQ, absQ, max2Q, min2Q, tupleQ, listQ, sumQ, allQ, anyQ, sortedQ, reprQ, appendQ, extendQ, reverseQ, popQ, popAtQ, putQ, Pv.keyOf, dgetQ, dinQ, tupV, lstV, boolD, seqOf, tyOk, countQ, indexQ, kOpt, pW_s, wStep, stepQ, ne_eq, blsD_map, all_tt, blsD, intsD, Option.map_some, List.all_cons, List.all_nil, List.any_cons, List.any_nil, ixN20, ixN21, wipeE, keepJ, lenT, at0, at1, okM_lit, okR_lit, List.set_cons_zero, List.set_cons_succ, List.length_cons, List.length_nil, List.length_map, List.length_range, List.map_cons, List.map_nil, List.cons_append, List.nil_append, List.replicate_succ, List.replicate_zero, List.append_nil, List.mem_cons, List.not_mem_nil, List.contains_cons, List.contains_nil, List.isEmpty_cons, List.isEmpty_nil, Nat.reduceAdd, Nat.reduceSub, Nat.reduceLeDiff, Nat.reduceEqDiff, Nat.reduceBEq, Nat.zero_add, Nat.add_zero, Nat.reduceLT, Int.reduceLT, Int.reduceLE, Int.reduceNeg, Int.reduceAdd, Int.reduceSub, Int.reduceEq, Int.reduceNe, Int.reducePow, Int.reduceToNat, Int.reduceAbs, Int.reduceMul, Int.reduceDiv, Int.reduceMod, Nat.reduceMul, Nat.reducePow, Nat.lt_irrefl, Int.zero_add, decide_true, decide_eq_true_eq, decide_false, true_and, and_true, false_and, and_false, or_false, false_or, or_true, true_or, not_true, not_false_eq_true, ite_true, ite_false, if_true, if_false, reduceIte, eq_self, Bool.false_eq_true, Bool.true_eq_false, Bool.or_false, Bool.or_true, Bool.and_true, Bool.and_false, Bool.true_and, Bool.false_and, Bool.false_or, Bool.true_or, Bool.not_true, Bool.not_false, and_self, beq_self_eq_true, id, implies_true, reduceCtorEq, J0, J1, J2, J3, J6, J7, J8, J9, J10, J11, J12, J13, J14, J15, J16, J19, J20, J21, J22, J23, J24, J25, J26, J27, J28, J29, J30, J31, J32, J33, J34])
  | `(tactic| simp_arith [$ls,*]) => `(tactic| simp -implicitDefEqProofs only [$ls,*, wS_nil, wS_cons, wS_pass, wS_brk, wS_cont, wS_ret, wGive_v, wGive_s, wS_set, wS_setc, wS_drop, wS_ite, wS_for, wS_while, wS_raise, wS_asg, wS_par2, wS_par3, wS_setit, wS_try, wTo_v, wTo_s, wFrz_v, wFrz_s', wFrzs_n, wFrzs_c, wE_nm, wE_int, wE_bl, wE_non, wE_str, wE_gint, wE_tyN, wE_gcls, wE_gfn, wE_bin, wE_neg, wNeg, wE_cmp, wT_cmp, wT_cmp3, wE_cmp3, wT_and1, wE_and1, wT_or1, wE_or1, wT_and2, wT_or2, wT_not, isTr_b, wE_and2, wE_or2, wE_not, wE_ifx, wE_tup, wE_lst, wE_dnew, wE_ix, wE_dget, wT_din, wE_din, wE_sl, ioW_i, pW_n, pW_c, wE_slp, wE_prim, wE_sortSet, wE_lenSet, wE_mmd, wT_nm, wT_bl, wT_call, wT_callX, wT_prim, wT_bin, wT_ix, wA_n, wA_c, wE_call, wCall_n, wCall_0, hd_c, fnW_f, wE_callX, mmW_m, mW_v, mW_s, wE_sitems, atW_d, atomD, wE_callB, wE_meth, oT_s, wE_mut, dctW_d, wE_dget2, wE_comp, wE_lstN, oE_n, oE_c, oE1_d, oE1_l, wT_lend, lent_nil, lent_cons, Option.map_none, dataA, wE_appN, wAppNU, apW_s, nW_n, lW_l, wE_refl, loW_s, evL_s, wI_seq, sqW_l, sqW_t, sqW_s, inW_i, wI_range1, wI_range2, zpW_l, zpW_t, wI_zip, enW_l, enW_t, wI_enum, gW_nm, gW_tup, gW_lst, gsW_n, gsW_c, Wp_ok, WF_ok, WF_exc, get0, getS, nmU_d, nmU_l, nmU_m, nmU_n, fl_d, fl_l, fl_m, sl_s, vw_v, vw_s, vws_n, vws_c, wo_s, wo_if, wo_map, br_t, br_f, br_not, br_id, br_dec, nxt_n, nxt_r, nxt_b, nxt_c, lp_n, lp_c, lp_b, lp_r, exF_r, exF_n, setM_n, setM_c, Pr.sem, Mt.sem, Mt.T, Mu.sem, Mu.T, Mu.bare, binQ, addQ, subQ, mulQ, fdivQ, modQ, powQ, shlQ, bandQ, cmpQ_eq, cmpQ_ne, cmpQ_lt, cmpQ_le, cmpQ_gt, cmpQ_ge, cmpQ_is, cmpQ_isn, cmpQ_in, cmpQ_notin, ltQ_int, eqQ_int, eqQ_bl, Pv.isQ, inQ, Pv.isNon, ixQ, sliceQ, lenQ, isiQ, tyOf, okTy_int, okTy_bool, okTy_tuple, okTy_list, okTy_str, okTy_dict, isiB_lit, bA, intQ, absQ, max2Q, min2Q, tupleQ, listQ, sumQ, allQ, anyQ, sortedQ, reprQ, appendQ, extendQ, reverseQ, popQ, popAtQ, putQ, Pv.keyOf, dgetQ, dinQ, tupV, lstV, boolD, seqOf, tyOk, countQ, indexQ, kOpt, pW_s, wStep, stepQ, ne_eq, blsD_map, all_tt, blsD, intsD, Option.map_some, List.all_cons, List.all_nil, List.any_cons, List.any_nil, ixN20, ixN21, wipeE, keepJ, lenT, at0, at1, okM_lit, okR_lit, List.set_cons_zero, List.set_cons_succ, List.length_cons, List.length_nil, List.length_map, List.length_range, List.map_cons, List.map_nil, List.cons_append, List.nil_append, List.replicate_succ, List.replicate_zero, List.append_nil, List.mem_cons, List.not_mem_nil, List.contains_cons, List.contains_nil, List.isEmpty_cons, List.isEmpty_nil, Nat.reduceAdd, Nat.reduceSub, Nat.reduceLeDiff, Nat.reduceEqDiff, Nat.reduceBEq, Nat.zero_add, Nat.add_zero, Nat.reduceLT, Int.reduceLT, Int.reduceLE, Int.reduceNeg, Int.reduceAdd, Int.reduceSub, Int.reduceEq, Int.reduceNe, Int.reducePow, Int.reduceToNat, Int.reduceAbs, Int.reduceMul, Int.reduceDiv, Int.reduceMod, Nat.reduceMul, Nat.reducePow, Nat.lt_irrefl, Int.zero_add, decide_true, decide_eq_true_eq, decide_false, true_and, and_true, false_and, and_false, or_false, false_or, or_true, true_or, not_true, not_false_eq_true, ite_true, ite_false, if_true, if_false, reduceIte, eq_self, Bool.false_eq_true, Bool.true_eq_false, Bool.or_false, Bool.or_true, Bool.and_true, Bool.and_false, Bool.true_and, Bool.false_and, Bool.false_or, Bool.true_or, Bool.not_true, Bool.not_false, and_self, beq_self_eq_true, id, implies_true, reduceCtorEq, J0, J1, J2, J3, J6, J7, J8, J9, J10, J11, J12, J13, J14, J15, J16, J19, J20, J21, J22, J23, J24, J25, J26, J27, J28, J29, J30, J31, J32, J33, J34])
  | `(tactic| simp_arith!) => `(tactic| simp -implicitDefEqProofs only [wS_nil, wS_cons, wS_pass, wS_brk, wS_cont, wS_ret, wGive_v, wGive_s, wS_set, wS_setc, wS_drop, wS_for, wS_while, wS_raise, wS_asg, wS_par2, wS_par3, wS_setit, wS_try, wTo_v, wTo_s, wFrz_v, wFrz_s', wFrzs_n, wFrzs_c, wE_nm, wE_int, wE_bl, wE_non, wE_str, wE_gint, wE_tyN, wE_gcls, wE_gfn, wE_bin, wE_neg, wNeg, wE_cmp, wT_cmp, wT_cmp3, wE_cmp3, wT_and1, wE_and1, wT_or1, wE_or1, wT_and2, wT_or2, wT_not, isTr_b, wE_and2, wE_or2, wE_not, wE_ifx, wE_tup, wE_lst, wE_dnew, wE_ix, wE_dget, wT_din, wE_din, wE_sl, ioW_i, pW_n, pW_c, wE_slp, wE_prim, wE_sortSet, wE_lenSet, wE_mmd, wT_nm, wT_bl, wT_call, wT_callX, wT_prim, wT_bin, wT_ix, wA_n, wA_c, wE_call, wCall_n, wCall_0, hd_c, fnW_f, wE_callX, mmW_m, mW_v, mW_s, wE_sitems, atW_d, atomD, wE_callB, wE_meth, oT_s, wE_mut, dctW_d, wE_dget2, wE_comp, wE_lstN, oE_n, oE_c, oE1_d, oE1_l, wT_lend, lent_nil, lent_cons, Option.map_none, dataA, wE_appN, wAppNU, apW_s, nW_n, lW_l, wE_refl, loW_s, evL_s, wI_seq, sqW_l, sqW_t, sqW_s, inW_i, wI_range1, wI_range2, zpW_l, zpW_t, wI_zip, enW_l, enW_t, wI_enum, gW_nm, gW_tup, gW_lst, gsW_n, gsW_c, Wp_ok, WF_ok, WF_exc, get0, getS, nmU_d, nmU_l, nmU_m, nmU_n, fl_d, fl_l, fl_m, sl_s, vw_v, vw_s, vws_n, vws_c, wo_s, wo_if, wo_map, br_t, br_f, br_not, br_id, br_dec, nxt_n, nxt_r, nxt_b, nxt_c, lp_n, lp_c, lp_b, lp_r, exF_r, exF_n, setM_n, setM_c, Pr.sem, Mt.sem, Mt.T, Mu.sem, Mu.T, Mu.bare, binQ, addQ, subQ, mulQ, fdivQ, modQ, powQ, shlQ, bandQ, cmpQ_eq, cmpQ_ne, cmpQ_lt, cmpQ_le, cmpQ_gt, cmpQ_ge, cmpQ_is, cmpQ_isn, cmpQ_in, cmpQ_notin, ltQ_int, eqQ_int, eqQ_bl, Pv.isQ, inQ, Pv.isNon, ixQ, sliceQ, lenQ, isiQ, tyOf, okTy_int, okTy_bool, okTy_tuple, okTy_list, okTy_str, okTy_dict, isiB_lit, bA, intQ, absQ, max2Q, min2Q, tupleQ, listQ, sumQ, allQ, anyQ, sortedQ, reprQ, appendQ, extendQ, reverseQ, popQ, popAtQ, putQ, Pv.keyOf, dgetQ, dinQ, tupV, lstV, boolD, seqOf, tyOk, countQ, indexQ, kOpt, pW_s, wStep, stepQ, ne_eq, blsD_map, all_tt, blsD, intsD, Option.map_some, List.all_cons, List.all_nil, List.any_cons, List.any_nil, ixN20, ixN21, wipeE, keepJ, lenT, at0, at1, okM_lit, okR_lit, List.set_cons_zero, List.set_cons_succ, List.length_cons, List.length_nil, List.length_map, List.length_range, List.map_cons, List.map_nil, List.cons_append, List.nil_append, List.replicate_succ, List.replicate_zero, List.append_nil, List.mem_cons, List.not_mem_nil, List.contains_cons, List.contains_nil, List.isEmpty_cons, List.isEmpty_nil, Nat.reduceAdd, Nat.reduceSub, Nat.reduceLeDiff, Nat.reduceEqDiff, Nat.reduceBEq, Nat.zero_add, Nat.add_zero, Nat.reduceLT, Int.reduceLT, Int.reduceLE, Int.reduceNeg, Int.reduceAdd, Int.reduceSub, Int.reduceEq, Int.reduceNe, Int.reducePow, Int.reduceToNat, Int.reduceAbs, Int.reduceMul, Int.reduceDiv, Int.reduceMod, Nat.reduceMul, Nat.reducePow, Nat.lt_irrefl, Int.zero_add, decide_true, decide_eq_true_eq, decide_false, true_and, and_true, false_and, and_false, or_false, false_or, or_true, true_or, not_true, not_false_eq_true, ite_true, ite_false, if_true, if_false, reduceIte, eq_self, Bool.false_eq_true, Bool.true_eq_false, Bool.or_false, Bool.or_true, Bool.and_true, Bool.and_false, Bool.true_and, Bool.false_and, Bool.false_or, Bool.true_or, Bool.not_true, Bool.not_false, and_self, beq_self_eq_true, id, implies_true, reduceCtorEq, J0, J1, J2, J3, J6, J7, J8, J9, J10, J11, J12, J13, J14, J15, J16, J19, J20, J21, J22, J23, J24, J25, J26, J27, J28, J29, J30, J31, J32, J33, J34])
  | `(tactic| simp_arith! [$ls,*]) => `(tactic| simp -implicitDefEqProofs only [$ls,*, wS_nil, wS_cons, wS_pass, wS_brk, wS_cont, wS_ret, wGive_v, wGive_s, wS_set, wS_setc, wS_drop, wS_for, wS_while, wS_raise, wS_asg, wS_par2, wS_par3, wS_setit, wS_try, wTo_v, wTo_s, wFrz_v, wFrz_s', wFrzs_n, wFrzs_c, wE_nm, wE_int, wE_bl, wE_non, wE_str, wE_gint, wE_tyN, wE_gcls, wE_gfn, wE_bin, wE_neg, wNeg, wE_cmp, wT_cmp, wT_cmp3, wE_cmp3, wT_and1, wE_and1, wT_or1, wE_or1, wT_and2, wT_or2, wT_not, isTr_b, wE_and2, wE_or2, wE_not, wE_ifx, wE_tup, wE_lst, wE_dnew, wE_ix, wE_dget, wT_din, wE_din, wE_sl, ioW_i, pW_n, pW_c, wE_slp, wE_prim, wE_sortSet, wE_lenSet, wE_mmd, wT_nm, wT_bl, wT_call, wT_callX, wT_prim, wT_bin, wT_ix, wA_n, wA_c, wE_call, wCall_n, wCall_0, hd_c, fnW_f, wE_callX, mmW_m, mW_v, mW_s, wE_sitems, atW_d, atomD, wE_callB, wE_meth, oT_s, wE_mut, dctW_d, wE_dget2, wE_comp, wE_lstN, oE_n, oE_c, oE1_d, oE1_l, wT_lend, lent_nil, lent_cons, Option.map_none, dataA, wE_appN, wAppNU, apW_s, nW_n, lW_l, wE_refl, loW_s, evL_s, wI_seq, sqW_l, sqW_t, sqW_s, inW_i, wI_range1, wI_range2, zpW_l, zpW_t, wI_zip, enW_l, enW_t, wI_enum, gW_nm, gW_tup, gW_lst, gsW_n, gsW_c, Wp_ok, WF_ok, WF_exc, get0, getS, nmU_d, nmU_l, nmU_m, nmU_n, fl_d, fl_l, fl_m, sl_s, vw_v, vw_s, vws_n, vws_c, wo_s, wo_if, wo_map, br_t, br_f, br_not, br_id, br_dec, nxt_n, nxt_r, nxt_b, nxt_c, lp_n, lp_c, lp_b, lp_r, exF_r, exF_n, setM_n, setM_c, Pr.sem, Mt.sem, Mt.T, Mu.sem, Mu.T, Mu.bare, binQ, addQ, subQ, mulQ, fdivQ, modQ, powQ, shlQ, bandQ, cmpQ_eq, cmpQ_ne, cmpQ_lt, cmpQ_le, cmpQ_gt, cmpQ_ge, cmpQ_is, cmpQ_isn, cmpQ_in, cmpQ_notin, ltQ_int, eqQ_int, eqQ_bl, Pv.isQ, inQ, Pv.isNon, ixQ, sliceQ, lenQ, isiQ, tyOf, okTy_int, okTy_bool, okTy_tuple, okTy_list, okTy_str, okTy_dict, isiB_lit, bA, intQ, absQ, max2Q, min2Q, tupleQ, listQ, sumQ, allQ, anyQ, sortedQ, reprQ, appendQ, extendQ, reverseQ, popQ, popAtQ, putQ, Pv.keyOf, dgetQ, dinQ, tupV, lstV, boolD, seqOf, tyOk, countQ, indexQ, kOpt, pW_s, wStep, stepQ, ne_eq, blsD_map, all_tt, blsD, intsD, Option.map_some, List.all_cons, List.all_nil, List.any_cons, List.any_nil, ixN20, ixN21, wipeE, keepJ, lenT, at0, at1, okM_lit, okR_lit, List.set_cons_zero, List.set_cons_succ, List.length_cons, List.length_nil, List.length_map, List.length_range, List.map_cons, List.map_nil, List.cons_append, List.nil_append, List.replicate_succ, List.replicate_zero, List.append_nil, List.mem_cons, List.not_mem_nil, List.contains_cons, List.contains_nil, List.isEmpty_cons, List.isEmpty_nil, Nat.reduceAdd, Nat.reduceSub, Nat.reduceLeDiff, Nat.reduceEqDiff, Nat.reduceBEq, Nat.zero_add, Nat.add_zero, Nat.reduceLT, Int.reduceLT, Int.reduceLE, Int.reduceNeg, Int.reduceAdd, Int.reduceSub, Int.reduceEq, Int.reduceNe, Int.reducePow, Int.reduceToNat, Int.reduceAbs, Int.reduceMul, Int.reduceDiv, Int.reduceMod, Nat.reduceMul, Nat.reducePow, Nat.lt_irrefl, Int.zero_add, decide_true, decide_eq_true_eq, decide_false, true_and, and_true, false_and, and_false, or_false, false_or, or_true, true_or, not_true, not_false_eq_true, ite_true, ite_false, if_true, if_false, reduceIte, eq_self, Bool.false_eq_true, Bool.true_eq_false, Bool.or_false, Bool.or_true, Bool.and_true, Bool.and_false, Bool.true_and, Bool.false_and, Bool.false_or, Bool.true_or, Bool.not_true, Bool.not_false, and_self, beq_self_eq_true, id, implies_true, reduceCtorEq, J0, J1, J2, J3, J6, J7, J8, J9, J10, J11, J12, J13, J14, J15, J16, J19, J20, J21, J22, J23, J24, J25, J26, J27, J28, J29, J30, J31, J32, J33, J34])

theorem cut_one {α : Type} {L : List α} (h : L ≠ []) : ∃ z ∈ L, cut L none (some 1) = [z] := by
  cases L with
  | nil => exact absurd rfl h
  | cons z L => exact ⟨z, List.mem_cons_self .., by rw [show (1 : Int) = ((1 : Nat) : Int) from rfl, cut_take]; rfl⟩
theorem cut_last {α : Type} {L : List α} (h : L ≠ []) : ∃ z ∈ L, cut L (some (-1)) none = [z] := by
  refine ⟨L.getLast h, List.getLast_mem h, ?_⟩
  have hl : 0 < L.length := List.length_pos_iff.mpr h
  have e : HT.sIx L.length 0 (some (-1)) = L.length - 1 := by
    simp only [HT.sIx]
    split <;> omega
  have e2 : HT.sIx L.length L.length none = L.length := rfl
  unfold cut
  rw [e, e2, show L.length - (L.length - 1) = 1 by omega]
  obtain ⟨pre, z, rfl⟩ : ∃ pre z, L = pre ++ [z] := ⟨L.dropLast, L.getLast h, (List.dropLast_concat_getLast h).symm⟩
  simp
theorem lot_one {L : List (Int × Int)} (hL : LotOk L) {z : Int × Int} (h : z ∈ L) : LotOk [z] := ⟨by simp, by simp, fun p hp => by rw [List.mem_singleton.mp hp]; exact hL.bd z h, by simp⟩
section
variable {Q : A → List (Option A) → Prop} {E : X1 → List (Option A) → Prop}
theorem fars_no (k : Nat) {d : D} (h1 : okTh d = true) (h2 : lotB d = false) (h : E ⟨2, []⟩ [none]) : WF (evCall defs sub res (k+6) 25 [.d d]) Q E := by
  refine WF_call D25 rfl ?_
  delta d25
  simp_arith
  refine must_lot_no k h1 h2 ?_
  simp_arith
  exact h
theorem far_table_no (k : Nat) {d : D} (h1 : okTh d = true) (h2 : lotB d = false) (h : E ⟨2, []⟩ [none]) : WF (evCall defs sub res (k+6) 27 [.d d]) Q E := by
  refine WF_call D27 rfl ?_
  delta d27
  simp_arith
  refine must_lot_no k h1 h2 ?_
  simp_arith
  exact h
theorem far_of_no (k : Nat) {a b : D} (h : (okTh a = true ∧ ptB a = false) ∨ (∃ p, a = ptD p ∧ bdP p) ∧ okTh b = true ∧ ptB b = false) (he : E ⟨1, []⟩ [none, none]) : WF (evCall defs sub res (k+5) 22 [.d a, .d b]) Q E := by
  refine WF_call D22 rfl ?_
  delta d22
  simp_arith
  rcases h with ⟨h1, h2⟩ | ⟨⟨p, rfl, hp⟩, h1, h2⟩
  · refine must_point_no k h1 h2 ?_
    simp_arith
    exact he
  · refine must_point_wf k hp ?_
    simp_arith
    refine must_point_no k h1 h2 ?_
    simp_arith
    exact he
theorem came_f1 (k : Nat) {L : List (Int × Int)} (hL : LotOk L) (x : D) (h : Q (.l ((frs L).map .int)) [none, none, none]) : WF (evCall defs sub res (k+7) 33 [.d (.int 1), .d (lotD L), .d x]) Q E := by
  refine WF_call D33 rfl ?_
  delta d33
  simp_arith
  refine fars_wf k hL ?_
  simp_arith
  exact h
theorem came_f2 (k : Nat) {L : List (Int × Int)} (hL : LotOk L) (x : D) (h : Q (.l ((tab (prs L)).map ptD)) [none, none, none]) : WF (evCall defs sub res (k+7) 33 [.d (.int 2), .d (lotD L), .d x]) Q E := by
  refine WF_call D33 rfl ?_
  delta d33
  simp_arith
  refine far_table_wf k hL ?_
  simp_arith
  exact h
theorem came_f0 (k : Nat) {p q : Int × Int} (hp : bdP p) (hq : bdP q) (h : Q (.d (.int (far p q))) [none, none, none]) : WF (evCall defs sub res (k+7) 33 [.d (.int 0), .d (ptD p), .d (ptD q)]) Q E := by
  refine WF_call D33 rfl ?_
  delta d33
  simp_arith
  refine far_of_wf (k+1) hp hq ?_
  simp_arith
  exact h
theorem came_n1 (h2 : res 2 = some (Str.ofString "lot")) (k : Nat) {d : D} (g1 : okTh d = true) (g2 : lotB d = false) (x : D) (h : Q (.d (.str "lot")) [none, none, none]) : WF (evCall defs sub res (k+7) 33 [.d (.int 1), .d d, .d x]) Q E := by
  refine WF_call D33 rfl ?_
  delta d33
  simp_arith
  refine fars_no k g1 g2 ?_
  simp_arith [h2]
  exact h
theorem came_n2 (h2 : res 2 = some (Str.ofString "lot")) (k : Nat) {d : D} (g1 : okTh d = true) (g2 : lotB d = false) (x : D) (h : Q (.d (.str "lot")) [none, none, none]) : WF (evCall defs sub res (k+7) 33 [.d (.int 2), .d d, .d x]) Q E := by
  refine WF_call D33 rfl ?_
  delta d33
  simp_arith
  refine far_table_no k g1 g2 ?_
  simp_arith [h2]
  exact h
theorem came_n0 (h1 : res 1 = some (Str.ofString "point")) (k : Nat) {a b : D} (g : (okTh a = true ∧ ptB a = false) ∨ (∃ p, a = ptD p ∧ bdP p) ∧ okTh b = true ∧ ptB b = false) (h : Q (.d (.str "point")) [none, none, none]) : WF (evCall defs sub res (k+7) 33 [.d (.int 0), .d a, .d b]) Q E := by
  refine WF_call D33 rfl ?_
  delta d33
  simp_arith
  refine far_of_no (k+1) g ?_
  simp_arith [h1]
  exact h
theorem no_point12 (k : Nat) (p f x y : Int) (h : ∀ d p', okTh d = true → ptB d = false → Q (.d d) [some (penA p' f), none]) : WF (evCall defs sub res (k+2) 15 [penA p f, .d (ptD (x, y))]) Q E := by
  obtain ⟨d, p', h1, h2, e⟩ := no_point_ok (sub := sub) (res := res) k p f x y
  rw [cl] at e
  rw [e, WF_ok]
  exact h d p' h1 h2
theorem no_lot12 (k : Nat) (p f : Int) {L : List (Int × Int)} (hL : LotOk L) (h : ∀ d p', okTh d = true → lotB d = false → Q (.d d) [some (penA p' f), none]) : WF (evCall defs sub res (k+4) 16 [penA p f, .d (lotD L)]) Q E := by
  obtain ⟨d, p', h1, h2, e⟩ := no_lot_ok (sub := sub) (res := res) k p f hL
  rw [cl] at e
  rw [e, WF_ok]
  exact h d p' h1 h2
end
end Lk

namespace Lk
open PySem PySem.Spec PyProof.Rows L2 Pv
open Pv0 (no get setM)
variable {sub : Nat → Nat → Bool} {res : Nat → Option Str}
local macro_rules
  | `(tactic| simp_arith) => `(tactic| simp -implicitDefEqProofs only [wS_nil, wS_cons, wS_pass, wS_brk, wS_cont, wS_ret, wGive_v, wGive_s, wS_set, wS_setc, wS_drop, wS_ite, wS_for, wS_while, wS_raise, wS_asg, wS_par2, wS_par3, wS_setit, wS_try, wTo_v, wTo_s, wFrz_v, wFrz_s', wFrzs_n, wFrzs_c, wE_nm, wE_int, wE_bl, wE_non, wE_str, wE_gint, wE_tyN, wE_gcls, wE_gfn, wE_bin, wE_neg, wNeg, wE_cmp, wT_cmp, wT_cmp3, wE_cmp3, wT_and1, wE_and1, wT_or1, wE_or1, wT_and2, wT_or2, wT_not, isTr_b, wE_and2, wE_or2, wE_not, wE_ifx, wE_tup, wE_lst, wE_dnew, wE_ix, wE_dget, wT_din, wE_din, wE_sl, ioW_i, pW_n, pW_c, wE_slp, wE_prim, wE_sortSet, wE_lenSet, wE_mmd, wT_nm, wT_bl, wT_call, wT_callX, wT_prim, wT_bin, wT_ix, wA_n, wA_c, wE_call, wCall_n, wCall_0, hd_c, fnW_f, wE_callX, mmW_m, mW_v, mW_s, wE_sitems, atW_d, atomD, wE_callB, wE_meth, oT_s, wE_mut, dctW_d, wE_dget2, wE_comp, wE_lstN, oE_n, oE_c, oE1_d, oE1_l, wT_lend, lent_nil, lent_cons, Option.map_none, dataA, wE_appN, wAppNU, apW_s, nW_n, lW_l, wE_refl, loW_s, evL_s, wI_seq, sqW_l, sqW_t, sqW_s, inW_i, wI_range1, wI_range2, zpW_l, zpW_t, wI_zip, enW_l, enW_t, wI_enum, gW_nm, gW_tup, gW_lst, gsW_n, gsW_c, Wp_ok, WF_ok, WF_exc, get0, getS, nmU_d, nmU_l, nmU_m, nmU_n, fl_d, fl_l, fl_m, sl_s, vw_v, vw_s, vws_n, vws_c, wo_s, wo_if, wo_map, br_t, br_f, br_not, br_id, br_dec, nxt_n, nxt_r, nxt_b, nxt_c, lp_n, lp_c, lp_b, lp_r, exF_r, exF_n, setM_n, setM_c, Pr.sem, Mt.sem, Mt.T, Mu.sem, Mu.T, Mu.bare, binQ, addQ, subQ, mulQ, fdivQ, modQ, powQ, shlQ, bandQ, cmpQ_eq, cmpQ_ne, cmpQ_lt, cmpQ_le, cmpQ_gt, cmpQ_ge, cmpQ_is, cmpQ_isn, cmpQ_in, cmpQ_notin, ltQ_int, eqQ_int, eqQ_bl, Pv.isQ, inQ, Pv.isNon, ixQ, sliceQ, lenQ, isiQ, tyOf, okTy_int, okTy_bool, okTy_tuple, okTy_list, okTy_str, okTy_dict, isiB_lit, bA, intQ, absQ, max2Q, min2Q, tupleQ, listQ, sumQ, allQ, anyQ, sortedQ, reprQ, appendQ, extendQ, reverseQ, popQ, popAtQ, putQ, Pv.keyOf, dgetQ, dinQ, tupV, lstV, boolD, seqOf, tyOk, countQ, indexQ, kOpt, pW_s, wStep, stepQ, ne_eq, blsD_map, all_tt, blsD, intsD, Option.map_some, List.all_cons, List.all_nil, List.any_cons, List.any_nil, ixN20, ixN21, wipeE, keepJ, lenT, at0, at1, okM_lit, okR_lit, List.set_cons_zero, List.set_cons_succ, List.length_cons, List.length_nil, List.length_map, List.length_range, List.map_cons, List.map_nil, List.cons_append, List.nil_append, List.replicate_succ, List.replicate_zero, List.append_nil, List.mem_cons, List.not_mem_nil, List.contains_cons, List.contains_nil, List.isEmpty_cons, List.isEmpty_nil, Nat.reduceAdd, Nat.reduceSub, Nat.reduceLeDiff, Nat.reduceEqDiff, Nat.reduceBEq, Nat.zero_add, Nat.add_zero, Nat.reduceLT, Int.reduceLT, Int.reduceLE, Int.reduceNeg, Int.reduceAdd, Int.reduceSub, Int.reduceEq, Int.reduceNe, Int.reducePow, Int.reduceToNat, Int.reduceAbs, Int.reduceMul, Int.reduceDiv, Int.reduceMod, Nat.reduceMul, Nat.reducePow, Nat.lt_irrefl, Int.zero_add, decide_true, decide_eq_true_eq, decide_false, true_and, and_true, false_and, and_false, or_false, false_or, or_true, true_or, not_true, not_false_eq_true, ite_true, ite_false, if_true, if_false, reduceIte, eq_self, Bool.false_eq_true, Bool.true_eq_false, Bool.or_false, Bool.or_true, Bool.and_true, Bool.and_false, Bool.true_and, Bool.false_and, Bool.false_or, Bool.true_or, Bool.not_true, Bool.not_false, and_self, beq_self_eq_true, id, implies_true, reduceCtorEq, J0, J1, J2, J3, J6, J7, J8, J9, J10, J11, J12, J13, J14, J15, J16, J19, J20, J21, J22, J23, J24, J25, J26, J27, J28, J29, J30, J31, J32, J33, J34])
  | `(tactic| simp_arith [$ls,*]) => `(tactic| simp -implicitDefEqProofs only [$ls,*, wS_nil, wS_cons, wS_pass, wS_brk, wS_cont, wS_ret, wGive_v, wGive_s, wS_set, wS_setc, wS_drop, wS_ite, wS_for, wS_while, wS_raise, wS_asg, wS_par2, wS_par3, wS_setit, wS_try, wTo_v, wTo_s, wFrz_v, wFrz_s', wFrzs_n, wFrzs_c, wE_nm, wE_int, wE_bl, wE_non, wE_str, wE_gint, wE_tyN, wE_gcls, wE_gfn, wE_bin, wE_neg, wNeg, wE_cmp, wT_cmp, wT_cmp3, wE_cmp3, wT_and1, wE_and1, wT_or1, wE_or1, wT_and2, wT_or2, wT_not, isTr_b, wE_and2, wE_or2, wE_not, wE_ifx, wE_tup, wE_lst, wE_dnew, wE_ix, wE_dget, wT_din, wE_din, wE_sl, ioW_i, pW_n, pW_c, wE_slp, wE_prim, wE_sortSet, wE_lenSet, wE_mmd, wT_nm, wT_bl, wT_call, wT_callX, wT_prim, wT_bin, wT_ix, wA_n, wA_c, wE_call, wCall_n, wCall_0, hd_c, fnW_f, wE_callX, mmW_m, mW_v, mW_s, wE_sitems, atW_d, atomD, wE_callB, wE_meth, oT_s, wE_mut, dctW_d, wE_dget2, wE_comp, wE_lstN, oE_n, oE_c, oE1_d, oE1_l, wT_lend, lent_nil, lent_cons, Option.map_none, dataA, wE_appN, wAppNU, apW_s, nW_n, lW_l, wE_refl, loW_s, evL_s, wI_seq, sqW_l, sqW_t, sqW_s, inW_i, wI_range1, wI_range2, zpW_l, zpW_t, wI_zip, enW_l, enW_t, wI_enum, gW_nm, gW_tup, gW_lst, gsW_n, gsW_c, Wp_ok, WF_ok, WF_exc, get0, getS, nmU_d, nmU_l, nmU_m, nmU_n, fl_d, fl_l, fl_m, sl_s, vw_v, vw_s, vws_n, vws_c, wo_s, wo_if, wo_map, br_t, br_f, br_not, br_id, br_dec, nxt_n, nxt_r, nxt_b, nxt_c, lp_n, lp_c, lp_b, lp_r, exF_r, exF_n, setM_n, setM_c, Pr.sem, Mt.sem, Mt.T, Mu.sem, Mu.T, Mu.bare, binQ, addQ, subQ, mulQ, fdivQ, modQ, powQ, shlQ, bandQ, cmpQ_eq, cmpQ_ne, cmpQ_lt, cmpQ_le, cmpQ_gt, cmpQ_ge, cmpQ_is, cmpQ_isn, cmpQ_in, cmpQ_notin, ltQ_int, eqQ_int, eqQ_bl, Pv.isQ, inQ, Pv.isNon, ixQ, sliceQ, lenQ, isiQ, tyOf, okTy_int, okTy_bool, okTy_tuple, okTy_list, okTy_str, okTy_dict, isiB_lit, bA, intQ, absQ, max2Q, min2Q, tupleQ, listQ, sumQ, allQ, anyQ, sortedQ, reprQ, appendQ, extendQ, reverseQ, popQ, popAtQ, putQ, Pv.keyOf, dgetQ, dinQ, tupV, lstV, boolD, seqOf, tyOk, countQ, indexQ, kOpt, pW_s, wStep, stepQ, ne_eq, blsD_map, all_tt, blsD, intsD, Option.map_some, List.all_cons, List.all_nil, List.any_cons, List.any_nil, ixN20, ixN21, wipeE, keepJ, lenT, at0, at1, okM_lit, okR_lit, List.set_cons_zero, List.set_cons_succ, List.length_cons, List.length_nil, List.length_map, List.length_range, List.map_cons, List.map_nil, List.cons_append, List.nil_append, List.replicate_succ, List.replicate_zero, List.append_nil, List.mem_cons, List.not_mem_nil, List.contains_cons, List.contains_nil, List.isEmpty_cons, List.isEmpty_nil, Nat.reduceAdd, Nat.reduceSub, Nat.reduceLeDiff, Nat.reduceEqDiff, Nat.reduceBEq, Nat.zero_add, Nat.add_zero, Nat.reduceLT, Int.reduceLT, Int.reduceLE, Int.reduceNeg, Int.reduceAdd, Int.reduceSub, Int.reduceEq, Int.reduceNe, Int.reducePow, Int.reduceToNat, Int.reduceAbs, Int.reduceMul, Int.reduceDiv, Int.reduceMod, Nat.reduceMul, Nat.reducePow, Nat.lt_irrefl, Int.zero_add, decide_true, decide_eq_true_eq, decide_false, true_and, and_true, false_and, and_false, or_false, false_or, or_true, true_or, not_true, not_false_eq_true, ite_true, ite_false, if_true, if_false, reduceIte, eq_self, Bool.false_eq_true, Bool.true_eq_false, Bool.or_false, Bool.or_true, Bool.and_true, Bool.and_false, Bool.true_and, Bool.false_and, Bool.false_or, Bool.true_or, Bool.not_true, Bool.not_false, and_self, beq_self_eq_true, id, implies_true, reduceCtorEq, J0, J1, J2, J3, J6, J7, J8, J9, J10, J11, J12, J13, J14, J15, J16, J19, J20, J21, J22, J23, J24, J25, J26, J27, J28, J29, J30, J31, J32, J33, J34])
  | `(tactic| simp_arith!) => `(tactic| simp -implicitDefEqProofs only [wS_nil, wS_cons, wS_pass, wS_brk, wS_cont, wS_ret, wGive_v, wGive_s, wS_set, wS_setc, wS_drop, wS_for, wS_while, wS_raise, wS_asg, wS_par2, wS_par3, wS_setit, wS_try, wTo_v, wTo_s, wFrz_v, wFrz_s', wFrzs_n, wFrzs_c, wE_nm, wE_int, wE_bl, wE_non, wE_str, wE_gint, wE_tyN, wE_gcls, wE_gfn, wE_bin, wE_neg, wNeg, wE_cmp, wT_cmp, wT_cmp3, wE_cmp3, wT_and1, wE_and1, wT_or1, wE_or1, wT_and2, wT_or2, wT_not, isTr_b, wE_and2, wE_or2, wE_not, wE_ifx, wE_tup, wE_lst, wE_dnew, wE_ix, wE_dget, wT_din, wE_din, wE_sl, ioW_i, pW_n, pW_c, wE_slp, wE_prim, wE_sortSet, wE_lenSet, wE_mmd, wT_nm, wT_bl, wT_call, wT_callX, wT_prim, wT_bin, wT_ix, wA_n, wA_c, wE_call, wCall_n, wCall_0, hd_c, fnW_f, wE_callX, mmW_m, mW_v, mW_s, wE_sitems, atW_d, atomD, wE_callB, wE_meth, oT_s, wE_mut, dctW_d, wE_dget2, wE_comp, wE_lstN, oE_n, oE_c, oE1_d, oE1_l, wT_lend, lent_nil, lent_cons, Option.map_none, dataA, wE_appN, wAppNU, apW_s, nW_n, lW_l, wE_refl, loW_s, evL_s, wI_seq, sqW_l, sqW_t, sqW_s, inW_i, wI_range1, wI_range2, zpW_l, zpW_t, wI_zip, enW_l, enW_t, wI_enum, gW_nm, gW_tup, gW_lst, gsW_n, gsW_c, Wp_ok, WF_ok, WF_exc, get0, getS, nmU_d, nmU_l, nmU_m, nmU_n, fl_d, fl_l, fl_m, sl_s, vw_v, vw_s, vws_n, vws_c, wo_s, wo_if, wo_map, br_t, br_f, br_not, br_id, br_dec, nxt_n, nxt_r, nxt_b, nxt_c, lp_n, lp_c, lp_b, lp_r, exF_r, exF_n, setM_n, setM_c, Pr.sem, Mt.sem, Mt.T, Mu.sem, Mu.T, Mu.bare, binQ, addQ, subQ, mulQ, fdivQ, modQ, powQ, shlQ, bandQ, cmpQ_eq, cmpQ_ne, cmpQ_lt, cmpQ_le, cmpQ_gt, cmpQ_ge, cmpQ_is, cmpQ_isn, cmpQ_in, cmpQ_notin, ltQ_int, eqQ_int, eqQ_bl, Pv.isQ, inQ, Pv.isNon, ixQ, sliceQ, lenQ, isiQ, tyOf, okTy_int, okTy_bool, okTy_tuple, okTy_list, okTy_str, okTy_dict, isiB_lit, bA, intQ, absQ, max2Q, min2Q, tupleQ, listQ, sumQ, allQ, anyQ, sortedQ, reprQ, appendQ, extendQ, reverseQ, popQ, popAtQ, putQ, Pv.keyOf, dgetQ, dinQ, tupV, lstV, boolD, seqOf, tyOk, countQ, indexQ, kOpt, pW_s, wStep, stepQ, ne_eq, blsD_map, all_tt, blsD, intsD, Option.map_some, List.all_cons, List.all_nil, List.any_cons, List.any_nil, ixN20, ixN21, wipeE, keepJ, lenT, at0, at1, okM_lit, okR_lit, List.set_cons_zero, List.set_cons_succ, List.length_cons, List.length_nil, List.length_map, List.length_range, List.map_cons, List.map_nil, List.cons_append, List.nil_append, List.replicate_succ, List.replicate_zero, List.append_nil, List.mem_cons, List.not_mem_nil, List.contains_cons, List.contains_nil, List.isEmpty_cons, List.isEmpty_nil, Nat.reduceAdd, Nat.reduceSub, Nat.reduceLeDiff, Nat.reduceEqDiff, Nat.reduceBEq, Nat.zero_add, Nat.add_zero, Nat.reduceLT, Int.reduceLT, Int.reduceLE, Int.reduceNeg, Int.reduceAdd, Int.reduceSub, Int.reduceEq, Int.reduceNe, Int.reducePow, Int.reduceToNat, Int.reduceAbs, Int.reduceMul, Int.reduceDiv, Int.reduceMod, Nat.reduceMul, Nat.reducePow, Nat.lt_irrefl, Int.zero_add, decide_true, decide_eq_true_eq, decide_false, true_and, and_true, false_and, and_false, or_false, false_or, or_true, true_or, not_true, not_false_eq_true, ite_true, ite_false, if_true, if_false, reduceIte, eq_self, Bool.false_eq_true, Bool.true_eq_false, Bool.or_false, Bool.or_true, Bool.and_true, Bool.and_false, Bool.true_and, Bool.false_and, Bool.false_or, Bool.true_or, Bool.not_true, Bool.not_false, and_self, beq_self_eq_true, id, implies_true, reduceCtorEq, J0, J1, J2, J3, J6, J7, J8, J9, J10, J11, J12, J13, J14, J15, J16, J19, J20, J21, J22, J23, J24, J25, J26, J27, J28, J29, J30, J31, J32, J33, J34])
  | `(tactic| simp_arith! [$ls,*]) => `(tactic| simp -implicitDefEqProofs only [$ls,*, wS_nil, wS_cons, wS_pass, wS_brk, wS_cont, wS_ret, wGive_v, wGive_s, wS_set, wS_setc, wS_drop, wS_for, wS_while, wS_raise, wS_asg, wS_par2, wS_par3, wS_setit, wS_try, wTo_v, wTo_s, wFrz_v, wFrz_s', wFrzs_n, wFrzs_c, wE_nm, wE_int, wE_bl, wE_non, wE_str, wE_gint, wE_tyN, wE_gcls, wE_gfn, wE_bin, wE_neg, wNeg, wE_cmp, wT_cmp, wT_cmp3, wE_cmp3, wT_and1, wE_and1, wT_or1, wE_or1, wT_and2, wT_or2, wT_not, isTr_b, wE_and2, wE_or2, wE_not, wE_ifx, wE_tup, wE_lst, wE_dnew, wE_ix, wE_dget, wT_din, wE_din, wE_sl, ioW_i, pW_n, pW_c, wE_slp, wE_prim, wE_sortSet, wE_lenSet, wE_mmd, wT_nm, wT_bl, wT_call, wT_callX, wT_prim, wT_bin, wT_ix, wA_n, wA_c, wE_call, wCall_n, wCall_0, hd_c, fnW_f, wE_callX, mmW_m, mW_v, mW_s, wE_sitems, atW_d, atomD, wE_callB, wE_meth, oT_s, wE_mut, dctW_d, wE_dget2, wE_comp, wE_lstN, oE_n, oE_c, oE1_d, oE1_l, wT_lend, lent_nil, lent_cons, Option.map_none, dataA, wE_appN, wAppNU, apW_s, nW_n, lW_l, wE_refl, loW_s, evL_s, wI_seq, sqW_l, sqW_t, sqW_s, inW_i, wI_range1, wI_range2, zpW_l, zpW_t, wI_zip, enW_l, enW_t, wI_enum, gW_nm, gW_tup, gW_lst, gsW_n, gsW_c, Wp_ok, WF_ok, WF_exc, get0, getS, nmU_d, nmU_l, nmU_m, nmU_n, fl_d, fl_l, fl_m, sl_s, vw_v, vw_s, vws_n, vws_c, wo_s, wo_if, wo_map, br_t, br_f, br_not, br_id, br_dec, nxt_n, nxt_r, nxt_b, nxt_c, lp_n, lp_c, lp_b, lp_r, exF_r, exF_n, setM_n, setM_c, Pr.sem, Mt.sem, Mt.T, Mu.sem, Mu.T, Mu.bare, binQ, addQ, subQ, mulQ, fdivQ, modQ, powQ, shlQ, bandQ, cmpQ_eq, cmpQ_ne, cmpQ_lt, cmpQ_le, cmpQ_gt, cmpQ_ge, cmpQ_is, cmpQ_isn, cmpQ_in, cmpQ_notin, ltQ_int, eqQ_int, eqQ_bl, Pv.isQ, inQ, Pv.isNon, ixQ, sliceQ, lenQ, isiQ, tyOf, okTy_int, okTy_bool, okTy_tuple, okTy_list, okTy_str, okTy_dict, isiB_lit, bA, intQ, absQ, max2Q, min2Q, tupleQ, listQ, sumQ, allQ, anyQ, sortedQ, reprQ, appendQ, extendQ, reverseQ, popQ, popAtQ, putQ, Pv.keyOf, dgetQ, dinQ, tupV, lstV, boolD, seqOf, tyOk, countQ, indexQ, kOpt, pW_s, wStep, stepQ, ne_eq, blsD_map, all_tt, blsD, intsD, Option.map_some, List.all_cons, List.all_nil, List.any_cons, List.any_nil, ixN20, ixN21, wipeE, keepJ, lenT, at0, at1, okM_lit, okR_lit, List.set_cons_zero, List.set_cons_succ, List.length_cons, List.length_nil, List.length_map, List.length_range, List.map_cons, List.map_nil, List.cons_append, List.nil_append, List.replicate_succ, List.replicate_zero, List.append_nil, List.mem_cons, List.not_mem_nil, List.contains_cons, List.contains_nil, List.isEmpty_cons, List.isEmpty_nil, Nat.reduceAdd, Nat.reduceSub, Nat.reduceLeDiff, Nat.reduceEqDiff, Nat.reduceBEq, Nat.zero_add, Nat.add_zero, Nat.reduceLT, Int.reduceLT, Int.reduceLE, Int.reduceNeg, Int.reduceAdd, Int.reduceSub, Int.reduceEq, Int.reduceNe, Int.reducePow, Int.reduceToNat, Int.reduceAbs, Int.reduceMul, Int.reduceDiv, Int.reduceMod, Nat.reduceMul, Nat.reducePow, Nat.lt_irrefl, Int.zero_add, decide_true, decide_eq_true_eq, decide_false, true_and, and_true, false_and, and_false, or_false, false_or, or_true, true_or, not_true, not_false_eq_true, ite_true, ite_false, if_true, if_false, reduceIte, eq_self, Bool.false_eq_true, Bool.true_eq_false, Bool.or_false, Bool.or_true, Bool.and_true, Bool.and_false, Bool.true_and, Bool.false_and, Bool.false_or, Bool.true_or, Bool.not_true, Bool.not_false, and_self, beq_self_eq_true, id, implies_true, reduceCtorEq, J0, J1, J2, J3, J6, J7, J8, J9, J10, J11, J12, J13, J14, J15, J16, J19, J20, J21, J22, J23, J24, J25, J26, J27, J28, J29, J30, J31, J32, J33, J34])

theorem deps_pts (L : List (Int × Int)) : deps (L.map ptD) ≤ 1 := by rw [map_pts]; exact deps_tups _
theorem plns_ints : ∀ L : List Int, plns (L.map D.int) = true
  | [] => rfl
  | i :: L => by simp only [List.map_cons, plns, plns_ints L, Bool.and_true]; rfl
theorem deps_ints0 : ∀ L : List Int, deps (L.map D.int) = 0
  | [] => rfl
  | i :: L => by simp only [List.map_cons, deps, deps_ints0 L, dep]; rfl
theorem wo_atl {α : Type} (enc : α → D) {L : List α} {k : D → Prop} (hn : L ≠ []) (h : ∀ a ∈ L, k (enc a)) : wo (atI (L.map enc) (-1)) k := by
  have hl : 0 < L.length := List.length_pos_iff.mpr hn
  have e : atI (L.map enc) (-1) = some (enc (L[L.length - 1]'(by omega))) := by
    unfold atI
    have : ixN (L.map enc).length (-1) = some (L.length - 1) := by
      rw [List.length_map]
      unfold ixN
      simp
      omega
    rw [this]
    show (L.map enc)[L.length - 1]? = _
    rw [List.getElem?_map, List.getElem?_eq_getElem (by omega)]
    rfl
  rw [e, wo_s]
  exact h _ (List.getElem_mem _)
section
set_option maxHeartbeats 4000000 in
theorem law_wf (h1 : res 1 = some (Str.ofString "point")) (h2 : res 2 = some (Str.ofString "lot")) (k : Nat) (ns : List Int) (hn : ns.length ≤ 63) : WF (evCall defs sub res (k+12) 34 [.d (.scr ns)]) (fun a _ => a = .d (.bl true)) no := by
  refine WF_call D34 rfl ?_
  delta d34 d34_l0 d34_b0 d34_e2 d34_l2 d34_b2 d34_e1 d34_l1 d34_b1 d34_e0
  simp_arith!
  refine cell_wf _ _ fun c => ?_
  have l1 := cut_len ns (some 1) (some 6)
  simp_arith!
  refine ⟨by omega, ?_⟩
  refine wp_for D.int [1,2,3,4,5,6,7,8,9,10,11,12,13,14,15] (fun _ vs => ∃ a1 a2 a3 a4 a5 a6 a7 a8 a9 a10 a11 a12 a13 a14 a15, vs = [a1,a2,a3,a4,a5,a6,a7,a8,a9,a10,a11,a12,a13,a14,a15]) (c :: cut ns (some 1) (some 6)) _ ⟨_,_,_,_,_,_,_,_,_,_,_,_,_,_,_, rfl⟩ (fun c' L' vs h => ?_) (fun vs h => ?_)
  · obtain ⟨a1,a2,a3,a4,a5,a6,a7,a8,a9,a10,a11,a12,a13,a14,a15,rfl⟩ := h
    simp_arith!
    refine pen_wf _ _ fun fl => ?_
    simp_arith!
    refine lot_wf _ _ _ _ (by omega) (by omega) fun L p1 hL _ => ?_
    have hl := hL.len
    have l0 : 0 < L.length := List.length_pos_iff.mpr hL.ne
    simp_arith! [lotD]
    refine draw_wf _ _ _ _ (by omega) (by omega) fun r1 p2 r10 r11 => ?_
    simp_arith!
    refine wo_at ptD r10 r11 fun one hone => ?_
    have bone := hL.bd one hone
    simp_arith!
    refine point_wf _ _ _ _ (by omega) (by omega) fun x y p3 x0 x1 y0 y1 => ?_
    simp_arith!
    refine ⟨okRep_lot hL, ltable_wf _ hL.bd hL.len ?_⟩
    obtain ⟨S, hS⟩ : ∃ S, S = reprD (D.tup (L.map ptD)) := ⟨_, rfl⟩
    have hR : eqQ (!·) (.str S) (.str S) = some false := by rw [hS]; exact repr_self L
    have hq := prs_le hl
    have tl : (tab (prs L)).length ≤ 780 := by
      unfold tab
      rw [List.length_map]
      exact Nat.le_trans (usort_len linI _) hq
    have hfe : (tab (prs L)).map (fun x => D.int x.1) = (frs L).map D.int := by
      unfold tab frs
      rw [List.map_map]
      rfl
    have hfl : (frs L).length ≤ 780 := Nat.le_trans (usort_len linI _) hq
    have sT : evCall defs sub res (k + 11) 10 [.d (.lst ((tab (prs L)).map ptD)), .d (.lst ((tab (prs L)).map ptD))] = .ok (.d (.bl true)) [none, none] := same_refl (sub := sub) (res := res) 2 (k+8) _ (by have := deps_pts (tab (prs L)); simp only [dep]; omega) (by simp only [pln, plns_pts, List.length_map, Bool.true_and, decide_eq_true_eq]; omega)
    have sF : evCall defs sub res (k + 11) 10 [.d (.lst ((frs L).map D.int)), .d (.lst ((frs L).map D.int))] = .ok (.d (.bl true)) [none, none] := same_refl (sub := sub) (res := res) 1 (k+9) _ (by have := deps_ints0 (frs L); simp only [dep]; omega) (by simp only [pln, plns_ints, List.length_map, Bool.true_and, decide_eq_true_eq]; omega)
    simp_arith! [← hS]
    refine wp_for (fun i : Nat => D.int (i : Int)) [4,11] (fun _ vs => ∃ a b, vs = [a, b]) (List.range 2) _ ⟨_, _, rfl⟩ (fun i r vs hI => ?_) (fun vs hI => ?_)
    · obtain ⟨a, b, rfl⟩ := hI
      simp_arith!
      refine came_f1 (k+4) hL _ ?_
      simp_arith!
      refine came_f2 (k+4) hL _ ?_
      simp_arith!
      apply wIf false
      · simp_arith!
        rw [sT]
        simp_arith!
        refine ⟨by omega, ?_⟩
        refine wp_comp ptD (fun x => .int x.1) (tab (prs L)) (fun a _ => ?_) ?_
        · simp_arith! [ptD]
        rw [hfe]
        simp_arith!
        rw [sF]
        simp_arith!
        rfl
      simp_arith!
      apply wIf false
      · simp_arith!
        refine ⟨okRep_lot hL, ?_⟩
        have hS' : reprD (D.tup (L.map ptD)) = S := hS.symm
        simp_arith! [hS']
        rw [hR]
        simp_arith!
        rfl
      simp_arith! [List.getElem?_cons_zero, List.getElem?_cons_succ]
      refine ⟨by omega, ?_⟩
      refine ⟨by omega, ?_⟩
      exact ⟨_, rfl, _, _, rfl⟩
    obtain ⟨a, b, rfl⟩ := hI
    simp_arith!
    refine came_f1 (k+4) hL _ ?_
    simp_arith!
    refine came_f2 (k+4) hL _ ?_
    simp_arith!
    obtain ⟨z1, hz1, ez1⟩ := cut_one hL.ne
    obtain ⟨z2, hz2, ez2⟩ := cut_last hL.ne
    have ez1' : cut (L.map ptD) none (some 1) = [z1].map ptD := by rw [cut_map, ez1]
    have ez2' : cut (L.map ptD) (some (-1)) none = [z2].map ptD := by rw [cut_map, ez2]
    apply wIf false
    · simp_arith! [ez1', ez2']
      refine came_f1 (k+4) (lot_one hL hz1) _ ?_
      simp_arith! [ez2']
      refine came_f2 (k+4) (lot_one hL hz2) _ ?_
      have e1 : (frs [z1]).map D.int = [] := rfl
      have e2 : (tab (prs [z2])).map ptD = [] := rfl
      rw [e2]
      simp_arith! [e1]
      refine wo_same ⟨rfl, by decide⟩ ?_
      simp_arith!
      rfl
    have sB : evCall defs sub res (k + 11) 10 [.d (.lst [.lst ((frs L).map D.int), .lst ((tab (prs L)).map ptD)]), .d (.lst [.lst ((frs L).map D.int), .lst ((tab (prs L)).map ptD)])] = .ok (.d (.bl true)) [none, none] := same_refl (sub := sub) (res := res) 3 (k+7) _ (by
      have := deps_ints0 (frs L)
      have := deps_pts (tab (prs L))
      simp only [dep, deps]
      omega) (by
      simp only [pln, plns, plns_pts, plns_ints, List.length_map, Bool.true_and, Bool.and_true, Bool.and_eq_true, decide_eq_true_eq]
      exact ⟨⟨by omega, by omega⟩, by simp⟩)
    have sI : ∀ d : Int, evCall defs sub res (k + 11) 10 [.d (.int d), .d (.int d)] = .ok (.d (.bl true)) [none, none] := fun d => same_refl (sub := sub) (res := res) 0 (k+10) _ (Nat.zero_le _) rfl
    simp_arith!
    apply wIf false
    · simp_arith!
      refine ⟨by omega, ?_⟩
      refine wp_comp ptD (fun x => .int x.1) (tab (prs L)) (fun a _ => ?_) ?_
      · simp_arith! [ptD]
      rw [hfe]
      simp_arith!
      rw [sB]
      simp_arith!
      rfl
    simp_arith!
    refine wo_at ptD (by omega) (by omega) fun u hu => ?_
    simp_arith!
    refine wo_atl ptD hL.ne fun v hv => ?_
    have bu := hL.bd u hu
    have bv := hL.bd v hv
    have bo : bdP (x, y) := ⟨by omega, by omega, by omega, by omega⟩
    simp_arith!
    refine wp_for (fun z : (Int × Int) × (Int × Int) => D.tup [ptD z.1, ptD z.2]) [12,13] (fun r vs => (∃ a b, vs = [a, b]) ∧ ∀ z ∈ r, bdP z.1 ∧ bdP z.2) [(one, (x, y)), ((x, y), one), (one, one), (u, v)] _ ⟨⟨_, _, rfl⟩, fun z hz => ?_⟩ (fun z r vs hI => ?_) (fun vs hI => ?_)
    · simp only [List.mem_cons, List.not_mem_nil, or_false] at hz
      rcases hz with rfl | rfl | rfl | rfl
      · exact ⟨bone, bo⟩
      · exact ⟨bo, bone⟩
      · exact ⟨bone, bone⟩
      · exact ⟨bu, bv⟩
    · obtain ⟨⟨b1, b2, rfl⟩, hI⟩ := hI
      obtain ⟨hz1, hz2⟩ := hI z (List.mem_cons_self ..)
      simp_arith!
      apply wIf false
      · simp_arith!
        refine came_f0 (k+4) hz1 hz2 ?_
        simp_arith!
        refine lfar_wf _ hz1 hz2 ?_
        simp_arith!
        rw [sI]
        simp_arith!
        rfl
      simp_arith!
      exact ⟨_, rfl, ⟨_, _, rfl⟩, fun z hz => hI z (List.mem_cons_of_mem _ hz)⟩
    obtain ⟨⟨b1, b2, rfl⟩, _⟩ := hI
    simp_arith!
    refine no_lot12 _ _ _ hL fun bad p4 g1 g2 => ?_
    simp_arith!
    refine no_point12 _ _ _ _ _ fun non p5 q1 q2 => ?_
    simp_arith!
    apply wIf false
    · simp_arith!
      refine came_n1 h2 (k+4) g1 g2 _ ?_
      simp_arith!
      refine came_n2 h2 (k+4) g1 g2 _ ?_
      have e5 : (List.replicate 2 [D.str (Str.ofString "lot")]).flatten = [.str (Str.ofString "lot"), .str (Str.ofString "lot")] := rfl
      simp_arith! [e5]
      refine wo_same ⟨by decide +kernel, by decide⟩ ?_
      simp_arith!
      rfl
    simp_arith!
    apply wIf false
    · simp_arith!
      refine wp_comp (fun z : D × D => D.tup [z.1, z.2]) (fun _ => D.str (Str.ofString "point")) [(non, ptD one), (ptD one, non), (non, non)] (fun z hz => ?_) ?_
      · have hz' : (okTh z.1 = true ∧ ptB z.1 = false) ∨ (∃ p, z.1 = ptD p ∧ bdP p) ∧ okTh z.2 = true ∧ ptB z.2 = false := by
          simp only [List.mem_cons, List.not_mem_nil, or_false] at hz
          rcases hz with rfl | rfl | rfl
          · exact .inl ⟨q1, q2⟩
          · exact .inr ⟨⟨one, rfl, bone⟩, q1, q2⟩
          · exact .inl ⟨q1, q2⟩
        simp_arith!
        refine came_n0 h1 (k+4) hz' ?_
        simp_arith!
      have e5 : (List.replicate 3 [D.str (Str.ofString "point")]).flatten = [.str (Str.ofString "point"), .str (Str.ofString "point"), .str (Str.ofString "point")] := rfl
      simp_arith! [e5]
      refine wo_same ⟨by decide +kernel, by decide⟩ ?_
      simp_arith!
      rfl
    simp_arith!
    exact ⟨_, rfl, _, _, _, _, _, _, _, _, _, _, _, _, _, _, _, rfl⟩
  · obtain ⟨a1,a2,a3,a4,a5,a6,a7,a8,a9,a10,a11,a12,a13,a14,a15,rfl⟩ := h
    simp_arith!
end
end Lk

namespace Lk
open PySem PySem.Spec PyProof.Rows L2 Pv
def top (i : Nat) : Stmt := PySem.Challenge.pw_fewdistances_k02_fars_and_tables.main.body.getD i (.Pass ⟨0, 0, 0, 0⟩)
def gc : Gc := { fns := [(0, ("is_whole", 1)), (1, ("is_from", 3)), (2, ("point_good", 1)), (3, ("lot_good", 1)), (19, ("must_point", 1)), (20, ("must_lot", 1)), (21, ("far_by", 2)), (22, ("far_of", 2)), (23, ("counts_in", 1)), (24, ("fars_in", 1)), (25, ("fars", 1)), (26, ("table_in", 1)), (27, ("far_table", 1)), (6, ("_law_cell", 2)), (7, ("_law_pen", 1)), (8, ("_law_draw", 2)), (9, ("_law_whole", 1)), (10, ("_law_same", 2)), (11, ("_law_point", 2)), (12, ("_law_lot", 2)), (13, ("_law_is_point", 1)), (14, ("_law_is_lot", 1)), (15, ("_law_no_point", 2)), (16, ("_law_no_lot", 2)), (29, ("_law_far", 2)), (30, ("_law_pairs", 1)), (31, ("_law_fars", 1)), (32, ("_law_table", 1)), (33, ("_law_came", 3)), (34, ("law", 1))], nums := [("MOST_PART", 1000), ("MOST_POINTS", 40)], clss := [(0, "FarError"), (1, "NoPoint"), (2, "NoLot"), (3, "NoNumber"), (4, "NoCircle"), (5, "NoMarks"), (6, "NoFars"), (7, "NoText"), (8, "NoLine"), (9, "NoDeed"), (10, "Alike"), (11, "TooMany")], rais := [1, 2], none := ["ValueError", "all", "bool", "enumerate", "int", "isinstance", "len", "list", "range", "repr", "set", "sorted", "str", "tuple", "zip"], far := "FarError", kind := "_law_kind_of", hot := true, refu := none }
theorem sc0 : FnScope d0.N ["thing"] (defScope (top 16)) := ⟨rfl, rfl, rfl, by decide +kernel, rfl, by decide +kernel, by decide +kernel⟩
theorem ck0 : (ck gc d0.body).b (ccOf d0 (top 16)) (defBody (top 16)) = true := by decide +kernel
theorem sc1 : FnScope d1.N ["thing", "low", "high"] (defScope (top 17)) := ⟨rfl, rfl, rfl, by decide +kernel, rfl, by decide +kernel, by decide +kernel⟩
theorem ck1 : (ck gc d1.body).b (ccOf d1 (top 17)) (defBody (top 17)) = true := by decide +kernel
theorem sc2 : FnScope d2.N ["thing"] (defScope (top 18)) := ⟨rfl, rfl, rfl, by decide +kernel, rfl, by decide +kernel, by decide +kernel⟩
theorem ck2 : (ck gc d2.body).b (ccOf d2 (top 18)) (defBody (top 18)) = true := by decide +kernel
theorem sc3 : FnScope d3.N ["thing"] (defScope (top 19)) := ⟨rfl, rfl, rfl, by decide +kernel, rfl, by decide +kernel, by decide +kernel⟩
theorem ck3 : (ck gc d3.body).b (ccOf d3 (top 19)) (defBody (top 19)) = true := by decide +kernel
theorem sc19 : FnScope d19.N ["point"] (defScope (top 20)) := ⟨rfl, rfl, rfl, by decide +kernel, rfl, by decide +kernel, by decide +kernel⟩
theorem ck19 : (ck gc d19.body).b (ccOf d19 (top 20)) (defBody (top 20)) = true := by decide +kernel
theorem sc20 : FnScope d20.N ["lot"] (defScope (top 21)) := ⟨rfl, rfl, rfl, by decide +kernel, rfl, by decide +kernel, by decide +kernel⟩
theorem ck20 : (ck gc d20.body).b (ccOf d20 (top 21)) (defBody (top 21)) = true := by decide +kernel
theorem sc21 : FnScope d21.N ["one", "other"] (defScope (top 22)) := ⟨rfl, rfl, rfl, by decide +kernel, rfl, by decide +kernel, by decide +kernel⟩
theorem ck21 : (ck gc d21.body).b (ccOf d21 (top 22)) (defBody (top 22)) = true := by decide +kernel
theorem sc22 : FnScope d22.N ["one", "other"] (defScope (top 23)) := ⟨rfl, rfl, rfl, by decide +kernel, rfl, by decide +kernel, by decide +kernel⟩
theorem ck22 : (ck gc d22.body).b (ccOf d22 (top 23)) (defBody (top 23)) = true := by decide +kernel
theorem sc23 : FnScope d23.N ["lot"] (defScope (top 24)) := ⟨rfl, rfl, rfl, by decide +kernel, rfl, by decide +kernel, by decide +kernel⟩
theorem ck23 : (ck gc d23.body).b (ccOf d23 (top 24)) (defBody (top 24)) = true := by decide +kernel
theorem sc24 : FnScope d24.N ["lot"] (defScope (top 25)) := ⟨rfl, rfl, rfl, by decide +kernel, rfl, by decide +kernel, by decide +kernel⟩
theorem ck24 : (ck gc d24.body).b (ccOf d24 (top 25)) (defBody (top 25)) = true := by decide +kernel
theorem sc25 : FnScope d25.N ["lot"] (defScope (top 26)) := ⟨rfl, rfl, rfl, by decide +kernel, rfl, by decide +kernel, by decide +kernel⟩
theorem ck25 : (ck gc d25.body).b (ccOf d25 (top 26)) (defBody (top 26)) = true := by decide +kernel
theorem sc26 : FnScope d26.N ["lot"] (defScope (top 27)) := ⟨rfl, rfl, rfl, by decide +kernel, rfl, by decide +kernel, by decide +kernel⟩
theorem ck26 : (ck gc d26.body).b (ccOf d26 (top 27)) (defBody (top 27)) = true := by decide +kernel
theorem sc27 : FnScope d27.N ["lot"] (defScope (top 28)) := ⟨rfl, rfl, rfl, by decide +kernel, rfl, by decide +kernel, by decide +kernel⟩
theorem ck27 : (ck gc d27.body).b (ccOf d27 (top 28)) (defBody (top 28)) = true := by decide +kernel
theorem sc6 : FnScope d6.N ["_law_script", "_law_k"] (defScope (top 30)) := ⟨rfl, rfl, rfl, by decide +kernel, rfl, by decide +kernel, by decide +kernel⟩
theorem ck6 : (ck gc d6.body).b (ccOf d6 (top 30)) (defBody (top 30)) = true := by decide +kernel
theorem sc7 : FnScope d7.N ["_law_cell_here"] (defScope (top 31)) := ⟨rfl, rfl, rfl, by decide +kernel, rfl, by decide +kernel, by decide +kernel⟩
theorem ck7 : (ck gc d7.body).b (ccOf d7 (top 31)) (defBody (top 31)) = true := by decide +kernel
theorem sc8 : FnScope d8.N ["_law_pen_here", "_law_many"] (defScope (top 32)) := ⟨rfl, rfl, rfl, by decide +kernel, rfl, by decide +kernel, by decide +kernel⟩
theorem ck8 : (ck gc d8.body).b (ccOf d8 (top 32)) (defBody (top 32)) = true := by decide +kernel
theorem sc9 : FnScope d9.N ["_law_thing"] (defScope (top 33)) := ⟨rfl, rfl, rfl, by decide +kernel, rfl, by decide +kernel, by decide +kernel⟩
theorem ck9 : (ck gc d9.body).b (ccOf d9 (top 33)) (defBody (top 33)) = true := by decide +kernel
theorem sc10 : FnScope d10.N ["_law_found", "_law_due"] (defScope (top 34)) := ⟨rfl, rfl, rfl, by decide +kernel, rfl, by decide +kernel, by decide +kernel⟩
theorem ck10 : (ck gc d10.body).b (ccOf d10 (top 34)) (defBody (top 34)) = true := by decide +kernel
theorem sc28 : FnScope d28.N ["_law_e"] (defScope (top 35)) := ⟨rfl, rfl, rfl, by decide +kernel, rfl, by decide +kernel, by decide +kernel⟩
theorem ck28 : (ck (coldC gc) d28.body).b (ccHot d28 (top 35)) (defBody (top 35)) = true := by decide +kernel
theorem sc11 : FnScope d11.N ["_law_pen_here", "_law_wide"] (defScope (top 36)) := ⟨rfl, rfl, rfl, by decide +kernel, rfl, by decide +kernel, by decide +kernel⟩
theorem ck11 : (ck gc d11.body).b (ccOf d11 (top 36)) (defBody (top 36)) = true := by decide +kernel
theorem sc12 : FnScope d12.N ["_law_pen_here", "_law_most"] (defScope (top 37)) := ⟨rfl, rfl, rfl, by decide +kernel, rfl, by decide +kernel, by decide +kernel⟩
theorem ck12 : (ck gc d12.body).b (ccOf d12 (top 37)) (defBody (top 37)) = true := by decide +kernel
theorem sc13 : FnScope d13.N ["_law_thing"] (defScope (top 38)) := ⟨rfl, rfl, rfl, by decide +kernel, rfl, by decide +kernel, by decide +kernel⟩
theorem ck13 : (ck gc d13.body).b (ccOf d13 (top 38)) (defBody (top 38)) = true := by decide +kernel
theorem sc14 : FnScope d14.N ["_law_thing"] (defScope (top 39)) := ⟨rfl, rfl, rfl, by decide +kernel, rfl, by decide +kernel, by decide +kernel⟩
theorem ck14 : (ck gc d14.body).b (ccOf d14 (top 39)) (defBody (top 39)) = true := by decide +kernel
theorem sc15 : FnScope d15.N ["_law_pen_here", "_law_point_here"] (defScope (top 40)) := ⟨rfl, rfl, rfl, by decide +kernel, rfl, by decide +kernel, by decide +kernel⟩
theorem ck15 : (ck gc d15.body).b (ccOf d15 (top 40)) (defBody (top 40)) = true := by decide +kernel
theorem sc16 : FnScope d16.N ["_law_pen_here", "_law_lot_here"] (defScope (top 41)) := ⟨rfl, rfl, rfl, by decide +kernel, rfl, by decide +kernel, by decide +kernel⟩
theorem ck16 : (ck gc d16.body).b (ccOf d16 (top 41)) (defBody (top 41)) = true := by decide +kernel
theorem sc29 : FnScope d29.N ["_law_one", "_law_other"] (defScope (top 42)) := ⟨rfl, rfl, rfl, by decide +kernel, rfl, by decide +kernel, by decide +kernel⟩
theorem ck29 : (ck gc d29.body).b (ccOf d29 (top 42)) (defBody (top 42)) = true := by decide +kernel
theorem sc30 : FnScope d30.N ["_law_lot_here"] (defScope (top 43)) := ⟨rfl, rfl, rfl, by decide +kernel, rfl, by decide +kernel, by decide +kernel⟩
theorem ck30 : (ck gc d30.body).b (ccOf d30 (top 43)) (defBody (top 43)) = true := by decide +kernel
theorem sc31 : FnScope d31.N ["_law_lot_here"] (defScope (top 44)) := ⟨rfl, rfl, rfl, by decide +kernel, rfl, by decide +kernel, by decide +kernel⟩
theorem ck31 : (ck gc d31.body).b (ccOf d31 (top 44)) (defBody (top 44)) = true := by decide +kernel
theorem sc32 : FnScope d32.N ["_law_lot_here"] (defScope (top 45)) := ⟨rfl, rfl, rfl, by decide +kernel, rfl, by decide +kernel, by decide +kernel⟩
theorem ck32 : (ck gc d32.body).b (ccOf d32 (top 45)) (defBody (top 45)) = true := by decide +kernel
theorem sc33 : FnScope d33.N ["_law_way", "_law_one", "_law_other"] (defScope (top 46)) := ⟨rfl, rfl, rfl, by decide +kernel, rfl, by decide +kernel, by decide +kernel⟩
theorem ck33 : (ck gc d33.body).b (ccOf d33 (top 46)) (defBody (top 46)) = true := by decide +kernel
theorem sc34 : FnScope d34.N ["_law_script"] (defScope (top 47)) := ⟨rfl, rfl, rfl, by decide +kernel, rfl, by decide +kernel, by decide +kernel⟩
theorem ck34 : (ck gc d34.body).b (ccOf d34 (top 47)) (defBody (top 47)) = true := by decide +kernel
def sub (c c' : Nat) : Bool := c == c' || c' == 0
def res : Nat → Option Str
  | 1 => some "point"
  | 2 => some "lot"
  | _ => none
theorem hres : ∀ c r, res c = some r → exitV [] 1 ((ev (V0 sub res) [] d28.body).s ([some (.d (.exn c))] ++ List.replicate (d28.N.length - 1) none)) = .ok (.d (.str r)) [none] := by
  intro c r h
  unfold res at h
  split at h <;> first | (cases h; rfl) | cases h
end Lk

namespace Lk
open PySem PySem.Spec PyProof.Rows L2 Pv
theorem law_val : ∀ ns : List Int, ns.length ≤ 63 → ∃ ws, evCall defs sub res 20 34 [.d (.scr ns)] = .ok (.d (.bl true)) ws := fun ns h => by
  obtain ⟨a, ws, e, rfl⟩ := (law_wf (sub := sub) (res := res) rfl rfl 8 ns h).ex
  exact ⟨ws, e⟩
end Lk

namespace Lk
open PySem PySem.Spec PyProof.Rows L2 Pv
section
def clsT (m l : List (Nat × Addr)) (d : Addr) (T : List (Addr × Str)) : Tab := ⟨fun f => (m.lookup f).getD 0, fun c => (l.lookup c).getD d, fun _ => none, T⟩
theorem lookup_mem {β : Type} : ∀ {l : List (Nat × β)} {k : Nat} {v : β}, l.lookup k = some v → (k, v) ∈ l
  | [], _, _, h => by cases h
  | (a, b) :: l, k, v, h => by
    simp only [List.lookup_cons] at h
    by_cases e : k = a
    · subst e
      simp only [beq_self_eq_true] at h
      cases h
      exact List.mem_cons_self ..
    · have e2 : (k == a) = false := by simpa using e
      simp only [e2] at h
      exact List.mem_cons_of_mem _ (lookup_mem h)

/-- the end of a law that makes lambdas: ps tells the code objects that make them, their tables, their names -/
theorem walk_GL {l : PySem.W.OpenLaw} {n k : Nat} {q : Program} {loose : List Str} {XP : (Str → Option Value) → Heap → Prop} {YP : World → Heap → Prop} {d : DefRec} {K : Params → PySem.W.Frag} {CX : World → CXT} {x : Str} (ps : List (Addr × Addr × Str))
    (hn : l.most = some n) (hn63 : n ≤ 63) (hdf : d.params.defaults = []) (hr : RoomG k callerA) (hY : ∀ (w : World) (h : Heap), YP w h → (K w.params).In h)
    (hCX : ∀ (w : World) (H : Hp) (s : Shared) (e : Value) (s' : Shared), CX w [] H s (fun _ _ _ => False) e s' → False)
    (F : ∀ (w : World) (mg : Str → Option Value) (fa : Addr) (h : Heap), (K w.params).In h → h.Ns mainGlobals mg → mg d.name = some (.ref fa) →
      ∃ fd : FuncData, (∀ (s : Shared) (u : Value), BindsTo s fd ⟨[u], []⟩ [(x, u)]) ∧ ∀ base : Heap, (K w.params).In base → base.Ns mainGlobals mg →
        (∀ p ∈ ps.map fun z => (z.1, z.2.1), LamX.TabB base mg p.1 p.2) → FnG l.prog w (K w.params) mg base (CX w) k fa fd [x] (spLaw (K w.params) (ps.map fun z => (z.2.1, z.2.2))))
    (hT : ∀ (w : World) (h : Heap), YP w h → ∀ p ∈ ps, h.get? p.2.1 = some { cls := .none, data := .fields #[] } ∧ (K w.params).lookup p.2.1 = none ∧ PySem.W.CodeHd h p.1 p.2.1) :
    PySem.W.WalkO q loose XP YP l.row.toRowW d [] (fun f vs => PySem.call f vs) :=
  walk_ofG (sp := fun w => spLaw (K w.params) (ps.map fun z => (z.2.1, z.2.2))) (cs := ps.map fun z => (z.1, z.2.1)) hn (Nat.le_trans hn63 (by decide)) hdf hr hY
    (fun w h Y p hp => by
      obtain ⟨z, hz, rfl⟩ := List.mem_map.mp hp
      exact hT w h Y z hz) F
    (fun w H a ns hl hO hS => ⟨a, ns, rfl, hS, Nat.le_trans hl hn63, fun p hp => by
      obtain ⟨z, hz, rfl⟩ := List.mem_map.mp hp
      exact LamX.TabS.nil (hO (z.1, z.2.1) (List.mem_map.mpr ⟨z, hz, rfl⟩)), fun _ => rfl⟩) hCX

set_option maxHeartbeats 0 in
theorem all_mk {P : Program} {w : World} {K : PySem.W.Frag} {h : Heap} {mg : Str → Option Value} {fa : Addr} (X : K.In h) (N : h.Ns mainGlobals mg) (hfa : mg "law" = some (.ref fa)) {f0 f1 f2 f3 f4 f5 f6 f7 f8 f9 f10 f11 f12 f13 f14 f15 f16 f17 f18 f19 f20 f21 f22 f23 f24 f25 f26 f27 f28 f29 f30 C0 C1 C2 C3 C4 C5 C6 C7 C8 C9 C10 C11  : Addr} {od0 an0 od1 an1 od2 an2 od3 an3 od4 an4 od5 an5 od6 an6 od7 an7 od8 an8 od9 an9 od10 an10 od11 an11 od12 an12 od13 an13 od14 an14 od15 an15 od16 an16 od17 an17 od18 an18 od19 an19 od20 an20 od21 an21 od22 an22 od23 an23 od24 an24 od25 an25 od26 an26 od27 an27 od28 an28 od29 an29 od30 an30 : Option Addr} {sl0 sl1 sl2 sl3 sl4 sl5 sl6 sl7 sl8 sl9 sl10 sl11 sl12 sl13 sl14 sl15 sl16 sl17 sl18 sl19 sl20 sl21 sl22 sl23 sl24 sl25 sl26 sl27 sl28 sl29 sl30 : Array (Option Value)} {oc0 kV0 dc0 pm0 cd0 ct0 oc1 kV1 dc1 pm1 cd1 ct1 oc2 kV2 dc2 pm2 cd2 ct2 oc3 kV3 dc3 pm3 cd3 ct3 oc4 kV4 dc4 pm4 cd4 ct4 oc5 kV5 dc5 pm5 cd5 ct5 oc6 kV6 dc6 pm6 cd6 ct6 oc7 kV7 dc7 pm7 cd7 ct7 oc8 kV8 dc8 pm8 cd8 ct8 oc9 kV9 dc9 pm9 cd9 ct9 oc10 kV10 dc10 pm10 cd10 ct10 oc11 kV11 dc11 pm11 cd11 ct11 oc12 kV12 dc12 pm12 cd12 ct12 oc13 kV13 dc13 pm13 cd13 ct13 oc14 kV14 dc14 pm14 cd14 ct14 oc15 kV15 dc15 pm15 cd15 ct15 oc16 kV16 dc16 pm16 cd16 ct16 oc17 kV17 dc17 pm17 cd17 ct17 oc18 kV18 dc18 pm18 cd18 ct18 oc19 kV19 dc19 pm19 cd19 ct19 oc20 kV20 dc20 pm20 cd20 ct20 oc21 kV21 dc21 pm21 cd21 ct21 oc22 kV22 dc22 pm22 cd22 ct22 oc23 kV23 dc23 pm23 cd23 ct23 oc24 kV24 dc24 pm24 cd24 ct24 oc25 kV25 dc25 pm25 cd25 ct25 oc26 kV26 dc26 pm26 cd26 ct26 oc27 kV27 dc27 pm27 cd27 ct27 oc28 kV28 dc28 pm28 cd28 ct28 oc29 kV29 dc29 pm29 cd29 ct29 oc30 kV30 dc30 pm30 cd30 ct30 : Value} {t0 t1 : Tok}
    (a0 : PySem.W.nsIn K mainGlobals "is_whole" = some (some (.ref f0)))
    (l0 : K.lookup f0 = some ⟨oc0, od0, .func (PySem.W.fnOf "is_whole" "is_whole" (defArgs (top 16)) (defBody (top 16)) (defScope (top 16)) .none kV0 dc0 pm0 an0 cd0 ct0), sl0⟩)
    (c0 : PySem.W.codeIn K cd0 "is_whole" = true)
    (k0 : PySem.W.keepIn K (.ref f0) = true)
    (a1 : PySem.W.nsIn K mainGlobals "is_from" = some (some (.ref f1)))
    (l1 : K.lookup f1 = some ⟨oc1, od1, .func (PySem.W.fnOf "is_from" "is_from" (defArgs (top 17)) (defBody (top 17)) (defScope (top 17)) .none kV1 dc1 pm1 an1 cd1 ct1), sl1⟩)
    (c1 : PySem.W.codeIn K cd1 "is_from" = true)
    (k1 : PySem.W.keepIn K (.ref f1) = true)
    (a2 : PySem.W.nsIn K mainGlobals "point_good" = some (some (.ref f2)))
    (l2 : K.lookup f2 = some ⟨oc2, od2, .func (PySem.W.fnOf "point_good" "point_good" (defArgs (top 18)) (defBody (top 18)) (defScope (top 18)) .none kV2 dc2 pm2 an2 cd2 ct2), sl2⟩)
    (c2 : PySem.W.codeIn K cd2 "point_good" = true)
    (k2 : PySem.W.keepIn K (.ref f2) = true)
    (a3 : PySem.W.nsIn K mainGlobals "lot_good" = some (some (.ref f3)))
    (l3 : K.lookup f3 = some ⟨oc3, od3, .func (PySem.W.fnOf "lot_good" "lot_good" (defArgs (top 19)) (defBody (top 19)) (defScope (top 19)) .none kV3 dc3 pm3 an3 cd3 ct3), sl3⟩)
    (c3 : PySem.W.codeIn K cd3 "lot_good" = true)
    (k3 : PySem.W.keepIn K (.ref f3) = true)
    (a4 : PySem.W.nsIn K mainGlobals "must_point" = some (some (.ref f4)))
    (l4 : K.lookup f4 = some ⟨oc4, od4, .func (PySem.W.fnOf "must_point" "must_point" (defArgs (top 20)) (defBody (top 20)) (defScope (top 20)) .none kV4 dc4 pm4 an4 cd4 ct4), sl4⟩)
    (c4 : PySem.W.codeIn K cd4 "must_point" = true)
    (k4 : PySem.W.keepIn K (.ref f4) = true)
    (a5 : PySem.W.nsIn K mainGlobals "must_lot" = some (some (.ref f5)))
    (l5 : K.lookup f5 = some ⟨oc5, od5, .func (PySem.W.fnOf "must_lot" "must_lot" (defArgs (top 21)) (defBody (top 21)) (defScope (top 21)) .none kV5 dc5 pm5 an5 cd5 ct5), sl5⟩)
    (c5 : PySem.W.codeIn K cd5 "must_lot" = true)
    (k5 : PySem.W.keepIn K (.ref f5) = true)
    (a6 : PySem.W.nsIn K mainGlobals "far_by" = some (some (.ref f6)))
    (l6 : K.lookup f6 = some ⟨oc6, od6, .func (PySem.W.fnOf "far_by" "far_by" (defArgs (top 22)) (defBody (top 22)) (defScope (top 22)) .none kV6 dc6 pm6 an6 cd6 ct6), sl6⟩)
    (c6 : PySem.W.codeIn K cd6 "far_by" = true)
    (k6 : PySem.W.keepIn K (.ref f6) = true)
    (a7 : PySem.W.nsIn K mainGlobals "far_of" = some (some (.ref f7)))
    (l7 : K.lookup f7 = some ⟨oc7, od7, .func (PySem.W.fnOf "far_of" "far_of" (defArgs (top 23)) (defBody (top 23)) (defScope (top 23)) .none kV7 dc7 pm7 an7 cd7 ct7), sl7⟩)
    (c7 : PySem.W.codeIn K cd7 "far_of" = true)
    (k7 : PySem.W.keepIn K (.ref f7) = true)
    (a8 : PySem.W.nsIn K mainGlobals "counts_in" = some (some (.ref f8)))
    (l8 : K.lookup f8 = some ⟨oc8, od8, .func (PySem.W.fnOf "counts_in" "counts_in" (defArgs (top 24)) (defBody (top 24)) (defScope (top 24)) .none kV8 dc8 pm8 an8 cd8 ct8), sl8⟩)
    (c8 : PySem.W.codeIn K cd8 "counts_in" = true)
    (k8 : PySem.W.keepIn K (.ref f8) = true)
    (a9 : PySem.W.nsIn K mainGlobals "fars_in" = some (some (.ref f9)))
    (l9 : K.lookup f9 = some ⟨oc9, od9, .func (PySem.W.fnOf "fars_in" "fars_in" (defArgs (top 25)) (defBody (top 25)) (defScope (top 25)) .none kV9 dc9 pm9 an9 cd9 ct9), sl9⟩)
    (c9 : PySem.W.codeIn K cd9 "fars_in" = true)
    (k9 : PySem.W.keepIn K (.ref f9) = true)
    (a10 : PySem.W.nsIn K mainGlobals "fars" = some (some (.ref f10)))
    (l10 : K.lookup f10 = some ⟨oc10, od10, .func (PySem.W.fnOf "fars" "fars" (defArgs (top 26)) (defBody (top 26)) (defScope (top 26)) .none kV10 dc10 pm10 an10 cd10 ct10), sl10⟩)
    (c10 : PySem.W.codeIn K cd10 "fars" = true)
    (k10 : PySem.W.keepIn K (.ref f10) = true)
    (a11 : PySem.W.nsIn K mainGlobals "table_in" = some (some (.ref f11)))
    (l11 : K.lookup f11 = some ⟨oc11, od11, .func (PySem.W.fnOf "table_in" "table_in" (defArgs (top 27)) (defBody (top 27)) (defScope (top 27)) .none kV11 dc11 pm11 an11 cd11 ct11), sl11⟩)
    (c11 : PySem.W.codeIn K cd11 "table_in" = true)
    (k11 : PySem.W.keepIn K (.ref f11) = true)
    (a12 : PySem.W.nsIn K mainGlobals "far_table" = some (some (.ref f12)))
    (l12 : K.lookup f12 = some ⟨oc12, od12, .func (PySem.W.fnOf "far_table" "far_table" (defArgs (top 28)) (defBody (top 28)) (defScope (top 28)) .none kV12 dc12 pm12 an12 cd12 ct12), sl12⟩)
    (c12 : PySem.W.codeIn K cd12 "far_table" = true)
    (k12 : PySem.W.keepIn K (.ref f12) = true)
    (a13 : PySem.W.nsIn K mainGlobals "_law_cell" = some (some (.ref f13)))
    (l13 : K.lookup f13 = some ⟨oc13, od13, .func (PySem.W.fnOf "_law_cell" "_law_cell" (defArgs (top 30)) (defBody (top 30)) (defScope (top 30)) .none kV13 dc13 pm13 an13 cd13 ct13), sl13⟩)
    (c13 : PySem.W.codeIn K cd13 "_law_cell" = true)
    (k13 : PySem.W.keepIn K (.ref f13) = true)
    (a14 : PySem.W.nsIn K mainGlobals "_law_pen" = some (some (.ref f14)))
    (l14 : K.lookup f14 = some ⟨oc14, od14, .func (PySem.W.fnOf "_law_pen" "_law_pen" (defArgs (top 31)) (defBody (top 31)) (defScope (top 31)) .none kV14 dc14 pm14 an14 cd14 ct14), sl14⟩)
    (c14 : PySem.W.codeIn K cd14 "_law_pen" = true)
    (k14 : PySem.W.keepIn K (.ref f14) = true)
    (a15 : PySem.W.nsIn K mainGlobals "_law_draw" = some (some (.ref f15)))
    (l15 : K.lookup f15 = some ⟨oc15, od15, .func (PySem.W.fnOf "_law_draw" "_law_draw" (defArgs (top 32)) (defBody (top 32)) (defScope (top 32)) .none kV15 dc15 pm15 an15 cd15 ct15), sl15⟩)
    (c15 : PySem.W.codeIn K cd15 "_law_draw" = true)
    (k15 : PySem.W.keepIn K (.ref f15) = true)
    (a16 : PySem.W.nsIn K mainGlobals "_law_whole" = some (some (.ref f16)))
    (l16 : K.lookup f16 = some ⟨oc16, od16, .func (PySem.W.fnOf "_law_whole" "_law_whole" (defArgs (top 33)) (defBody (top 33)) (defScope (top 33)) .none kV16 dc16 pm16 an16 cd16 ct16), sl16⟩)
    (c16 : PySem.W.codeIn K cd16 "_law_whole" = true)
    (k16 : PySem.W.keepIn K (.ref f16) = true)
    (a17 : PySem.W.nsIn K mainGlobals "_law_same" = some (some (.ref f17)))
    (l17 : K.lookup f17 = some ⟨oc17, od17, .func (PySem.W.fnOf "_law_same" "_law_same" (defArgs (top 34)) (defBody (top 34)) (defScope (top 34)) .none kV17 dc17 pm17 an17 cd17 ct17), sl17⟩)
    (c17 : PySem.W.codeIn K cd17 "_law_same" = true)
    (k17 : PySem.W.keepIn K (.ref f17) = true)
    (a18 : PySem.W.nsIn K mainGlobals "_law_kind_of" = some (some (.ref f18)))
    (l18 : K.lookup f18 = some ⟨oc18, od18, .func (PySem.W.fnOf "_law_kind_of" "_law_kind_of" (defArgs (top 35)) (defBody (top 35)) (defScope (top 35)) .none kV18 dc18 pm18 an18 cd18 ct18), sl18⟩)
    (c18 : PySem.W.codeIn K cd18 "_law_kind_of" = true)
    (k18 : PySem.W.keepIn K (.ref f18) = true)
    (a19 : PySem.W.nsIn K mainGlobals "_law_point" = some (some (.ref f19)))
    (l19 : K.lookup f19 = some ⟨oc19, od19, .func (PySem.W.fnOf "_law_point" "_law_point" (defArgs (top 36)) (defBody (top 36)) (defScope (top 36)) .none kV19 dc19 pm19 an19 cd19 ct19), sl19⟩)
    (c19 : PySem.W.codeIn K cd19 "_law_point" = true)
    (k19 : PySem.W.keepIn K (.ref f19) = true)
    (a20 : PySem.W.nsIn K mainGlobals "_law_lot" = some (some (.ref f20)))
    (l20 : K.lookup f20 = some ⟨oc20, od20, .func (PySem.W.fnOf "_law_lot" "_law_lot" (defArgs (top 37)) (defBody (top 37)) (defScope (top 37)) .none kV20 dc20 pm20 an20 cd20 ct20), sl20⟩)
    (c20 : PySem.W.codeIn K cd20 "_law_lot" = true)
    (k20 : PySem.W.keepIn K (.ref f20) = true)
    (a21 : PySem.W.nsIn K mainGlobals "_law_is_point" = some (some (.ref f21)))
    (l21 : K.lookup f21 = some ⟨oc21, od21, .func (PySem.W.fnOf "_law_is_point" "_law_is_point" (defArgs (top 38)) (defBody (top 38)) (defScope (top 38)) .none kV21 dc21 pm21 an21 cd21 ct21), sl21⟩)
    (c21 : PySem.W.codeIn K cd21 "_law_is_point" = true)
    (k21 : PySem.W.keepIn K (.ref f21) = true)
    (a22 : PySem.W.nsIn K mainGlobals "_law_is_lot" = some (some (.ref f22)))
    (l22 : K.lookup f22 = some ⟨oc22, od22, .func (PySem.W.fnOf "_law_is_lot" "_law_is_lot" (defArgs (top 39)) (defBody (top 39)) (defScope (top 39)) .none kV22 dc22 pm22 an22 cd22 ct22), sl22⟩)
    (c22 : PySem.W.codeIn K cd22 "_law_is_lot" = true)
    (k22 : PySem.W.keepIn K (.ref f22) = true)
    (a23 : PySem.W.nsIn K mainGlobals "_law_no_point" = some (some (.ref f23)))
    (l23 : K.lookup f23 = some ⟨oc23, od23, .func (PySem.W.fnOf "_law_no_point" "_law_no_point" (defArgs (top 40)) (defBody (top 40)) (defScope (top 40)) .none kV23 dc23 pm23 an23 cd23 ct23), sl23⟩)
    (c23 : PySem.W.codeIn K cd23 "_law_no_point" = true)
    (k23 : PySem.W.keepIn K (.ref f23) = true)
    (a24 : PySem.W.nsIn K mainGlobals "_law_no_lot" = some (some (.ref f24)))
    (l24 : K.lookup f24 = some ⟨oc24, od24, .func (PySem.W.fnOf "_law_no_lot" "_law_no_lot" (defArgs (top 41)) (defBody (top 41)) (defScope (top 41)) .none kV24 dc24 pm24 an24 cd24 ct24), sl24⟩)
    (c24 : PySem.W.codeIn K cd24 "_law_no_lot" = true)
    (k24 : PySem.W.keepIn K (.ref f24) = true)
    (a25 : PySem.W.nsIn K mainGlobals "_law_far" = some (some (.ref f25)))
    (l25 : K.lookup f25 = some ⟨oc25, od25, .func (PySem.W.fnOf "_law_far" "_law_far" (defArgs (top 42)) (defBody (top 42)) (defScope (top 42)) .none kV25 dc25 pm25 an25 cd25 ct25), sl25⟩)
    (c25 : PySem.W.codeIn K cd25 "_law_far" = true)
    (k25 : PySem.W.keepIn K (.ref f25) = true)
    (a26 : PySem.W.nsIn K mainGlobals "_law_pairs" = some (some (.ref f26)))
    (l26 : K.lookup f26 = some ⟨oc26, od26, .func (PySem.W.fnOf "_law_pairs" "_law_pairs" (defArgs (top 43)) (defBody (top 43)) (defScope (top 43)) .none kV26 dc26 pm26 an26 cd26 ct26), sl26⟩)
    (c26 : PySem.W.codeIn K cd26 "_law_pairs" = true)
    (k26 : PySem.W.keepIn K (.ref f26) = true)
    (a27 : PySem.W.nsIn K mainGlobals "_law_fars" = some (some (.ref f27)))
    (l27 : K.lookup f27 = some ⟨oc27, od27, .func (PySem.W.fnOf "_law_fars" "_law_fars" (defArgs (top 44)) (defBody (top 44)) (defScope (top 44)) .none kV27 dc27 pm27 an27 cd27 ct27), sl27⟩)
    (c27 : PySem.W.codeIn K cd27 "_law_fars" = true)
    (k27 : PySem.W.keepIn K (.ref f27) = true)
    (a28 : PySem.W.nsIn K mainGlobals "_law_table" = some (some (.ref f28)))
    (l28 : K.lookup f28 = some ⟨oc28, od28, .func (PySem.W.fnOf "_law_table" "_law_table" (defArgs (top 45)) (defBody (top 45)) (defScope (top 45)) .none kV28 dc28 pm28 an28 cd28 ct28), sl28⟩)
    (c28 : PySem.W.codeIn K cd28 "_law_table" = true)
    (k28 : PySem.W.keepIn K (.ref f28) = true)
    (a29 : PySem.W.nsIn K mainGlobals "_law_came" = some (some (.ref f29)))
    (l29 : K.lookup f29 = some ⟨oc29, od29, .func (PySem.W.fnOf "_law_came" "_law_came" (defArgs (top 46)) (defBody (top 46)) (defScope (top 46)) .none kV29 dc29 pm29 an29 cd29 ct29), sl29⟩)
    (c29 : PySem.W.codeIn K cd29 "_law_came" = true)
    (k29 : PySem.W.keepIn K (.ref f29) = true)
    (a30 : PySem.W.nsIn K mainGlobals "law" = some (some (.ref f30)))
    (l30 : K.lookup f30 = some ⟨oc30, od30, .func (PySem.W.fnOf "law" "law" (defArgs (top 47)) (defBody (top 47)) (defScope (top 47)) .none kV30 dc30 pm30 an30 cd30 ct30), sl30⟩)
    (c30 : PySem.W.codeIn K cd30 "law" = true)
    (k30 : PySem.W.keepIn K (.ref f30) = true)
    (cA0 : PySem.W.nsIn K mainGlobals "FarError" = some (some (.ref C0)))
    (kc0 : PySem.W.keepIn K (.ref C0) = true)
    (cA1 : PySem.W.nsIn K mainGlobals "NoPoint" = some (some (.ref C1)))
    (kc1 : PySem.W.keepIn K (.ref C1) = true)
    (cA2 : PySem.W.nsIn K mainGlobals "NoLot" = some (some (.ref C2)))
    (kc2 : PySem.W.keepIn K (.ref C2) = true)
    (cA3 : PySem.W.nsIn K mainGlobals "NoNumber" = some (some (.ref C3)))
    (kc3 : PySem.W.keepIn K (.ref C3) = true)
    (cA4 : PySem.W.nsIn K mainGlobals "NoCircle" = some (some (.ref C4)))
    (kc4 : PySem.W.keepIn K (.ref C4) = true)
    (cA5 : PySem.W.nsIn K mainGlobals "NoMarks" = some (some (.ref C5)))
    (kc5 : PySem.W.keepIn K (.ref C5) = true)
    (cA6 : PySem.W.nsIn K mainGlobals "NoFars" = some (some (.ref C6)))
    (kc6 : PySem.W.keepIn K (.ref C6) = true)
    (cA7 : PySem.W.nsIn K mainGlobals "NoText" = some (some (.ref C7)))
    (kc7 : PySem.W.keepIn K (.ref C7) = true)
    (cA8 : PySem.W.nsIn K mainGlobals "NoLine" = some (some (.ref C8)))
    (kc8 : PySem.W.keepIn K (.ref C8) = true)
    (cA9 : PySem.W.nsIn K mainGlobals "NoDeed" = some (some (.ref C9)))
    (kc9 : PySem.W.keepIn K (.ref C9) = true)
    (cA10 : PySem.W.nsIn K mainGlobals "Alike" = some (some (.ref C10)))
    (kc10 : PySem.W.keepIn K (.ref C10) = true)
    (cA11 : PySem.W.nsIn K mainGlobals "TooMany" = some (some (.ref C11)))
    (kc11 : PySem.W.keepIn K (.ref C11) = true)
    (z0 : PySem.W.nsIn K mainGlobals "ValueError" = some none)
    (z1 : PySem.W.nsIn K mainGlobals "all" = some none)
    (z2 : PySem.W.nsIn K mainGlobals "bool" = some none)
    (z3 : PySem.W.nsIn K mainGlobals "enumerate" = some none)
    (z4 : PySem.W.nsIn K mainGlobals "int" = some none)
    (z5 : PySem.W.nsIn K mainGlobals "isinstance" = some none)
    (z6 : PySem.W.nsIn K mainGlobals "len" = some none)
    (z7 : PySem.W.nsIn K mainGlobals "list" = some none)
    (z8 : PySem.W.nsIn K mainGlobals "range" = some none)
    (z9 : PySem.W.nsIn K mainGlobals "repr" = some none)
    (z10 : PySem.W.nsIn K mainGlobals "set" = some none)
    (z11 : PySem.W.nsIn K mainGlobals "sorted" = some none)
    (z12 : PySem.W.nsIn K mainGlobals "str" = some none)
    (z13 : PySem.W.nsIn K mainGlobals "tuple" = some none)
    (z14 : PySem.W.nsIn K mainGlobals "zip" = some none)
    (n0 : PySem.W.nsIn K mainGlobals "MOST_PART" = some (some (.int 1000 t0)))
    (n1 : PySem.W.nsIn K mainGlobals "MOST_POINTS" = some (some (.int 40 t1)))
    (x1 : PySem.W.excIn K C1 [.type "ValueError", .type "Exception", .type "BaseException", .type "object"] "ValueError.__new__" = true)
    (b1 : PySem.W.subIn K (.ref C1) (.type "BaseException") = some true)
    (y1 : PySem.W.typeIn K (.ref C1) = some (.type "type"))
    (e1a : PySem.W.findIn K (.ref C1) "__getattribute__" = some (some (.builtin "BaseException.__getattribute__")))
    (e1b : PySem.W.findIn K (.ref C1) "__getattr__" = some none)
    (e1c : PySem.W.hasDictIn K C1 = true)
    (e1d : PySem.W.findIn K (.ref C1) "__class__" = some (some (.builtin "object.__class__")))
    (e1e : PySem.W.specialIn K (.builtin "object.__class__") "__get__" = some (some (.builtin "getset_descriptor.__get__")))
    (e1f : PySem.W.takesIn K (.builtin "object.__class__") = some true)
    (e1g : PySem.W.mroIn K C1 (.type "object") = some true)
    (v1 : PySem.W.kitOne K (.ref C1) (.type "ValueError") = some true)
    (q1_0 : PySem.W.kitOne K (.ref C1) (.ref C0) = some true)
    (q1_1 : PySem.W.kitOne K (.ref C1) (.ref C1) = some true)
    (q1_2 : PySem.W.kitOne K (.ref C1) (.ref C2) = some false)
    (q1_3 : PySem.W.kitOne K (.ref C1) (.ref C3) = some false)
    (q1_4 : PySem.W.kitOne K (.ref C1) (.ref C4) = some false)
    (q1_5 : PySem.W.kitOne K (.ref C1) (.ref C5) = some false)
    (q1_6 : PySem.W.kitOne K (.ref C1) (.ref C6) = some false)
    (q1_7 : PySem.W.kitOne K (.ref C1) (.ref C7) = some false)
    (q1_8 : PySem.W.kitOne K (.ref C1) (.ref C8) = some false)
    (q1_9 : PySem.W.kitOne K (.ref C1) (.ref C9) = some false)
    (q1_10 : PySem.W.kitOne K (.ref C1) (.ref C10) = some false)
    (q1_11 : PySem.W.kitOne K (.ref C1) (.ref C11) = some false)
    (u1 : PySem.W.subIn K (.ref C1) (.ref C0) = some true)
    (x2 : PySem.W.excIn K C2 [.type "ValueError", .type "Exception", .type "BaseException", .type "object"] "ValueError.__new__" = true)
    (b2 : PySem.W.subIn K (.ref C2) (.type "BaseException") = some true)
    (y2 : PySem.W.typeIn K (.ref C2) = some (.type "type"))
    (e2a : PySem.W.findIn K (.ref C2) "__getattribute__" = some (some (.builtin "BaseException.__getattribute__")))
    (e2b : PySem.W.findIn K (.ref C2) "__getattr__" = some none)
    (e2c : PySem.W.hasDictIn K C2 = true)
    (e2d : PySem.W.findIn K (.ref C2) "__class__" = some (some (.builtin "object.__class__")))
    (e2e : PySem.W.specialIn K (.builtin "object.__class__") "__get__" = some (some (.builtin "getset_descriptor.__get__")))
    (e2f : PySem.W.takesIn K (.builtin "object.__class__") = some true)
    (e2g : PySem.W.mroIn K C2 (.type "object") = some true)
    (v2 : PySem.W.kitOne K (.ref C2) (.type "ValueError") = some true)
    (q2_0 : PySem.W.kitOne K (.ref C2) (.ref C0) = some true)
    (q2_1 : PySem.W.kitOne K (.ref C2) (.ref C1) = some false)
    (q2_2 : PySem.W.kitOne K (.ref C2) (.ref C2) = some true)
    (q2_3 : PySem.W.kitOne K (.ref C2) (.ref C3) = some false)
    (q2_4 : PySem.W.kitOne K (.ref C2) (.ref C4) = some false)
    (q2_5 : PySem.W.kitOne K (.ref C2) (.ref C5) = some false)
    (q2_6 : PySem.W.kitOne K (.ref C2) (.ref C6) = some false)
    (q2_7 : PySem.W.kitOne K (.ref C2) (.ref C7) = some false)
    (q2_8 : PySem.W.kitOne K (.ref C2) (.ref C8) = some false)
    (q2_9 : PySem.W.kitOne K (.ref C2) (.ref C9) = some false)
    (q2_10 : PySem.W.kitOne K (.ref C2) (.ref C10) = some false)
    (q2_11 : PySem.W.kitOne K (.ref C2) (.ref C11) = some false)
    (u2 : PySem.W.subIn K (.ref C2) (.ref C0) = some true)
    (hf1 : PySem.W.subIn K (.ref C0) (.type "BaseException") = some true)
    (hf2 : PySem.W.hasDictIn K C0 = true)
    (hf3 : PySem.W.typeIn K (.ref C0) = some (.type "type")) :
    ∃ fd : FuncData, (∀ (s : Shared) (v : Value), BindsTo s fd ⟨[v], []⟩ [("_law_script", v)]) ∧ ∀ base : Heap, K.In base → base.Ns mainGlobals mg → (∀ p ∈ ([] : List (Addr × Addr)), LamX.TabB base mg p.1 p.2) → FnG P w K mg base (L2.CX P w) 21 fa fd ["_law_script"] (spLaw K []) := by
  have hl := hfa.symm.trans (PySem.W.mg_of X N a30)
  cases hl
  have F0 := fun_mk (st := top 16) l0 c0 k0
  have B0 := F0.binds (ps := ["thing"]) fun _ _ _ _ _ _ us hl => match us, hl with | [_], _ => rfl
  have F1 := fun_mk (st := top 17) l1 c1 k1
  have B1 := F1.binds (ps := ["thing", "low", "high"]) fun _ _ _ _ _ _ us hl => match us, hl with | [_, _, _], _ => rfl
  have F2 := fun_mk (st := top 18) l2 c2 k2
  have B2 := F2.binds (ps := ["thing"]) fun _ _ _ _ _ _ us hl => match us, hl with | [_], _ => rfl
  have F3 := fun_mk (st := top 19) l3 c3 k3
  have B3 := F3.binds (ps := ["thing"]) fun _ _ _ _ _ _ us hl => match us, hl with | [_], _ => rfl
  have F4 := fun_mk (st := top 20) l4 c4 k4
  have B4 := F4.binds (ps := ["point"]) fun _ _ _ _ _ _ us hl => match us, hl with | [_], _ => rfl
  have F5 := fun_mk (st := top 21) l5 c5 k5
  have B5 := F5.binds (ps := ["lot"]) fun _ _ _ _ _ _ us hl => match us, hl with | [_], _ => rfl
  have F6 := fun_mk (st := top 22) l6 c6 k6
  have B6 := F6.binds (ps := ["one", "other"]) fun _ _ _ _ _ _ us hl => match us, hl with | [_, _], _ => rfl
  have F7 := fun_mk (st := top 23) l7 c7 k7
  have B7 := F7.binds (ps := ["one", "other"]) fun _ _ _ _ _ _ us hl => match us, hl with | [_, _], _ => rfl
  have F8 := fun_mk (st := top 24) l8 c8 k8
  have B8 := F8.binds (ps := ["lot"]) fun _ _ _ _ _ _ us hl => match us, hl with | [_], _ => rfl
  have F9 := fun_mk (st := top 25) l9 c9 k9
  have B9 := F9.binds (ps := ["lot"]) fun _ _ _ _ _ _ us hl => match us, hl with | [_], _ => rfl
  have F10 := fun_mk (st := top 26) l10 c10 k10
  have B10 := F10.binds (ps := ["lot"]) fun _ _ _ _ _ _ us hl => match us, hl with | [_], _ => rfl
  have F11 := fun_mk (st := top 27) l11 c11 k11
  have B11 := F11.binds (ps := ["lot"]) fun _ _ _ _ _ _ us hl => match us, hl with | [_], _ => rfl
  have F12 := fun_mk (st := top 28) l12 c12 k12
  have B12 := F12.binds (ps := ["lot"]) fun _ _ _ _ _ _ us hl => match us, hl with | [_], _ => rfl
  have F13 := fun_mk (st := top 30) l13 c13 k13
  have B13 := F13.binds (ps := ["_law_script", "_law_k"]) fun _ _ _ _ _ _ us hl => match us, hl with | [_, _], _ => rfl
  have F14 := fun_mk (st := top 31) l14 c14 k14
  have B14 := F14.binds (ps := ["_law_cell_here"]) fun _ _ _ _ _ _ us hl => match us, hl with | [_], _ => rfl
  have F15 := fun_mk (st := top 32) l15 c15 k15
  have B15 := F15.binds (ps := ["_law_pen_here", "_law_many"]) fun _ _ _ _ _ _ us hl => match us, hl with | [_, _], _ => rfl
  have F16 := fun_mk (st := top 33) l16 c16 k16
  have B16 := F16.binds (ps := ["_law_thing"]) fun _ _ _ _ _ _ us hl => match us, hl with | [_], _ => rfl
  have F17 := fun_mk (st := top 34) l17 c17 k17
  have B17 := F17.binds (ps := ["_law_found", "_law_due"]) fun _ _ _ _ _ _ us hl => match us, hl with | [_, _], _ => rfl
  have F18 := fun_mk (st := top 35) l18 c18 k18
  have B18 := F18.binds (ps := ["_law_e"]) fun _ _ _ _ _ _ us hl => match us, hl with | [_], _ => rfl
  have F19 := fun_mk (st := top 36) l19 c19 k19
  have B19 := F19.binds (ps := ["_law_pen_here", "_law_wide"]) fun _ _ _ _ _ _ us hl => match us, hl with | [_, _], _ => rfl
  have F20 := fun_mk (st := top 37) l20 c20 k20
  have B20 := F20.binds (ps := ["_law_pen_here", "_law_most"]) fun _ _ _ _ _ _ us hl => match us, hl with | [_, _], _ => rfl
  have F21 := fun_mk (st := top 38) l21 c21 k21
  have B21 := F21.binds (ps := ["_law_thing"]) fun _ _ _ _ _ _ us hl => match us, hl with | [_], _ => rfl
  have F22 := fun_mk (st := top 39) l22 c22 k22
  have B22 := F22.binds (ps := ["_law_thing"]) fun _ _ _ _ _ _ us hl => match us, hl with | [_], _ => rfl
  have F23 := fun_mk (st := top 40) l23 c23 k23
  have B23 := F23.binds (ps := ["_law_pen_here", "_law_point_here"]) fun _ _ _ _ _ _ us hl => match us, hl with | [_, _], _ => rfl
  have F24 := fun_mk (st := top 41) l24 c24 k24
  have B24 := F24.binds (ps := ["_law_pen_here", "_law_lot_here"]) fun _ _ _ _ _ _ us hl => match us, hl with | [_, _], _ => rfl
  have F25 := fun_mk (st := top 42) l25 c25 k25
  have B25 := F25.binds (ps := ["_law_one", "_law_other"]) fun _ _ _ _ _ _ us hl => match us, hl with | [_, _], _ => rfl
  have F26 := fun_mk (st := top 43) l26 c26 k26
  have B26 := F26.binds (ps := ["_law_lot_here"]) fun _ _ _ _ _ _ us hl => match us, hl with | [_], _ => rfl
  have F27 := fun_mk (st := top 44) l27 c27 k27
  have B27 := F27.binds (ps := ["_law_lot_here"]) fun _ _ _ _ _ _ us hl => match us, hl with | [_], _ => rfl
  have F28 := fun_mk (st := top 45) l28 c28 k28
  have B28 := F28.binds (ps := ["_law_lot_here"]) fun _ _ _ _ _ _ us hl => match us, hl with | [_], _ => rfl
  have F29 := fun_mk (st := top 46) l29 c29 k29
  have B29 := F29.binds (ps := ["_law_way", "_law_one", "_law_other"]) fun _ _ _ _ _ _ us hl => match us, hl with | [_, _, _], _ => rfl
  have F30 := fun_mk (st := top 47) l30 c30 k30
  have B30 := F30.binds (ps := ["_law_script"]) fun _ _ _ _ _ _ us hl => match us, hl with | [_], _ => rfl
  have cm : ∀ (c : Nat) (x : Str), gc.clss.lookup c = some x → mg x = some (.ref ((clsT [(0, f0), (1, f1), (2, f2), (3, f3), (19, f4), (20, f5), (21, f6), (22, f7), (23, f8), (24, f9), (25, f10), (26, f11), (27, f12), (6, f13), (7, f14), (8, f15), (9, f16), (10, f17), (11, f19), (12, f20), (13, f21), (14, f22), (15, f23), (16, f24), (29, f25), (30, f26), (31, f27), (32, f28), (33, f29), (34, fa)] [(0, C0), (1, C1), (2, C2), (3, C3), (4, C4), (5, C5), (6, C6), (7, C7), (8, C8), (9, C9), (10, C10), (11, C11)] C11 []).cls c)) ∧ PySem.W.keepIn K (.ref ((clsT [(0, f0), (1, f1), (2, f2), (3, f3), (19, f4), (20, f5), (21, f6), (22, f7), (23, f8), (24, f9), (25, f10), (26, f11), (27, f12), (6, f13), (7, f14), (8, f15), (9, f16), (10, f17), (11, f19), (12, f20), (13, f21), (14, f22), (15, f23), (16, f24), (29, f25), (30, f26), (31, f27), (32, f28), (33, f29), (34, fa)] [(0, C0), (1, C1), (2, C2), (3, C3), (4, C4), (5, C5), (6, C6), (7, C7), (8, C8), (9, C9), (10, C10), (11, C11)] C11 []).cls c)) = true := by
    intro c x e
    match c, e with
    | 0, e => cases e; exact ⟨PySem.W.mg_of X N cA0, kc0⟩
    | 1, e => cases e; exact ⟨PySem.W.mg_of X N cA1, kc1⟩
    | 2, e => cases e; exact ⟨PySem.W.mg_of X N cA2, kc2⟩
    | 3, e => cases e; exact ⟨PySem.W.mg_of X N cA3, kc3⟩
    | 4, e => cases e; exact ⟨PySem.W.mg_of X N cA4, kc4⟩
    | 5, e => cases e; exact ⟨PySem.W.mg_of X N cA5, kc5⟩
    | 6, e => cases e; exact ⟨PySem.W.mg_of X N cA6, kc6⟩
    | 7, e => cases e; exact ⟨PySem.W.mg_of X N cA7, kc7⟩
    | 8, e => cases e; exact ⟨PySem.W.mg_of X N cA8, kc8⟩
    | 9, e => cases e; exact ⟨PySem.W.mg_of X N cA9, kc9⟩
    | 10, e => cases e; exact ⟨PySem.W.mg_of X N cA10, kc10⟩
    | 11, e => cases e; exact ⟨PySem.W.mg_of X N cA11, kc11⟩
    | 12, e => cases e
    | c + 13, e => simp [gc, List.lookup] at e
  have O1 : ClsOk K (clsT [(0, f0), (1, f1), (2, f2), (3, f3), (19, f4), (20, f5), (21, f6), (22, f7), (23, f8), (24, f9), (25, f10), (26, f11), (27, f12), (6, f13), (7, f14), (8, f15), (9, f16), (10, f17), (11, f19), (12, f20), (13, f21), (14, f22), (15, f23), (16, f24), (29, f25), (30, f26), (31, f27), (32, f28), (33, f29), (34, fa)] [(0, C0), (1, C1), (2, C2), (3, C3), (4, C4), (5, C5), (6, C6), (7, C7), (8, C8), (9, C9), (10, C10), (11, C11)] C11 []) sub 1 := ⟨⟨e1a, e1b, b1, e1c, e1d, e1e, e1f, e1g⟩, v1, fun c' => match c' with
      | 0 => q1_0
      | 1 => q1_1
      | 2 => q1_2
      | 3 => q1_3
      | 4 => q1_4
      | 5 => q1_5
      | 6 => q1_6
      | 7 => q1_7
      | 8 => q1_8
      | 9 => q1_9
      | 10 => q1_10
      | 11 => q1_11
      | 12 => q1_11
      | c' + 13 => by
        have e : sub 1 (c' + 13) = false := by unfold sub; simp <;> omega
        rw [e]
        have e2 : (clsT [(0, f0), (1, f1), (2, f2), (3, f3), (19, f4), (20, f5), (21, f6), (22, f7), (23, f8), (24, f9), (25, f10), (26, f11), (27, f12), (6, f13), (7, f14), (8, f15), (9, f16), (10, f17), (11, f19), (12, f20), (13, f21), (14, f22), (15, f23), (16, f24), (29, f25), (30, f26), (31, f27), (32, f28), (33, f29), (34, fa)] [(0, C0), (1, C1), (2, C2), (3, C3), (4, C4), (5, C5), (6, C6), (7, C7), (8, C8), (9, C9), (10, C10), (11, C11)] C11 []).cls (c' + 13) = C11 := by simp [clsT, List.lookup]
        rw [e2]
        exact q1_11⟩
  have O2 : ClsOk K (clsT [(0, f0), (1, f1), (2, f2), (3, f3), (19, f4), (20, f5), (21, f6), (22, f7), (23, f8), (24, f9), (25, f10), (26, f11), (27, f12), (6, f13), (7, f14), (8, f15), (9, f16), (10, f17), (11, f19), (12, f20), (13, f21), (14, f22), (15, f23), (16, f24), (29, f25), (30, f26), (31, f27), (32, f28), (33, f29), (34, fa)] [(0, C0), (1, C1), (2, C2), (3, C3), (4, C4), (5, C5), (6, C6), (7, C7), (8, C8), (9, C9), (10, C10), (11, C11)] C11 []) sub 2 := ⟨⟨e2a, e2b, b2, e2c, e2d, e2e, e2f, e2g⟩, v2, fun c' => match c' with
      | 0 => q2_0
      | 1 => q2_1
      | 2 => q2_2
      | 3 => q2_3
      | 4 => q2_4
      | 5 => q2_5
      | 6 => q2_6
      | 7 => q2_7
      | 8 => q2_8
      | 9 => q2_9
      | 10 => q2_10
      | 11 => q2_11
      | 12 => q2_11
      | c' + 13 => by
        have e : sub 2 (c' + 13) = false := by unfold sub; simp <;> omega
        rw [e]
        have e2 : (clsT [(0, f0), (1, f1), (2, f2), (3, f3), (19, f4), (20, f5), (21, f6), (22, f7), (23, f8), (24, f9), (25, f10), (26, f11), (27, f12), (6, f13), (7, f14), (8, f15), (9, f16), (10, f17), (11, f19), (12, f20), (13, f21), (14, f22), (15, f23), (16, f24), (29, f25), (30, f26), (31, f27), (32, f28), (33, f29), (34, fa)] [(0, C0), (1, C1), (2, C2), (3, C3), (4, C4), (5, C5), (6, C6), (7, C7), (8, C8), (9, C9), (10, C10), (11, C11)] C11 []).cls (c' + 13) = C11 := by simp [clsT, List.lookup]
        rw [e2]
        exact q2_11⟩
  have zn : ∀ x, gc.none.contains x = true → mg x = none := by
    intro x e
    simp only [gc, List.contains_iff_mem, List.mem_cons, List.not_mem_nil, or_false] at e
    rcases e with rfl | rfl | rfl | rfl | rfl | rfl | rfl | rfl | rfl | rfl | rfl | rfl | rfl | rfl | rfl
    · exact PySem.W.mg_none_of X N z0
    · exact PySem.W.mg_none_of X N z1
    · exact PySem.W.mg_none_of X N z2
    · exact PySem.W.mg_none_of X N z3
    · exact PySem.W.mg_none_of X N z4
    · exact PySem.W.mg_none_of X N z5
    · exact PySem.W.mg_none_of X N z6
    · exact PySem.W.mg_none_of X N z7
    · exact PySem.W.mg_none_of X N z8
    · exact PySem.W.mg_none_of X N z9
    · exact PySem.W.mg_none_of X N z10
    · exact PySem.W.mg_none_of X N z11
    · exact PySem.W.mg_none_of X N z12
    · exact PySem.W.mg_none_of X N z13
    · exact PySem.W.mg_none_of X N z14
  have nn : ∀ x i, gc.nums.contains (x, i) = true → ∃ t, mg x = some (.int i t) := by
    intro x i e
    simp only [gc, List.contains_iff_mem, List.mem_cons, List.not_mem_nil, or_false, Prod.mk.injEq] at e
    rcases e with ⟨rfl, rfl⟩ | ⟨rfl, rfl⟩
    · exact ⟨_, PySem.W.mg_of X N n0⟩
    · exact ⟨_, PySem.W.mg_of X N n1⟩
  have rr : ∀ (c : Nat) (x : Str), gc.rais.contains c = true → gc.clss.lookup c = some x → ∃ (B newId initId : String) (bmB : List Value), ExcBaseFacts B newId initId bmB ∧ PySem.W.excIn K ((clsT [(0, f0), (1, f1), (2, f2), (3, f3), (19, f4), (20, f5), (21, f6), (22, f7), (23, f8), (24, f9), (25, f10), (26, f11), (27, f12), (6, f13), (7, f14), (8, f15), (9, f16), (10, f17), (11, f19), (12, f20), (13, f21), (14, f22), (15, f23), (16, f24), (29, f25), (30, f26), (31, f27), (32, f28), (33, f29), (34, fa)] [(0, C0), (1, C1), (2, C2), (3, C3), (4, C4), (5, C5), (6, C6), (7, C7), (8, C8), (9, C9), (10, C10), (11, C11)] C11 []).cls c) bmB newId = true ∧ PySem.W.subIn K (.ref ((clsT [(0, f0), (1, f1), (2, f2), (3, f3), (19, f4), (20, f5), (21, f6), (22, f7), (23, f8), (24, f9), (25, f10), (26, f11), (27, f12), (6, f13), (7, f14), (8, f15), (9, f16), (10, f17), (11, f19), (12, f20), (13, f21), (14, f22), (15, f23), (16, f24), (29, f25), (30, f26), (31, f27), (32, f28), (33, f29), (34, fa)] [(0, C0), (1, C1), (2, C2), (3, C3), (4, C4), (5, C5), (6, C6), (7, C7), (8, C8), (9, C9), (10, C10), (11, C11)] C11 []).cls c)) (.type "BaseException") = some true ∧ PySem.W.typeIn K (.ref ((clsT [(0, f0), (1, f1), (2, f2), (3, f3), (19, f4), (20, f5), (21, f6), (22, f7), (23, f8), (24, f9), (25, f10), (26, f11), (27, f12), (6, f13), (7, f14), (8, f15), (9, f16), (10, f17), (11, f19), (12, f20), (13, f21), (14, f22), (15, f23), (16, f24), (29, f25), (30, f26), (31, f27), (32, f28), (33, f29), (34, fa)] [(0, C0), (1, C1), (2, C2), (3, C3), (4, C4), (5, C5), (6, C6), (7, C7), (8, C8), (9, C9), (10, C10), (11, C11)] C11 []).cls c)) = some (.type "type") := by
    intro c x hc e
    simp only [gc, List.contains_iff_mem, List.mem_cons, List.not_mem_nil, or_false] at hc
    rcases hc with rfl | rfl
    · exact ⟨_, _, _, _, PySem.F.excBase_ValueError, x1, b1, y1⟩
    · exact ⟨_, _, _, _, PySem.F.excBase_ValueError, x2, b2, y2⟩
  have ff : ∀ (f : Nat) (n : Str) (j : Nat), gc.fns.lookup f = some (n, j) → ∃ (d : Df) (st : Stmt) (qual : Str) (a : Addr) (fd : FuncData) (ps : List Str), defs f = some d ∧ d.ar = j ∧ ps.length = j ∧ Fun K n qual st a fd ∧ FnScope d.N ps (defScope st) ∧ (ck gc d.body).b (ccOf d st) (defBody st) = true ∧ mg n = some (.ref a) ∧ Binds K fd ps [] ∧ (clsT [(0, f0), (1, f1), (2, f2), (3, f3), (19, f4), (20, f5), (21, f6), (22, f7), (23, f8), (24, f9), (25, f10), (26, f11), (27, f12), (6, f13), (7, f14), (8, f15), (9, f16), (10, f17), (11, f19), (12, f20), (13, f21), (14, f22), (15, f23), (16, f24), (29, f25), (30, f26), (31, f27), (32, f28), (33, f29), (34, fa)] [(0, C0), (1, C1), (2, C2), (3, C3), (4, C4), (5, C5), (6, C6), (7, C7), (8, C8), (9, C9), (10, C10), (11, C11)] C11 []).fn f = a ∧ (d.lam = true → ∃ c0 P0, fd.code = .ref c0 ∧ (P0, qual ++ ".<locals>." ++ "<lambda>") ∈ (clsT [(0, f0), (1, f1), (2, f2), (3, f3), (19, f4), (20, f5), (21, f6), (22, f7), (23, f8), (24, f9), (25, f10), (26, f11), (27, f12), (6, f13), (7, f14), (8, f15), (9, f16), (10, f17), (11, f19), (12, f20), (13, f21), (14, f22), (15, f23), (16, f24), (29, f25), (30, f26), (31, f27), (32, f28), (33, f29), (34, fa)] [(0, C0), (1, C1), (2, C2), (3, C3), (4, C4), (5, C5), (6, C6), (7, C7), (8, C8), (9, C9), (10, C10), (11, C11)] C11 []).tabs ∧ (∀ p ∈ (clsT [(0, f0), (1, f1), (2, f2), (3, f3), (19, f4), (20, f5), (21, f6), (22, f7), (23, f8), (24, f9), (25, f10), (26, f11), (27, f12), (6, f13), (7, f14), (8, f15), (9, f16), (10, f17), (11, f19), (12, f20), (13, f21), (14, f22), (15, f23), (16, f24), (29, f25), (30, f26), (31, f27), (32, f28), (33, f29), (34, fa)] [(0, C0), (1, C1), (2, C2), (3, C3), (4, C4), (5, C5), (6, C6), (7, C7), (8, C8), (9, C9), (10, C10), (11, C11)] C11 []).tabs, p.1 = P0 → p.2 = qual ++ ".<locals>." ++ "<lambda>") ∧ ∀ (base : Heap), (∀ p ∈ ([] : List (Addr × Addr)), LamX.TabB base mg p.1 p.2) → LamX.TabB base mg c0 P0) := by
    intro f n j e
    have hm := lookup_mem e
    simp only [gc, List.mem_cons, List.not_mem_nil, or_false, Prod.mk.injEq] at hm
    rcases hm with ⟨rfl, rfl, rfl⟩ | ⟨rfl, rfl, rfl⟩ | ⟨rfl, rfl, rfl⟩ | ⟨rfl, rfl, rfl⟩ | ⟨rfl, rfl, rfl⟩ | ⟨rfl, rfl, rfl⟩ | ⟨rfl, rfl, rfl⟩ | ⟨rfl, rfl, rfl⟩ | ⟨rfl, rfl, rfl⟩ | ⟨rfl, rfl, rfl⟩ | ⟨rfl, rfl, rfl⟩ | ⟨rfl, rfl, rfl⟩ | ⟨rfl, rfl, rfl⟩ | ⟨rfl, rfl, rfl⟩ | ⟨rfl, rfl, rfl⟩ | ⟨rfl, rfl, rfl⟩ | ⟨rfl, rfl, rfl⟩ | ⟨rfl, rfl, rfl⟩ | ⟨rfl, rfl, rfl⟩ | ⟨rfl, rfl, rfl⟩ | ⟨rfl, rfl, rfl⟩ | ⟨rfl, rfl, rfl⟩ | ⟨rfl, rfl, rfl⟩ | ⟨rfl, rfl, rfl⟩ | ⟨rfl, rfl, rfl⟩ | ⟨rfl, rfl, rfl⟩ | ⟨rfl, rfl, rfl⟩ | ⟨rfl, rfl, rfl⟩ | ⟨rfl, rfl, rfl⟩ | ⟨rfl, rfl, rfl⟩
    · exact ⟨d0, top 16, _, f0, _, _, D0, rfl, rfl, F0, sc0, ck0, PySem.W.mg_of X N a0, B0, rfl, fun h => absurd h Bool.false_ne_true⟩
    · exact ⟨d1, top 17, _, f1, _, _, D1, rfl, rfl, F1, sc1, ck1, PySem.W.mg_of X N a1, B1, rfl, fun h => absurd h Bool.false_ne_true⟩
    · exact ⟨d2, top 18, _, f2, _, _, D2, rfl, rfl, F2, sc2, ck2, PySem.W.mg_of X N a2, B2, rfl, fun h => absurd h Bool.false_ne_true⟩
    · exact ⟨d3, top 19, _, f3, _, _, D3, rfl, rfl, F3, sc3, ck3, PySem.W.mg_of X N a3, B3, rfl, fun h => absurd h Bool.false_ne_true⟩
    · exact ⟨d19, top 20, _, f4, _, _, D19, rfl, rfl, F4, sc19, ck19, PySem.W.mg_of X N a4, B4, rfl, fun h => absurd h Bool.false_ne_true⟩
    · exact ⟨d20, top 21, _, f5, _, _, D20, rfl, rfl, F5, sc20, ck20, PySem.W.mg_of X N a5, B5, rfl, fun h => absurd h Bool.false_ne_true⟩
    · exact ⟨d21, top 22, _, f6, _, _, D21, rfl, rfl, F6, sc21, ck21, PySem.W.mg_of X N a6, B6, rfl, fun h => absurd h Bool.false_ne_true⟩
    · exact ⟨d22, top 23, _, f7, _, _, D22, rfl, rfl, F7, sc22, ck22, PySem.W.mg_of X N a7, B7, rfl, fun h => absurd h Bool.false_ne_true⟩
    · exact ⟨d23, top 24, _, f8, _, _, D23, rfl, rfl, F8, sc23, ck23, PySem.W.mg_of X N a8, B8, rfl, fun h => absurd h Bool.false_ne_true⟩
    · exact ⟨d24, top 25, _, f9, _, _, D24, rfl, rfl, F9, sc24, ck24, PySem.W.mg_of X N a9, B9, rfl, fun h => absurd h Bool.false_ne_true⟩
    · exact ⟨d25, top 26, _, f10, _, _, D25, rfl, rfl, F10, sc25, ck25, PySem.W.mg_of X N a10, B10, rfl, fun h => absurd h Bool.false_ne_true⟩
    · exact ⟨d26, top 27, _, f11, _, _, D26, rfl, rfl, F11, sc26, ck26, PySem.W.mg_of X N a11, B11, rfl, fun h => absurd h Bool.false_ne_true⟩
    · exact ⟨d27, top 28, _, f12, _, _, D27, rfl, rfl, F12, sc27, ck27, PySem.W.mg_of X N a12, B12, rfl, fun h => absurd h Bool.false_ne_true⟩
    · exact ⟨d6, top 30, _, f13, _, _, D6, rfl, rfl, F13, sc6, ck6, PySem.W.mg_of X N a13, B13, rfl, fun h => absurd h Bool.false_ne_true⟩
    · exact ⟨d7, top 31, _, f14, _, _, D7, rfl, rfl, F14, sc7, ck7, PySem.W.mg_of X N a14, B14, rfl, fun h => absurd h Bool.false_ne_true⟩
    · exact ⟨d8, top 32, _, f15, _, _, D8, rfl, rfl, F15, sc8, ck8, PySem.W.mg_of X N a15, B15, rfl, fun h => absurd h Bool.false_ne_true⟩
    · exact ⟨d9, top 33, _, f16, _, _, D9, rfl, rfl, F16, sc9, ck9, PySem.W.mg_of X N a16, B16, rfl, fun h => absurd h Bool.false_ne_true⟩
    · exact ⟨d10, top 34, _, f17, _, _, D10, rfl, rfl, F17, sc10, ck10, PySem.W.mg_of X N a17, B17, rfl, fun h => absurd h Bool.false_ne_true⟩
    · exact ⟨d11, top 36, _, f19, _, _, D11, rfl, rfl, F19, sc11, ck11, PySem.W.mg_of X N a19, B19, rfl, fun h => absurd h Bool.false_ne_true⟩
    · exact ⟨d12, top 37, _, f20, _, _, D12, rfl, rfl, F20, sc12, ck12, PySem.W.mg_of X N a20, B20, rfl, fun h => absurd h Bool.false_ne_true⟩
    · exact ⟨d13, top 38, _, f21, _, _, D13, rfl, rfl, F21, sc13, ck13, PySem.W.mg_of X N a21, B21, rfl, fun h => absurd h Bool.false_ne_true⟩
    · exact ⟨d14, top 39, _, f22, _, _, D14, rfl, rfl, F22, sc14, ck14, PySem.W.mg_of X N a22, B22, rfl, fun h => absurd h Bool.false_ne_true⟩
    · exact ⟨d15, top 40, _, f23, _, _, D15, rfl, rfl, F23, sc15, ck15, PySem.W.mg_of X N a23, B23, rfl, fun h => absurd h Bool.false_ne_true⟩
    · exact ⟨d16, top 41, _, f24, _, _, D16, rfl, rfl, F24, sc16, ck16, PySem.W.mg_of X N a24, B24, rfl, fun h => absurd h Bool.false_ne_true⟩
    · exact ⟨d29, top 42, _, f25, _, _, D29, rfl, rfl, F25, sc29, ck29, PySem.W.mg_of X N a25, B25, rfl, fun h => absurd h Bool.false_ne_true⟩
    · exact ⟨d30, top 43, _, f26, _, _, D30, rfl, rfl, F26, sc30, ck30, PySem.W.mg_of X N a26, B26, rfl, fun h => absurd h Bool.false_ne_true⟩
    · exact ⟨d31, top 44, _, f27, _, _, D31, rfl, rfl, F27, sc31, ck31, PySem.W.mg_of X N a27, B27, rfl, fun h => absurd h Bool.false_ne_true⟩
    · exact ⟨d32, top 45, _, f28, _, _, D32, rfl, rfl, F28, sc32, ck32, PySem.W.mg_of X N a28, B28, rfl, fun h => absurd h Bool.false_ne_true⟩
    · exact ⟨d33, top 46, _, f29, _, _, D33, rfl, rfl, F29, sc33, ck33, PySem.W.mg_of X N a29, B29, rfl, fun h => absurd h Bool.false_ne_true⟩
    · exact ⟨d34, top 47, _, fa, _, _, D34, rfl, rfl, F30, sc34, ck34, PySem.W.mg_of X N a30, B30, rfl, fun h => absurd h Bool.false_ne_true⟩
  have k1 : ∀ c r, res c = some r → ClsOk K (clsT [(0, f0), (1, f1), (2, f2), (3, f3), (19, f4), (20, f5), (21, f6), (22, f7), (23, f8), (24, f9), (25, f10), (26, f11), (27, f12), (6, f13), (7, f14), (8, f15), (9, f16), (10, f17), (11, f19), (12, f20), (13, f21), (14, f22), (15, f23), (16, f24), (29, f25), (30, f26), (31, f27), (32, f28), (33, f29), (34, fa)] [(0, C0), (1, C1), (2, C2), (3, C3), (4, C4), (5, C5), (6, C6), (7, C7), (8, C8), (9, C9), (10, C10), (11, C11)] C11 []) sub c := by
    intro c r e
    unfold res at e
    split at e <;> first | exact O1 | exact O2 | (cases e; done)
  have k2 : ∀ c r, res c = some r → PySem.W.exmOne K (.ref ((clsT [(0, f0), (1, f1), (2, f2), (3, f3), (19, f4), (20, f5), (21, f6), (22, f7), (23, f8), (24, f9), (25, f10), (26, f11), (27, f12), (6, f13), (7, f14), (8, f15), (9, f16), (10, f17), (11, f19), (12, f20), (13, f21), (14, f22), (15, f23), (16, f24), (29, f25), (30, f26), (31, f27), (32, f28), (33, f29), (34, fa)] [(0, C0), (1, C1), (2, C2), (3, C3), (4, C4), (5, C5), (6, C6), (7, C7), (8, C8), (9, C9), (10, C10), (11, C11)] C11 []).cls c)) (.ref C0) = some true := by
    intro c r e
    unfold res at e
    split at e <;> first | exact PySem.W.exm_ref hf1 hf2 hf3 u1 | exact PySem.W.exm_ref hf1 hf2 hf3 u2 | (cases e; done)
  have L : ∀ base : Heap, (∀ p ∈ ([] : List (Addr × Addr)), LamX.TabB base mg p.1 p.2) → Lw defs sub res gc (clsT [(0, f0), (1, f1), (2, f2), (3, f3), (19, f4), (20, f5), (21, f6), (22, f7), (23, f8), (24, f9), (25, f10), (26, f11), (27, f12), (6, f13), (7, f14), (8, f15), (9, f16), (10, f17), (11, f19), (12, f20), (13, f21), (14, f22), (15, f23), (16, f24), (29, f25), (30, f26), (31, f27), (32, f28), (33, f29), (34, fa)] [(0, C0), (1, C1), (2, C2), (3, C3), (4, C4), (5, C5), (6, C6), (7, C7), (8, C8), (9, C9), (10, C10), (11, C11)] C11 []) P w K mg base := fun base TB =>
    ⟨zn, nn, cm, rr, fun f n j e => (ff f n j e).imp fun d h => h.imp fun st h => h.imp fun qual h => h.imp fun a h => h.imp fun fd h => h.imp fun ps ⟨h1, h2, h3, h4, h5, h6, h7, h8, h9, h10⟩ => ⟨h1, h2, h3, h4, h5, h6, h7, h8, h9, fun z => (h10 z).imp fun c0 h => h.imp fun P0 ⟨g1, g2, g3, g4⟩ => ⟨g1, g2, g3, g4 base TB⟩⟩, fun x told h => by cases h, fun _ => rfl, fun _ => ⟨d28, top 35, _, f18, _, _, C0, F18, sc28, rfl, ck28, PySem.W.mg_of X N a18, B18, PySem.W.mg_of X N cA0, k1, k2, hres⟩⟩
  exact ⟨_, fun s v => .of_eq rfl, fun base _ _ TB => ((L base TB).one 19 (f := 34) (d := d34) D34 F30 sc34 rfl ck34 fun h => absurd h Bool.false_ne_true).imp (law_imp (G := (clsT [(0, f0), (1, f1), (2, f2), (3, f3), (19, f4), (20, f5), (21, f6), (22, f7), (23, f8), (24, f9), (25, f10), (26, f11), (27, f12), (6, f13), (7, f14), (8, f15), (9, f16), (10, f17), (11, f19), (12, f20), (13, f21), (14, f22), (15, f23), (16, f24), (29, f25), (30, f26), (31, f27), (32, f28), (33, f29), (34, fa)] [(0, C0), (1, C1), (2, C2), (3, C3), (4, C4), (5, C5), (6, C6), (7, C7), (8, C8), (9, C9), (10, C10), (11, C11)] C11 [])) law_val)⟩
end
end Lk
open PySem PySem.W PyProof.Rows
set_option maxHeartbeats 0 in
theorem PySem.Challenge.cw_fewdistances_k02_fars_and_tables_holds : PySem.Challenge.rw_fewdistances_k02_fars_and_tables.Holds := by
  w_on; o_law; k_head; (case hw => w_witness2)
  k_fill
  refine' Lk.walk_GL (l := PySem.Challenge.rw_fewdistances_k02_fars_and_tables) (n := 63) (k := 21) (x := "_law_script") (CX := fun w => L2.CX PySem.Challenge.pw_fewdistances_k02_fars_and_tables w) [] rfl (by decide) rfl ⟨⟨rfl, by decide, by decide⟩, rfl⟩ (fun w h Y => PySem.W.kIn_of Y) (fun _ _ _ _ _ z => by obtain ⟨_, _, _, _, _, _, _, _, _, _, _, _, z⟩ := z; exact z) ?F ?hT
  case F =>
    intro w mg fa h KX G hmg
    refine' Lk.all_mk KX G hmg ?a0 ?l0 ?c0 ?k0 ?a1 ?l1 ?c1 ?k1 ?a2 ?l2 ?c2 ?k2 ?a3 ?l3 ?c3 ?k3 ?a4 ?l4 ?c4 ?k4 ?a5 ?l5 ?c5 ?k5 ?a6 ?l6 ?c6 ?k6 ?a7 ?l7 ?c7 ?k7 ?a8 ?l8 ?c8 ?k8 ?a9 ?l9 ?c9 ?k9 ?a10 ?l10 ?c10 ?k10 ?a11 ?l11 ?c11 ?k11 ?a12 ?l12 ?c12 ?k12 ?a13 ?l13 ?c13 ?k13 ?a14 ?l14 ?c14 ?k14 ?a15 ?l15 ?c15 ?k15 ?a16 ?l16 ?c16 ?k16 ?a17 ?l17 ?c17 ?k17 ?a18 ?l18 ?c18 ?k18 ?a19 ?l19 ?c19 ?k19 ?a20 ?l20 ?c20 ?k20 ?a21 ?l21 ?c21 ?k21 ?a22 ?l22 ?c22 ?k22 ?a23 ?l23 ?c23 ?k23 ?a24 ?l24 ?c24 ?k24 ?a25 ?l25 ?c25 ?k25 ?a26 ?l26 ?c26 ?k26 ?a27 ?l27 ?c27 ?k27 ?a28 ?l28 ?c28 ?k28 ?a29 ?l29 ?c29 ?k29 ?a30 ?l30 ?c30 ?k30 ?cA0 ?kc0 ?cA1 ?kc1 ?cA2 ?kc2 ?cA3 ?kc3 ?cA4 ?kc4 ?cA5 ?kc5 ?cA6 ?kc6 ?cA7 ?kc7 ?cA8 ?kc8 ?cA9 ?kc9 ?cA10 ?kc10 ?cA11 ?kc11 ?z0 ?z1 ?z2 ?z3 ?z4 ?z5 ?z6 ?z7 ?z8 ?z9 ?z10 ?z11 ?z12 ?z13 ?z14 ?n0 ?n1 ?x1 ?b1 ?y1 ?e1a ?e1b ?e1c ?e1d ?e1e ?e1f ?e1g ?v1 ?q1_0 ?q1_1 ?q1_2 ?q1_3 ?q1_4 ?q1_5 ?q1_6 ?q1_7 ?q1_8 ?q1_9 ?q1_10 ?q1_11 ?u1 ?x2 ?b2 ?y2 ?e2a ?e2b ?e2c ?e2d ?e2e ?e2f ?e2g ?v2 ?q2_0 ?q2_1 ?q2_2 ?q2_3 ?q2_4 ?q2_5 ?q2_6 ?q2_7 ?q2_8 ?q2_9 ?q2_10 ?q2_11 ?u2 ?hf1 ?hf2 ?hf3
    (case a0 => k_is)
    (case l0 => k_is)
    (case c0 => k_is)
    (case k0 => k_is)
    (case a1 => k_is)
    (case l1 => k_is)
    (case c1 => k_is)
    (case k1 => k_is)
    (case a2 => k_is)
    (case l2 => k_is)
    (case c2 => k_is)
    (case k2 => k_is)
    (case a3 => k_is)
    (case l3 => k_is)
    (case c3 => k_is)
    (case k3 => k_is)
    (case a4 => k_is)
    (case l4 => k_is)
    (case c4 => k_is)
    (case k4 => k_is)
    (case a5 => k_is)
    (case l5 => k_is)
    (case c5 => k_is)
    (case k5 => k_is)
    (case a6 => k_is)
    (case l6 => k_is)
    (case c6 => k_is)
    (case k6 => k_is)
    (case a7 => k_is)
    (case l7 => k_is)
    (case c7 => k_is)
    (case k7 => k_is)
    (case a8 => k_is)
    (case l8 => k_is)
    (case c8 => k_is)
    (case k8 => k_is)
    (case a9 => k_is)
    (case l9 => k_is)
    (case c9 => k_is)
    (case k9 => k_is)
    (case a10 => k_is)
    (case l10 => k_is)
    (case c10 => k_is)
    (case k10 => k_is)
    (case a11 => k_is)
    (case l11 => k_is)
    (case c11 => k_is)
    (case k11 => k_is)
    (case a12 => k_is)
    (case l12 => k_is)
    (case c12 => k_is)
    (case k12 => k_is)
    (case a13 => k_is)
    (case l13 => k_is)
    (case c13 => k_is)
    (case k13 => k_is)
    (case a14 => k_is)
    (case l14 => k_is)
    (case c14 => k_is)
    (case k14 => k_is)
    (case a15 => k_is)
    (case l15 => k_is)
    (case c15 => k_is)
    (case k15 => k_is)
    (case a16 => k_is)
    (case l16 => k_is)
    (case c16 => k_is)
    (case k16 => k_is)
    (case a17 => k_is)
    (case l17 => k_is)
    (case c17 => k_is)
    (case k17 => k_is)
    (case a18 => k_is)
    (case l18 => k_is)
    (case c18 => k_is)
    (case k18 => k_is)
    (case a19 => k_is)
    (case l19 => k_is)
    (case c19 => k_is)
    (case k19 => k_is)
    (case a20 => k_is)
    (case l20 => k_is)
    (case c20 => k_is)
    (case k20 => k_is)
    (case a21 => k_is)
    (case l21 => k_is)
    (case c21 => k_is)
    (case k21 => k_is)
    (case a22 => k_is)
    (case l22 => k_is)
    (case c22 => k_is)
    (case k22 => k_is)
    (case a23 => k_is)
    (case l23 => k_is)
    (case c23 => k_is)
    (case k23 => k_is)
    (case a24 => k_is)
    (case l24 => k_is)
    (case c24 => k_is)
    (case k24 => k_is)
    (case a25 => k_is)
    (case l25 => k_is)
    (case c25 => k_is)
    (case k25 => k_is)
    (case a26 => k_is)
    (case l26 => k_is)
    (case c26 => k_is)
    (case k26 => k_is)
    (case a27 => k_is)
    (case l27 => k_is)
    (case c27 => k_is)
    (case k27 => k_is)
    (case a28 => k_is)
    (case l28 => k_is)
    (case c28 => k_is)
    (case k28 => k_is)
    (case a29 => k_is)
    (case l29 => k_is)
    (case c29 => k_is)
    (case k29 => k_is)
    (case a30 => k_is)
    (case l30 => k_is)
    (case c30 => k_is)
    (case k30 => k_is)
    (case cA0 => k_is)
    (case kc0 => k_is)
    (case cA1 => k_is)
    (case kc1 => k_is)
    (case cA2 => k_is)
    (case kc2 => k_is)
    (case cA3 => k_is)
    (case kc3 => k_is)
    (case cA4 => k_is)
    (case kc4 => k_is)
    (case cA5 => k_is)
    (case kc5 => k_is)
    (case cA6 => k_is)
    (case kc6 => k_is)
    (case cA7 => k_is)
    (case kc7 => k_is)
    (case cA8 => k_is)
    (case kc8 => k_is)
    (case cA9 => k_is)
    (case kc9 => k_is)
    (case cA10 => k_is)
    (case kc10 => k_is)
    (case cA11 => k_is)
    (case kc11 => k_is)
    (case z0 => k_is)
    (case z1 => k_is)
    (case z2 => k_is)
    (case z3 => k_is)
    (case z4 => k_is)
    (case z5 => k_is)
    (case z6 => k_is)
    (case z7 => k_is)
    (case z8 => k_is)
    (case z9 => k_is)
    (case z10 => k_is)
    (case z11 => k_is)
    (case z12 => k_is)
    (case z13 => k_is)
    (case z14 => k_is)
    (case n0 => k_is)
    (case n1 => k_is)
    (case x1 => k_exc)
    (case b1 => k_is)
    (case y1 => k_is)
    (case e1a => k_is)
    (case e1b => k_is)
    (case e1c => k_is)
    (case e1d => k_is)
    (case e1e => k_is)
    (case e1f => k_is)
    (case e1g => k_is)
    (case v1 => first | k_is | rfl)
    (case q1_0 => first | k_is | rfl)
    (case q1_1 => first | k_is | rfl)
    (case q1_2 => first | k_is | rfl)
    (case q1_3 => first | k_is | rfl)
    (case q1_4 => first | k_is | rfl)
    (case q1_5 => first | k_is | rfl)
    (case q1_6 => first | k_is | rfl)
    (case q1_7 => first | k_is | rfl)
    (case q1_8 => first | k_is | rfl)
    (case q1_9 => first | k_is | rfl)
    (case q1_10 => first | k_is | rfl)
    (case q1_11 => first | k_is | rfl)
    (case u1 => k_is)
    (case x2 => k_exc)
    (case b2 => k_is)
    (case y2 => k_is)
    (case e2a => k_is)
    (case e2b => k_is)
    (case e2c => k_is)
    (case e2d => k_is)
    (case e2e => k_is)
    (case e2f => k_is)
    (case e2g => k_is)
    (case v2 => first | k_is | rfl)
    (case q2_0 => first | k_is | rfl)
    (case q2_1 => first | k_is | rfl)
    (case q2_2 => first | k_is | rfl)
    (case q2_3 => first | k_is | rfl)
    (case q2_4 => first | k_is | rfl)
    (case q2_5 => first | k_is | rfl)
    (case q2_6 => first | k_is | rfl)
    (case q2_7 => first | k_is | rfl)
    (case q2_8 => first | k_is | rfl)
    (case q2_9 => first | k_is | rfl)
    (case q2_10 => first | k_is | rfl)
    (case q2_11 => first | k_is | rfl)
    (case u2 => k_is)
    (case hf1 => k_is)
    (case hf2 => k_is)
    (case hf3 => k_is)
  case hT => exact fun w h Y p hp => absurd hp (by simp)

